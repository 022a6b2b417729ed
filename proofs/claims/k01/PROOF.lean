import PyProof.Rows.All
import Wide.All
import OpenK.AllK
import Wide.FinOn
import HandS.ForMost
import KE.KExcLine
import PySem.Syntax
import HandS.Text
import HandS.Style
import HandS.IsInst
import HandS.Wide
import HandS.TupAny
import HandS.Exc
import HandS.CallSlots
import HandS.WordsExc
import PySem.Eval
import KE.KExcSuper
import KE.KSuper
import KE.KExcIs
import HandS.ExcInit
import HandS.ExcSuper
import HandS.ExcField
import HandS.TryOnly
import HandS.TryMany
import HandS.Property
import HandS.Codes
import HandS.SlotsOwn
import PyProof.LongRange
import PyProof.Rows.SumAny
import HandS.TupMul
import HandS.SortInts
import HandS.Conv
import HandS.Iter
import KE.GoesMore
import KE.GoesEnum
import HandS.ExcIs
import PySem.Challenge.RW_heaplevels_k01_heaps_refused
section
set_option linter.all false
set_option autoImplicit true
/-! EvDef: the small language, its evaluator over pure data. -/
namespace Ev
open PySem

/-! ### data -/
inductive P where
  | non | bl (b : Bool) | int (i : Int) | str (x : Str)
  | tup (ds : List P) | lst (ds : List P) | sq (ds : List P)
  | obj (c : Nat) (ns : List Str) (ds : List P)
inductive D where
  | pur (p : P) | cel (k : Nat) | loc (k : Nat)
inductive Cell where
  | lst (ds : List D)
  | ins (c : Nat) (fs : List (Str × D))
structure Exc where
  cls : Nat
  fs : List (Str × P)
/-- slots, cells, the def's own lists -/
structure S where
  r : List (Option D)
  m : List Cell
  l : List (Option (List P))
inductive R (α : Type) where
  | st | ok (a : α) (s : S) | ex (x : Exc) (s : S)
def R.bind {α β : Type} (r : R α) (k : α → S → R β) : R β := match r with
  | .st => .st
  | .ok a s => k a s
  | .ex x s => .ex x s
/-- a def's result -/
inductive RF where
  | st | ok (d : D) (m : List Cell) | ex (x : Exc) (m : List Cell)
abbrev Fn := List D → List Cell → RF

def line : Nat := 16777216
mutual
def eqP : P → P → Bool
  | .non, .non => true
  | .bl a, .bl b => a == b
  | .bl a, .int j => (if a then 1 else 0) == j
  | .int i, .bl b => i == (if b then 1 else 0)
  | .int i, .int j => i == j
  | .str x, .str y => x == y
  | .tup xs, .tup ys => eqPs xs ys
  | .lst xs, .lst ys => eqPs xs ys
  | _, _ => false
def eqPs : List P → List P → Bool
  | [], [] => true
  | x :: xs, y :: ys => eqP x y && eqPs xs ys
  | _, _ => false
end
mutual
/-- what == may compare as data -/
def lay : P → Bool
  | .non | .bl _ | .int _ => true
  | .str x => x.cps.all fun c => decide (c < 1114112)
  | .tup xs | .lst xs => lays xs
  | .obj _ _ _ => false
  | .sq _ => false
def lays : List P → Bool
  | [] => true
  | x :: xs => lay x && lays xs
end
mutual
def dep : P → Nat
  | .non | .bl _ | .int _ | .str _ | .obj _ _ _ | .sq _ => 0
  | .tup xs | .lst xs => deps xs + 1
def deps : List P → Nat
  | [] => 0
  | x :: xs => max (dep x) (deps xs)
end
def eqOK (p : P) : Bool := lay p && decide (dep p ≤ 64)
def cEq : P → P → Option Bool
  | .str x, .str y => some (x == y)
  | p, q => if eqOK p && eqOK q then some (eqP p q) else none
def flatP : P → Bool
  | .non | .bl _ | .int _ | .str _ => true
  | _ => false
def inP (x : P) (xs : List P) : Bool := xs.any fun y => eqP y x

def ixOf (n : Nat) (i : Int) : Option Nat := if 0 ≤ i then (if i < n then some i.toNat else none) else if -(n : Int) ≤ i then some (i + n).toNat else none
def atP {α : Type} (xs : List α) (i : Int) : Option α := (ixOf xs.length i).bind fun j => xs[j]?
def sIx (n d : Nat) : Option Int → Nat
  | none => d
  | some v => if v < 0 then (v + (n : Int)).toNat else min v.toNat n
def cutP {α : Type} (xs : List α) (lo hi : Option Int) : List α := (xs.drop (sIx xs.length 0 lo)).take (sIx xs.length xs.length hi - sIx xs.length 0 lo)

def p64 : Int := 18446744073709551616
def mulOK (i j : Int) : Bool := (decide (-p64 < i) && decide (i < p64)) || (decide (-p64 < j) && decide (j < p64)) || (decide (i.natAbs.log2 < 400000) && decide (j.natAbs.log2 < 400000))
def binP : Operator → P → P → Option P
  | .Add, .int i, .int j => some (.int (i + j))
  | .Sub, .int i, .int j => some (.int (i - j))
  | .Mult, .int i, .int j => if mulOK i j then some (.int (i * j)) else none
  | .FloorDiv, .int i, .int j => if decide (0 < j) && decide (j < p64) then some (.int (i / j)) else none
  | .Mod, .int i, .int j => if 0 < j then some (.int (i % j)) else none
  | .Pow, .int i, .int j => if decide (0 ≤ j) && decide (j ≤ 1000) && decide (-p64 < i) && decide (i < p64) then some (.int (i ^ j.toNat)) else none
  | .Add, .str x, .str y => if x.length + y.length ≤ line then some (.str (x ++ y)) else none
  | .Add, .lst xs, .lst ys => if xs.length + ys.length ≤ line then some (.lst (xs ++ ys)) else none
  | .Add, .tup xs, .tup ys => if xs.length + ys.length ≤ line then some (.tup (xs ++ ys)) else none
  | .Mult, .lst xs, .int k => if decide (0 ≤ k) && decide (k ≤ 1000) && decide (xs.length * k.toNat ≤ line) then some (.lst (List.replicate k.toNat xs).flatten) else none
  | .Mult, .tup xs, .int k => if !xs.isEmpty && decide (2 ≤ k) && decide (k ≤ 1000) && decide (xs.length ≤ 1000) then some (.tup (List.replicate k.toNat xs).flatten) else none
  | .Mult, .str x, .int k => if decide (0 ≤ k) && decide (k ≤ 1000) && decide (x.length ≤ 1000) then some (.str (Txt.mul x k)) else none
  | _, _, _ => none
def cmpP : CmpOp → P → P → Option Bool
  | .Eq, p, q => cEq p q
  | .NotEq, p, q => (cEq p q).map (!·)
  | .Lt, .int i, .int j => some (decide (i < j))
  | .LtE, .int i, .int j => some (decide (i ≤ j))
  | .Gt, .int i, .int j => some (decide (j < i))
  | .GtE, .int i, .int j => some (decide (j ≤ i))
  | .In, x, .tup ys | .In, x, .lst ys => if flatP x && ys.all flatP then some (inP x ys) else none
  | .NotIn, x, .tup ys | .NotIn, x, .lst ys => if flatP x && ys.all flatP then some (!inP x ys) else none
  | _, _, _ => none

/-! ### the language -/
inductive Ty where
  | int | bool | str | tuple | list | dict | cls (c : Nat)
  deriving DecidableEq
inductive B where
  | len | sum | all | int | list | tuple | max | min | str | sorted
  deriving DecidableEq
inductive M where
  | append | extend | pop | reverse | join | split
  deriving DecidableEq
/-- an except clause: what its one row stores -/
inductive HTm where
  | cst (p : P) | fld (f : Str) | lst (f : Str) | tup (f g : Str)
/-- except C as (slot nm): (slot i) = t, perhaps t if isinstance(it, isx) else .. -/
structure Hd where
  c : Nat
  nm : Option Nat
  i : Nat
  isx : Option Nat
  t : HTm
inductive T where
  | nm (i : Nat) | tp (is : List Nat)
  deriving DecidableEq
mutual
inductive E where
  | slot (i : Nat) | frz (i : Nat) | cst (p : P) | glb (x : Str)
  | tup (es : Es) | lst (es : Es) | lstL (es : Es) | lstC (es : Es)
  | bin (o : Operator) (a b : E) | neg (a : E)
  | cmp (o : CmpOp) (a b : E) | chn (o o' : CmpOp) (a b c : E)
  | bop (o : BoolOp) (es : Es) | not (a : E) | ite (c a b : E)
  | idx (a i : E) | slc (a : E) (lo hi : Eo) | rev (a : E)
  | dsel (ks : List Str) (es : Es) (k : E)
  | isi (a : E) (t : Ty) | isT (a : E) (ts : List Ty)
  | bif (f : B) (es : Es) | listC (a : E)
  | mth (o : E) (m : M) (es : Es)
  | fld (a : E) (f : Str)
  | call (f : Nat) (es : Es) | calp (f : Nat) (es : Es) | calp0 (f : Nat)
  | mkf (c : Nat) (es : Es)
  | meth (c : Nat) (m : Str) (i : Nat) (o : E) (es : Es)
  | prop (c : Nat) (m : Str) (i : Nat) (o : E)
  | opc (o : CmpOp) (c i : Nat) (a b : E)
  | opb (o : Operator) (c i : Nat) (a b : E)
  | isc (c : Nat) (a : E)
  | lenO (c i : Nat) (a : E)
  | spl (o e : E) | joi (o e : E)
  | mkc (c : Nat) (es : Es)
  | lrg (a : E)
  | lc (elt : E) (t : T) (it : I) (cond : Es) (own : List Nat)
inductive Es where
  | nil | cons (e : E) (es : Es) | star (e : E) (es : Es)
inductive Eo where
  | none | some (e : E)
inductive I where
  | seq (e : E) | rng1 (a : E) | rng2 (a b : E) | enu (e : E)
end
mutual
inductive Stm where
  | asg (i : Nat) (e : E)
  | unp (is : List Nat) (e : E)
  | par (is : List Nat) (es : Es)
  | sto2 (o1 i1 o2 i2 : E) (es : Es)
  | sto (o i e : E) | augs (op : Operator) (o i e : E) | aug (op : Operator) (i : Nat) (e : E)
  | stf (o : E) (f : Str) (e : E)
  | augf (op : Operator) (o : E) (f : Str) (e : E)
  | exp (e : E) | ret (e : E) | ret0
  | ifs (c : E) (a b : Stms)
  | forr (t : T) (it : I) (b : Stms) | whil (c : E) (b : Stms)
  | rai (c : Nat) (es : Es) | tryS (b : Stms) (hs : List Hd)
  | pas | brk | con | nev
inductive Stms where
  | nil | cons (s : Stm) (r : Stms)
end

structure Cfg where
  fns : Nat → Fn := fun _ _ _ => .st
  glb : Str → Option P := fun _ => none
  ini : Nat → Fn := fun _ _ _ => .st
  mts : Nat → Fn := fun _ _ _ => .st
  prs : Nat → Fn := fun _ _ _ => .st
  fa : Nat → Str → Bool := fun _ _ => false
  fuel : Nat := 1000
  xf : Nat → Option (List Str) := fun _ => none

/-! ### the evaluator -/
def purs : List D → Option (List P)
  | [] => some []
  | .pur p :: r => (purs r).map (p :: ·)
  | _ :: _ => none
def noloc : List D → Bool
  | [] => true
  | .loc _ :: _ => false
  | _ :: r => noloc r
def wipe (r : List (Option D)) : List Nat → List (Option D)
  | [] => r
  | v :: vs => (wipe r vs).set v none
def R.pure {α : Type} (o : Option α) (s : S) : R α := match o with
  | some a => .ok a s
  | none => .st
def setN (r : List (Option D)) : List Nat → List D → Option (List (Option D))
  | [], [] => some r
  | i :: is, d :: ds => setN (r.set i (some d)) is ds
  | _, _ => none
def asgT : T → D → S → Option S
  | .nm i, d, s => some { s with r := s.r.set i (some d) }
  | .tp is, .pur (.tup ps), s => (setN s.r is (ps.map D.pur)).map fun r => { s with r := r }
  | _, _, _ => none
/-- the items of a comprehension, one after another -/
def compF (t : T) (own : List Nat) (r0 : List (Option D)) (c : S → R Bool) (f : S → R D) : List P → S → R (List P)
  | [], s => .ok [] { s with r := r0 }
  | x :: xs, s => match asgT t (.pur x) { s with r := wipe r0 own } with
    | none => .st
    | some s1 => match c s1 with
      | .ok false s2 => compF t own r0 c f xs s2
      | .ok true s2 => (match f s2 with
        | .ok (.pur p) s3 => (match compF t own r0 c f xs s3 with
          | .ok ps s4 => .ok (p :: ps) s4
          | _ => .st)
        | _ => .st)
      | _ => .st
def idxD (s : S) : D → D → Option D
  | .pur (.lst ps), .pur (.int i) => (atP ps i).map D.pur
  | .pur (.tup ps), .pur (.int i) => (atP ps i).map D.pur
  | .cel k, .pur (.int i) => match s.m[k]? with
    | some (.lst ds) => atP ds i
    | _ => none
  | .loc k, .pur (.int i) => match s.l[k]? with
    | some (some ps) => (atP ps i).map D.pur
    | _ => none
  | _, _ => none
def idxM (s : S) (x y : D) : Option D := match x with
  | .pur _ => none
  | x => idxD s x y
def binD (s : S) (o : Operator) : D → D → Option P
  | .pur p, .pur q => binP o p q
  | .cel k, .pur (.lst qs) => match o, s.m[k]? with
    | .Add, some (.lst ds) => (purs ds).bind fun ps => if ps.length + qs.length ≤ line then some (.lst (ps ++ qs)) else none
    | _, _ => none
  | _, _ => none
def isNon : D → Bool
  | .pur .non => true
  | _ => false
def cmpD (o : CmpOp) : D → D → Option Bool
  | a, b => match o with
    | .Is => if isNon b then some (isNon a) else none
    | .IsNot => if isNon b then some (!isNon a) else none
    | o => match a, b with
      | .pur p, .pur q => cmpP o p q
      | _, _ => none
def slcP : P → Option Int → Option Int → Option P
  | .lst ps, lo, hi => some (.lst (cutP ps lo hi))
  | .tup ps, lo, hi => some (.tup (cutP ps lo hi))
  | _, _, _ => none
def dselP : List Str → List P → P → Option P
  | k :: ks, p :: ps, .str x => if x == k then some p else dselP ks ps (.str x)
  | _, _, _ => none
def isTy : P → Ty → Option Bool
  | .non, .cls _ => none
  | .non, _ => some false
  | .bl _, .int => some true
  | .bl _, .bool => some true
  | .bl _, .cls _ => none
  | .bl _, _ => some false
  | .int _, .int => some true
  | .int _, .cls _ => none
  | .int _, _ => some false
  | .str _, .str => some true
  | .str _, .cls _ => none
  | .str _, _ => some false
  | .tup _, .tuple => some true
  | .tup _, .cls _ => none
  | .tup _, _ => some false
  | .lst _, .list => some true
  | .lst _, .cls _ => none
  | .lst _, _ => some false
  | .obj _ _ _, _ => none
  | .sq _, _ => none
def isTys (p : P) : List Ty → Option Bool
  | [] => some false
  | t :: ts => match isTy p t with
    | some true => some true
    | some false => isTys p ts
    | none => none
def intsP : List P → Option (List Int)
  | [] => some []
  | .int i :: r => (intsP r).map (i :: ·)
  | _ :: _ => none
def blsP : List P → Option (List Bool)
  | [] => some []
  | .bl i :: r => (blsP r).map (i :: ·)
  | _ :: _ => none
def lenD (s : S) : D → Option Nat
  | .pur (.lst ps) => some ps.length
  | .pur (.tup ps) => some ps.length
  | .loc k => match s.l[k]? with
    | some (some ps) => some ps.length
    | _ => none
  | .cel k => match s.m[k]? with
    | some (.lst ds) => some ds.length
    | _ => none
  | _ => none
def insI (x : Int) : List Int → List Int
  | [] => [x]
  | y :: ys => if x ≤ y then x :: y :: ys else y :: insI x ys
def sortI : List Int → List Int
  | [] => []
  | x :: xs => insI x (sortI xs)
def bifD (s : S) : B → List D → Option P
  | .len, [d] => (lenD s d).map fun (n : Nat) => P.int (n : Int)
  | .sum, [.pur (.lst ps)] => (intsP ps).map fun ns => .int ns.sum
  | .sum, [.pur (.tup ps)] => (intsP ps).map fun ns => .int ns.sum
  | .all, [.pur (.lst ps)] => (blsP ps).map fun bs => .bl (bs.all id)
  | .int, [.pur (.int i)] => some (.int i)
  | .str, [.pur (.int i)] => if i.natAbs.log2 < 1920 then some (.str (toString i)) else none
  | .int, [.pur (.str a)] => if a.length ≤ 640 then (PySem.intText? a).map P.int else none
  | .int, [.pur (.bl b)] => some (.int (if b then 1 else 0))
  | .tuple, [.pur (.lst ps)] => some (.tup ps)
  | .tuple, [.pur (.tup ps)] => some (.tup ps)
  | .list, [.pur (.lst ps)] => some (.lst ps)
  | .list, [.pur (.tup ps)] => some (.lst ps)
  | .sorted, [.pur (.lst ps)] => (intsP ps).map fun ns => .lst ((sortI ns).map P.int)
  | .max, [.pur (.int i), .pur (.int j)] => some (.int (if j > i then j else i))
  | .min, [.pur (.int i), .pur (.int j)] => some (.int (if j < i then j else i))
  | _, _ => none
def fldD (fa : Nat → Str → Bool) (s : S) : D → Str → Option D
  | .pur (.obj c ns ds), f => if fa c f then ((ns.zip ds).lookup f).map D.pur else none
  | .cel k, f => match s.m[k]? with
    | some (.ins c fs) => if fa c f then fs.lookup f else none
    | _ => none
  | _, _ => none
def callF (F : Fn) (ds : List D) (s : S) : R D := if noloc ds then (match F ds s.m with
  | .st => .st
  | .ok d m => .ok d { s with m := m }
  | .ex x m => .ex x { s with m := m }) else .st
def calpF (F : Fn) (ds : List D) (s : S) : R D := match purs ds with
  | none => .st
  | some _ => match F ds [] with
    | .ok (.pur p) _ => .ok (.pur p) s
    | .ex x _ => .ex x s
    | _ => .st
def clp0F (F : Fn) (s : S) : R D := match F [] [] with
  | .ok (.pur p) _ => .ok (.pur p) s
  | _ => .st
def pfs : List (Str × D) → Option (List Str × List P)
  | [] => some ([], [])
  | (f, .pur p) :: r => (pfs r).map fun (ns, ps) => (f :: ns, p :: ps)
  | _ :: _ => none
def mkfF (c : Nat) (F : Fn) (ds : List D) (s : S) : R D := match purs ds with
  | none => .st
  | some _ => match F (.cel 0 :: ds) [.ins c []] with
    | .ok (.pur .non) [.ins c' fs] => if c' == c then (match pfs fs with
      | some (ns, ps) => .ok (.pur (.obj c ns ps)) s
      | none => .st) else .st
    | .ex x _ => .ex x s
    | _ => .st
/-- an instance of the class c -/
def isObj (s : S) (c : Nat) : D → Bool
  | .pur (.obj c' _ _) => c' == c
  | .cel k => match s.m[k]? with
    | some (.ins c' _) => c' == c
    | _ => false
  | _ => false
/-- .. that has no attribute m of its own -/
def isRec (s : S) (c : Nat) (m : Str) : D → Bool
  | .pur (.obj c' ns _) => c' == c && !ns.contains m
  | .cel k => match s.m[k]? with
    | some (.ins c' fs) => c' == c && (fs.lookup m).isNone
    | _ => false
  | _ => false
def calmF (F : Fn) (x : D) (ds : List D) (s : S) : R D := match x with
  | .pur _ => calpF F (x :: ds) s
  | _ => callF F (x :: ds) s
/-- a property: nothing is raised -/
def prpF (F : Fn) (x : D) (s : S) : R D := match x with
  | .pur _ => (match F [x] [] with
    | .ok (.pur p) [] => .ok (.pur p) s
    | _ => .st)
  | _ => if noloc [x] then (match F [x] s.m with
    | .ok d m => .ok d { s with m := m }
    | _ => .st) else .st
/-- x op y by the class's own def; the answer is data -/
def ownF (F : Fn) (c : Nat) (x y : D) (s : S) : R D := match x, y with
  | .pur (.obj c1 _ _), .pur (.obj c2 _ _) => if c1 == c && c2 == c then calpF F [x, y] s else .st
  | _, _ => .st
def ownRes (r : RF) (s : S) : R D := match r with
  | .ok (.pur p) [] => .ok (.pur p) s
  | _ => .st
/-- x == y by the class's own def, y may be a tuple; nothing is raised -/
def ownC (F : Fn) (c : Nat) (x y : D) (s : S) : R D := match x, y with
  | .pur (.obj c1 _ _), .pur (.obj c2 _ _) => if c1 == c && c2 == c then ownRes (F [x, y] []) s else .st
  | .pur (.obj c1 _ _), .pur (.tup _) => if c1 == c then ownRes (F [x, y] []) s else .st
  | _, _ => .st
/-- len(x) by the class's own def -/
def lenRes (r : RF) (s : S) : R D := match r with
  | .ok (.pur (.int n)) [] => if decide (0 ≤ n) && decide (n < 4611686018427387904) then .ok (.pur (.int n)) s else .st
  | _ => .st
def lenF (F : Fn) (c : Nat) (x : D) (s : S) : R D := match x with
  | .pur (.obj c1 _ _) => if c1 == c then lenRes (F [x] []) s else .st
  | _ => .st
def strsP : List P → Option (List Str)
  | [] => some []
  | .str x :: r => (strsP r).map (x :: ·)
  | _ :: _ => none
def splD (a : Str) : D → Option P
  | .pur (.str b) => if !(b.length == 0) && decide (a.length + 2 ≤ line) then some (.lst ((Txt.split a b).map P.str)) else none
  | _ => none
def joiD (a : Str) : D → Option P
  | .pur (.lst ps) => (strsP ps).bind fun ys => if (ys.map (·.length)).sum + ys.length * a.length ≤ line then some (.str (Txt.join a ys)) else none
  | .pur (.tup ps) => (strsP ps).bind fun ys => if (ys.map (·.length)).sum + ys.length * a.length ≤ line then some (.str (Txt.join a ys)) else none
  | _ => none
/-- C(..) as a cell -/
def mkcF (c : Nat) (F : Fn) (ds : List D) (s : S) : R D := if noloc ds then (match F (.cel s.m.length :: ds) (s.m ++ [.ins c []]) with
  | .ok (.pur .non) m => .ok (.cel s.m.length) { s with m := m }
  | _ => .st) else .st
/-- the receiver is one that has the method -/
def recv (s : S) : D → M → Bool
  | .loc k, .append | .loc k, .extend => match s.l[k]? with
    | some (some _) => true
    | _ => false
  | _, _ => false
def mthD (s : S) : D → M → List D → R D
  | .loc k, .append, [.pur p] => match s.l[k]? with
    | some (some ps) => if ps.length < line then .ok (.pur .non) { s with l := s.l.set k (some (ps ++ [p])) } else .st
    | _ => .st
  | .loc k, .extend, [.pur (.lst qs)] => match s.l[k]? with
    | some (some ps) => if ps.length + qs.length ≤ line then .ok (.pur .non) { s with l := s.l.set k (some (ps ++ qs)) } else .st
    | _ => .st
  | _, _, _ => .st
def rngP (lo : Int) (n : Nat) : List P := (List.range n).map fun (i : Nat) => P.int (lo + (i : Int))
def seqP : P → Option (List P)
  | .lst ps => some ps
  | .tup ps => some ps
  | .sq ps => some ps
  | _ => none
def enuP : Int → List P → List P
  | _, [] => []
  | k, p :: ps => .tup [.int k, p] :: enuP (k + 1) ps
def p62 : Int := 4611686018427387904
mutual
def evE (Γ : Cfg) : E → S → R D
  | .slot i, s => R.pure (s.r[i]?.bind id) s
  | .frz i, s => match s.r[i]? with
    | some (some (.loc k)) => (match s.l[k]? with
      | some (some ps) => .ok (.pur (.lst ps)) { s with l := s.l.set k none, r := s.r.set i (some (.pur (.lst ps))) }
      | _ => .st)
    | some (some (.pur p)) => .ok (.pur p) s
    | _ => .st
  | .cst p, s => .ok (.pur p) s
  | .glb x, s => R.pure ((Γ.glb x).map D.pur) s
  | .tup es, s => (evEs Γ es s).bind fun ds s => match purs ds with
    | some ps => if ps.length ≤ line then .ok (.pur (.tup ps)) s else .st
    | none => .st
  | .lst es, s => (evEs Γ es s).bind fun ds s => match purs ds with
    | some ps => if ps.length ≤ line then .ok (.pur (.lst ps)) s else .st
    | none => .st
  | .lstL es, s => (evEs Γ es s).bind fun ds s => match purs ds with
    | some ps => if ps.length ≤ line then .ok (.loc s.l.length) { s with l := s.l ++ [some ps] } else .st
    | none => .st
  | .lstC es, s => (evEs Γ es s).bind fun ds s => if noloc ds && decide (ds.length ≤ line) then .ok (.cel s.m.length) { s with m := s.m ++ [.lst ds] } else .st
  | .bin o a b, s => (evE Γ a s).bind fun x s => (evE Γ b s).bind fun y s => R.pure ((binD s o x y).map D.pur) s
  | .neg a, s => (evE Γ a s).bind fun x s => match x with
    | .pur (.int i) => .ok (.pur (.int (-i))) s
    | _ => .st
  | .cmp o a b, s => (evE Γ a s).bind fun x s => (evE Γ b s).bind fun y s => R.pure ((cmpD o x y).map fun k => .pur (.bl k)) s
  | .chn o o' a b c, s => (evE Γ a s).bind fun x s => (evE Γ b s).bind fun y s => match cmpD o x y with
    | some true => (evE Γ c s).bind fun z s => R.pure ((cmpD o' y z).map fun k => .pur (.bl k)) s
    | some false => .ok (.pur (.bl false)) s
    | none => .st
  | .bop o es, s => evB Γ o es s
  | .not a, s => (evE Γ a s).bind fun x s => match x with
    | .pur (.bl k) => .ok (.pur (.bl (!k))) s
    | _ => .st
  | .ite c a b, s => (evE Γ c s).bind fun x s => match x with
    | .pur (.bl true) => evE Γ a s
    | .pur (.bl false) => evE Γ b s
    | _ => .st
  | .idx a i, s => (evE Γ a s).bind fun x s => (evE Γ i s).bind fun y s => R.pure (idxD s x y) s
  | .slc a lo hi, s => (evE Γ a s).bind fun x s => (evO Γ lo s).bind fun l s => (evO Γ hi s).bind fun h s => match x with
    | .pur p => R.pure ((slcP p l h).map D.pur) s
    | _ => .st
  | .rev a, s => (evE Γ a s).bind fun x s => match x with
    | .pur (.lst ps) => .ok (.pur (.lst ps.reverse)) s
    | .pur (.tup ps) => .ok (.pur (.tup ps.reverse)) s
    | _ => .st
  | .dsel ks es k, s => (evEs Γ es s).bind fun ds s => (evE Γ k s).bind fun y s => match purs ds, y with
    | some ps, .pur p => R.pure ((dselP ks ps p).map D.pur) s
    | _, _ => .st
  | .isi a t, s => (evE Γ a s).bind fun x s => match x with
    | .pur p => R.pure ((isTy p t).map fun k => .pur (.bl k)) s
    | _ => .st
  | .isT a ts, s => (evE Γ a s).bind fun x s => match x with
    | .pur p => R.pure ((isTys p ts).map fun k => .pur (.bl k)) s
    | _ => .st
  | .bif f es, s => (evEs Γ es s).bind fun ds s => R.pure ((bifD s f ds).map D.pur) s
  | .listC a, s => (evE Γ a s).bind fun x s => match x with
    | .pur (.lst ps) => .ok (.cel s.m.length) { s with m := s.m ++ [.lst (ps.map D.pur)] }
    | .pur (.sq ps) => .ok (.cel s.m.length) { s with m := s.m ++ [.lst (ps.map D.pur)] }
    | _ => .st
  | .lrg a, s => (evE Γ a s).bind fun x s => match x with
    | .pur (.int j) => if decide (-1000000 ≤ j) && decide (j ≤ 1000000) then .ok (.pur (.lst (rngP 0 j.toNat))) s else .st
    | _ => .st
  | .mth o m es, s => (evE Γ o s).bind fun x s => if recv s x m then (evEs Γ es s).bind fun ds s => mthD s x m ds else .st
  | .fld a f, s => (evE Γ a s).bind fun x s => R.pure (fldD Γ.fa s x f) s
  | .call f es, s => (evEs Γ es s).bind fun ds s => callF (Γ.fns f) ds s
  | .calp f es, s => (evEs Γ es s).bind fun ds s => calpF (Γ.fns f) ds s
  | .calp0 f, s => clp0F (Γ.fns f) s
  | .mkf c es, s => (evEs Γ es s).bind fun ds s => mkfF c (Γ.ini c) ds s
  | .meth c m i o es, s => (evE Γ o s).bind fun x s => if isRec s c m x then (evEs Γ es s).bind fun ds s => calmF (Γ.mts i) x ds s else .st
  | .prop c _ i o, s => (evE Γ o s).bind fun x s => if isObj s c x then prpF (Γ.prs i) x s else .st
  | .opc _ c i a b, s => (evE Γ a s).bind fun x s => (evE Γ b s).bind fun y s => ownC (Γ.mts i) c x y s
  | .opb _ c i a b, s => (evE Γ a s).bind fun x s => (evE Γ b s).bind fun y s => ownF (Γ.mts i) c x y s
  | .lenO c i a, s => (evE Γ a s).bind fun x s => lenF (Γ.mts i) c x s
  | .isc c a, s => (evE Γ a s).bind fun x s => match x with
    | .pur (.obj c' _ _) => if c' == c then .ok (.pur (.bl true)) s else .st
    | .pur (.tup _) => .ok (.pur (.bl false)) s
    | _ => .st
  | .spl o e, s => (evE Γ o s).bind fun x s => match x with
    | .pur (.str a) => (evE Γ e s).bind fun y s => R.pure ((splD a y).map D.pur) s
    | _ => .st
  | .joi o e, s => (evE Γ o s).bind fun x s => match x with
    | .pur (.str a) => (evE Γ e s).bind fun y s => R.pure ((joiD a y).map D.pur) s
    | _ => .st
  | .mkc c es, s => (evEs Γ es s).bind fun ds s => mkcF c (Γ.ini c) ds s
  | .lc elt t it cond own, s => (evI Γ it s).bind fun items s =>
    match compF t own s.r (evC Γ cond) (evE Γ elt) items s with
    | .ok ps s1 => if ps.length ≤ line then .ok (.pur (.lst ps)) s1 else .st
    | _ => .st
def evEs (Γ : Cfg) : Es → S → R (List D)
  | .nil, s => .ok [] s
  | .cons e es, s => (evE Γ e s).bind fun d s => (evEs Γ es s).bind fun ds s => .ok (d :: ds) s
  | .star e es, s => (evE Γ e s).bind fun d s => match d with
    | .pur (.lst ps) => (evEs Γ es s).bind fun ds s => .ok (ps.map D.pur ++ ds) s
    | .pur (.tup ps) => (evEs Γ es s).bind fun ds s => .ok (ps.map D.pur ++ ds) s
    | _ => .st
def evB (Γ : Cfg) (o : BoolOp) : Es → S → R D
  | .nil, _ => .st
  | .cons e .nil, s => evE Γ e s
  | .cons e es, s => (evE Γ e s).bind fun d s => match o, d with
    | .And, .pur (.bl true) => evB Γ o es s
    | .And, .pur (.bl false) => .ok (.pur (.bl false)) s
    | .Or, .pur (.bl false) => evB Γ o es s
    | .Or, .pur (.bl true) => .ok (.pur (.bl true)) s
    | _, _ => .st
  | .star _ _, _ => .st
def evC (Γ : Cfg) : Es → S → R Bool
  | .nil, s => .ok true s
  | .cons e .nil, s => (evE Γ e s).bind fun d s => match d with
    | .pur (.bl k) => .ok k s
    | _ => .st
  | _, _ => .st
def evO (Γ : Cfg) : Eo → S → R (Option Int)
  | .none, s => .ok none s
  | .some e, s => (evE Γ e s).bind fun d s => match d with
    | .pur (.int i) => .ok (some i) s
    | _ => .st
def evI (Γ : Cfg) : I → S → R (List P)
  | .seq e, s => (evE Γ e s).bind fun d s => match d with
    | .pur p => R.pure (seqP p) s
    | _ => .st
  | .rng1 a, s => (evE Γ a s).bind fun d s => match d with
    | .pur (.int j) => if decide (-p62 ≤ j) && decide (j < p62) then .ok (rngP 0 j.toNat) s else .st
    | _ => .st
  | .rng2 a b, s => (evE Γ a s).bind fun d s => (evE Γ b s).bind fun d' s => match d, d' with
    | .pur (.int i), .pur (.int j) => .ok (rngP i (j - i).toNat) s
    | _, _ => .st
  | .enu e, s => (evE Γ e s).bind fun d s => match d with
    | .pur p => R.pure ((seqP p).map (enuP 0)) s
    | _ => .st
end
inductive Fl where
  | nx | rt (d : D) | bk | ct
def forF (t : T) (b : S → R Fl) : List P → S → R Fl
  | [], s => .ok .nx s
  | x :: xs, s => match asgT t (.pur x) s with
    | none => .st
    | some s1 => (b s1).bind fun f s2 => match f with
      | .nx => forF t b xs s2
      | .ct => forF t b xs s2
      | .bk => .ok .nx s2
      | .rt d => .ok (.rt d) s2
def whileF (c : S → R D) (b : S → R Fl) : Nat → S → R Fl
  | 0, _ => .st
  | n + 1, s => (c s).bind fun d s1 => match d with
    | .pur (.bl true) => (b s1).bind fun f s2 => match f with
      | .nx => whileF c b n s2
      | .ct => whileF c b n s2
      | .bk => .ok .nx s2
      | .rt d => .ok (.rt d) s2
    | .pur (.bl false) => .ok .nx s1
    | _ => .st
/-- o[i] = v -/
def stoD (s : S) : D → D → D → Option S
  | .cel k, .pur (.int i), v => match s.m[k]?, noloc [v] with
    | some (.lst ds), true => (ixOf ds.length i).map fun j => { s with m := s.m.set k (.lst (ds.set j v)) }
    | _, _ => none
  | .loc k, .pur (.int i), .pur p => match s.l[k]? with
    | some (some ps) => (ixOf ps.length i).map fun j => { s with l := s.l.set k (some (ps.set j p)) }
    | _ => none
  | _, _, _ => none
def putFs (f : Str) (d : D) : List (Str × D) → List (Str × D)
  | [] => [(f, d)]
  | (g, e) :: r => if g = f then (g, d) :: r else (g, e) :: putFs f d r
def augP : Operator → P → P → Option P
  | .Add, .int i, .int j => some (.int (i + j))
  | .Sub, .int i, .int j => some (.int (i - j))
  | _, _, _ => none
def insC (s : S) (k : Nat) : Option Nat := match s.m[k]? with
  | some (.ins c _) => some c
  | _ => none
def augF2 (op : Operator) (f : Str) (k c : Nat) (p : P) (v : D) (s : S) : R Fl := match v with
  | .pur q => (match augP op p q with
    | some z => (match s.m[k]? with
      | some (.ins c' fs) => if c' == c && decide (fs.length < 900) then .ok .nx { s with m := s.m.set k (.ins c (putFs f (.pur z) fs)) } else .st
      | _ => .st)
    | none => .st)
  | _ => .st
def htV (fs : List (Str × P)) : HTm → Option P
  | .cst p => some p
  | .fld f => fs.lookup f
  | .lst f => (fs.lookup f).map fun p => .lst [p]
  | .tup f g => (fs.lookup f).bind fun p => (fs.lookup g).map fun q => .tup [p, q]
def rmN (r : List (Option D)) : Option Nat → List (Option D)
  | none => r
  | some i => r.set i none
def htF : HTm → List Str
  | .cst _ => []
  | .fld f => [f]
  | .lst f => [f]
  | .tup f g => [f, g]
def nmOK (r : List (Option D)) (h : Hd) : Bool := match h.nm with
  | none => h.isx.isNone && (htF h.t).isEmpty
  | some i => decide (i < r.length)
def hdF : List Hd → Exc → S → R Fl
  | [], _, _ => .st
  | h :: hs, x, s => if x.cls == h.c then (if nmOK s.r h then (match htV x.fs h.t with
    | some p => .ok .nx { s with r := rmN (s.r.set h.i (some (.pur p))) h.nm }
    | none => .st) else .st) else hdF hs x s
def raiF (o : Option (List Str)) (c : Nat) (ds : List D) (s : S) : R Fl := match purs ds, o with
  | some ps, some fs => if ps.length = fs.length then .ex ⟨c, (fs.zip ps).reverse⟩ s else .st
  | _, _ => .st
def tryF (xf : Nat → Option (List Str)) (hs : List Hd) : R Fl → R Fl
  | .st => .st
  | .ok f s => .ok f s
  | .ex x s => if (xf x.cls).isSome then hdF hs x s else .st
mutual
def exS (Γ : Cfg) : Stm → S → R Fl
  | .asg i e, s => (evE Γ e s).bind fun d s => .ok .nx { s with r := s.r.set i (some d) }
  | .unp is e, s => (evE Γ e s).bind fun d s => match d with
    | .pur (.tup ps) => (match setN s.r is (ps.map D.pur) with
      | some r => .ok .nx { s with r := r }
      | none => .st)
    | .pur (.lst ps) => (match setN s.r is (ps.map D.pur) with
      | some r => .ok .nx { s with r := r }
      | none => .st)
    | _ => .st
  | .par is es, s => (evEs Γ es s).bind fun ds s => match setN s.r is ds with
    | some r => .ok .nx { s with r := r }
    | none => .st
  | .sto2 o1 i1 o2 i2 es, s => (evEs Γ es s).bind fun ds s => match ds with
    | [v1, v2] => (evE Γ o1 s).bind fun x1 s => (evE Γ i1 s).bind fun y1 s => (match stoD s x1 y1 v1 with
      | some s => (evE Γ o2 s).bind fun x2 s => (evE Γ i2 s).bind fun y2 s => (match stoD s x2 y2 v2 with
        | some s => .ok .nx s
        | none => .st)
      | none => .st)
    | _ => .st
  | .sto o i e, s => (evE Γ e s).bind fun v s => (evE Γ o s).bind fun x s => (evE Γ i s).bind fun y s => match stoD s x y v with
    | some s => .ok .nx s
    | none => .st
  | .augs op o i e, s => (evE Γ o s).bind fun x s => (evE Γ i s).bind fun y s => match idxM s x y with
    | some (.pur p) => (evE Γ e s).bind fun v s => (match v with
      | .pur q => (match augP op p q with
        | some z => (match stoD s x y (.pur z) with
          | some s => .ok .nx s
          | none => .st)
        | none => .st)
      | _ => .st)
    | _ => .st
  | .aug op i e, s => match s.r[i]? with
    | some (some (.pur p)) => (evE Γ e s).bind fun v s => (match v with
      | .pur q => (match augP op p q with
        | some z => .ok .nx { s with r := s.r.set i (some (.pur z)) }
        | none => .st)
      | _ => .st)
    | _ => .st
  | .stf o f e, s => (evE Γ e s).bind fun v s => (evE Γ o s).bind fun x s => match x with
    | .cel k => (match s.m[k]?, noloc [v] with
      | some (.ins c fs), true => if Γ.fa c f && decide (fs.length < 900) then .ok .nx { s with m := s.m.set k (.ins c (putFs f v fs)) } else .st
      | _, _ => .st)
    | _ => .st
  | .augf op o f e, s => (evE Γ o s).bind fun x s => match x with
    | .cel k => (match insC s k, fldD Γ.fa s (.cel k) f with
      | some c, some (.pur p) => (evE Γ e s).bind fun v s => augF2 op f k c p v s
      | _, _ => .st)
    | _ => .st
  | .exp e, s => (evE Γ e s).bind fun _ s => .ok .nx s
  | .ret e, s => (evE Γ e s).bind fun d s => .ok (.rt d) s
  | .ret0, s => .ok (.rt (.pur .non)) s
  | .ifs c a b, s => (evE Γ c s).bind fun d s => match d with
    | .pur (.bl true) => exSs Γ a s
    | .pur (.bl false) => exSs Γ b s
    | _ => .st
  | .forr t it b, s => (evI Γ it s).bind fun items s => forF t (exSs Γ b) items s
  | .whil c b, s => whileF (evE Γ c) (exSs Γ b) Γ.fuel s
  | .pas, s => .ok .nx s
  | .brk, s => .ok .bk s
  | .con, s => .ok .ct s
  | .rai c es, s => (evEs Γ es s).bind fun ds s => raiF (Γ.xf c) c ds s
  | .tryS b hs, s => tryF Γ.xf hs (exSs Γ b s)
  | .nev, _ => .st
def exSs (Γ : Cfg) : Stms → S → R Fl
  | .nil, s => .ok .nx s
  | .cons a r, s => (exS Γ a s).bind fun f s => match f with
    | .nx => exSs Γ r s
    | .rt d => .ok (.rt d) s
    | .bk => .ok .bk s
    | .ct => .ok .ct s
end
/-- a def of n slots: its body at the arguments -/
def runDef (Γ : Cfg) (np n : Nat) (b : Stms) : Fn := fun ds m => if ds.length = np then
  match exSs Γ b { r := ds.map some ++ List.replicate (n - ds.length) none, m := m, l := [] } with
  | .ok (.rt (.pur p)) s => .ok (.pur p) s.m
  | .ok (.rt (.cel k)) s => .ok (.cel k) s.m
  | .ok .nx s => .ok (.pur .non) s.m
  | .ex x s => .ex x s.m
  | _ => .st
  else .st
end Ev
end

section
set_option Elab.async false
set_option linter.all false
set_option maxRecDepth 100000
set_option maxHeartbeats 2000000
/-! EvRel: what the evaluator's data mean in the abstract heap. -/
namespace Ev
open PySem PySem.Spec L2
open PyProof.Rows hiding St

structure Wd where
  P : Program
  w : World
  K : PySem.W.Frag
  mg : Str → Option Value
  base : Heap
  ca : Nat → Addr

mutual
inductive RpP (Ω : Wd) (G : Hp) : V → P → Prop
  | non : RpP Ω G .non .non
  | bl (b : Bool) : RpP Ω G (.bl b) (.bl b)
  | int (i : Int) : RpP Ω G (.int i) (.int i)
  | str (x : Str) : RpP Ω G (.str x) (.str x)
  | tup {a : Addr} {xs : List V} {ps : List P} : SqT Ω.K G a xs → RpPs Ω G xs ps → RpP Ω G (.ref a) (.tup ps)
  | lst {a : Addr} {xs : List V} {ps : List P} : G a = some (.lst xs) → RpPs Ω G xs ps → RpP Ω G (.ref a) (.lst ps)
  | sq {a : Addr} {xs : List V} {ps : List P} : SqL Ω.K G a xs → RpPs Ω G xs ps → RpP Ω G (.ref a) (.sq ps)
  | obj {a dx : Addr} {xs : List V} {c : Nat} {ns : List Str} {ps : List P} : G a = some (.ins (Ω.ca c) dx (ns.zip xs)) → ns.length = xs.length → RpPs Ω G xs ps → RpP Ω G (.ref a) (.obj c ns ps)
inductive RpPs (Ω : Wd) (G : Hp) : List V → List P → Prop
  | nil : RpPs Ω G [] []
  | cons {v : V} {vs : List V} {p : P} {ps : List P} : RpP Ω G v p → RpPs Ω G vs ps → RpPs Ω G (v :: vs) (p :: ps)
end
section
variable {Ω : Wd} {G G' : Hp}
theorem sqT_mono {K : PySem.W.Frag} {a : Addr} {xs : List V} (e : Same G G') (h : SqT K G a xs) : SqT K G' a xs := by
  rcases h with (h | ⟨o, h⟩) | h
  · exact .inl (.inl (e _ _ h))
  · exact .inl (.inr ⟨o, e _ _ h⟩)
  · exact .inr h
mutual
theorem RpP.mono (e : Same G G') : ∀ (p : P) (v : V), RpP Ω G v p → RpP Ω G' v p
  | .non, _, h => by cases h; exact .non
  | .bl b, _, h => by cases h; exact .bl b
  | .int b, _, h => by cases h; exact .int b
  | .str b, _, h => by cases h; exact .str b
  | .tup ps, _, h => by cases h with | tup h1 h2 => exact .tup (sqT_mono e h1) (RpPs.mono e ps _ h2)
  | .lst ps, _, h => by cases h with | lst h1 h2 => exact .lst (e _ _ h1) (RpPs.mono e ps _ h2)
  | .sq ps, _, h => by cases h with | sq h1 h2 => exact .sq (e.seq h1) (RpPs.mono e ps _ h2)
  | .obj c ns ps, _, h => by cases h with | obj h1 hl h2 => exact .obj (e _ _ h1) hl (RpPs.mono e ps _ h2)
theorem RpPs.mono (e : Same G G') : ∀ (ps : List P) (vs : List V), RpPs Ω G vs ps → RpPs Ω G' vs ps
  | [], _, h => by cases h; exact .nil
  | p :: ps, _, h => by cases h with | cons h1 h2 => exact .cons (RpP.mono e p _ h1) (RpPs.mono e ps _ h2)
end
theorem RpPs.length : ∀ {ps : List P} {vs : List V}, RpPs Ω G vs ps → vs.length = ps.length
  | [], _, h => by cases h; rfl
  | p :: ps, _, h => by cases h with | cons h1 h2 => rw [List.length_cons, List.length_cons, RpPs.length h2]
theorem RpPs.get : ∀ {ps : List P} {vs : List V} {i : Nat} {p : P}, RpPs Ω G vs ps → ps[i]? = some p → ∃ v, vs[i]? = some v ∧ RpP Ω G v p
  | [], _, _, _, h, e => by simp at e
  | q :: ps, _, 0, p, h, e => by cases h with | cons h1 h2 => simp at e; subst e; exact ⟨_, rfl, h1⟩
  | q :: ps, _, i + 1, p, h, e => by
    cases h with | cons h1 h2 =>
      obtain ⟨v, e1, r⟩ := RpPs.get (i := i) (p := p) h2 (by simpa using e)
      exact ⟨v, by simpa using e1, r⟩
theorem RpPs.append : ∀ {ps qs : List P} {vs ws : List V}, RpPs Ω G vs ps → RpPs Ω G ws qs → RpPs Ω G (vs ++ ws) (ps ++ qs)
  | [], _, _, _, h, k => by cases h; exact k
  | p :: ps, _, _, _, h, k => by cases h with | cons h1 h2 => exact .cons h1 (RpPs.append h2 k)
theorem RpPs.set {p : P} {v : V} (r : RpP Ω G v p) : ∀ {ps : List P} {vs : List V} (i : Nat), RpPs Ω G vs ps → RpPs Ω G (vs.set i v) (ps.set i p)
  | [], _, _, h => by cases h; exact .nil
  | q :: ps, _, 0, h => by cases h with | cons h1 h2 => exact .cons r h2
  | q :: ps, _, i + 1, h => by cases h with | cons h1 h2 => exact .cons h1 (RpPs.set r i h2)
theorem RpPs.take : ∀ {ps : List P} {vs : List V} (n : Nat), RpPs Ω G vs ps → RpPs Ω G (vs.take n) (ps.take n)
  | [], _, n, h => by cases h; simp; exact .nil
  | q :: ps, _, 0, h => by simp; exact .nil
  | q :: ps, _, n + 1, h => by cases h with | cons h1 h2 => exact .cons h1 (RpPs.take n h2)
theorem RpPs.drop : ∀ {ps : List P} {vs : List V} (n : Nat), RpPs Ω G vs ps → RpPs Ω G (vs.drop n) (ps.drop n)
  | [], _, n, h => by cases h; simp; exact .nil
  | q :: ps, _, 0, h => h
  | q :: ps, _, n + 1, h => by cases h with | cons h1 h2 => exact RpPs.drop n h2
theorem RpPs.reverse : ∀ {ps : List P} {vs : List V}, RpPs Ω G vs ps → RpPs Ω G vs.reverse ps.reverse
  | [], _, h => by cases h; exact .nil
  | p :: ps, _, h => by cases h with | cons h1 h2 => rw [List.reverse_cons, List.reverse_cons]; exact (RpPs.reverse h2).append (.cons h1 .nil)
theorem RpPs.rep {ps : List P} {vs : List V} (h : RpPs Ω G vs ps) : ∀ k : Nat, RpPs Ω G (List.replicate k vs).flatten (List.replicate k ps).flatten
  | 0 => .nil
  | k + 1 => by
    rw [List.replicate_succ, List.replicate_succ, List.flatten_cons, List.flatten_cons]
    exact h.append (RpPs.rep h k)
end

/-! ### values -/
inductive RpD (Ω : Wd) (G : Hp) (as ls : List Addr) : V → D → Prop
  | pur {v : V} {p : P} (h : RpP Ω G v p) : RpD Ω G as ls v (.pur p)
  | cel {k : Nat} {a : Addr} (h : as[k]? = some a) : RpD Ω G as ls (.ref a) (.cel k)
  | loc {k : Nat} {a : Addr} (h : ls[k]? = some a) : RpD Ω G as ls (.ref a) (.loc k)
inductive RpDs (Ω : Wd) (G : Hp) (as ls : List Addr) : List V → List D → Prop
  | nil : RpDs Ω G as ls [] []
  | cons {v : V} {vs : List V} {d : D} {ds : List D} : RpD Ω G as ls v d → RpDs Ω G as ls vs ds → RpDs Ω G as ls (v :: vs) (d :: ds)
/-- lists that only grow -/
def Pre (l l' : List Addr) : Prop := ∃ m, l' = l ++ m
theorem Pre.refl (l : List Addr) : Pre l l := ⟨[], by simp⟩
theorem Pre.trans {a b c : List Addr} (h : Pre a b) (k : Pre b c) : Pre a c := by
  obtain ⟨m, rfl⟩ := h
  obtain ⟨n, rfl⟩ := k
  exact ⟨m ++ n, by simp⟩
theorem Pre.get {l l' : List Addr} (h : Pre l l') {k : Nat} {a : Addr} (e : l[k]? = some a) : l'[k]? = some a := by
  obtain ⟨m, rfl⟩ := h
  have hk := (List.getElem?_eq_some_iff.mp e).1
  rw [List.getElem?_append_left hk]; exact e
section
variable {Ω : Wd} {G G' : Hp} {as as' ls ls' : List Addr}
theorem RpD.mono (e : Same G G') (h1 : Pre as as') (h2 : Pre ls ls') {v : V} {d : D} (h : RpD Ω G as ls v d) : RpD Ω G' as' ls' v d := by
  cases h with
  | pur h => exact .pur (RpP.mono e _ _ h)
  | cel h => exact .cel (h1.get h)
  | loc h => exact .loc (h2.get h)
theorem RpDs.mono (e : Same G G') (h1 : Pre as as') (h2 : Pre ls ls') : ∀ {vs : List V} {ds : List D}, RpDs Ω G as ls vs ds → RpDs Ω G' as' ls' vs ds
  | _, _, .nil => .nil
  | _, _, .cons r t => .cons (r.mono e h1 h2) (t.mono e h1 h2)
theorem RpDs.length : ∀ {vs : List V} {ds : List D}, RpDs Ω G as ls vs ds → vs.length = ds.length
  | _, _, .nil => rfl
  | _, _, .cons _ t => by rw [List.length_cons, List.length_cons, RpDs.length t]
theorem RpDs.get : ∀ {ds : List D} {vs : List V} {i : Nat} {p : D}, RpDs Ω G as ls vs ds → ds[i]? = some p → ∃ v, vs[i]? = some v ∧ RpD Ω G as ls v p
  | [], _, _, _, h, e => by simp at e
  | q :: ps, _, 0, p, h, e => by cases h with | cons h1 h2 => simp at e; subst e; exact ⟨_, rfl, h1⟩
  | q :: ps, _, i + 1, p, h, e => by
    cases h with | cons h1 h2 =>
      obtain ⟨v, e1, r⟩ := RpDs.get (i := i) (p := p) h2 (by simpa using e)
      exact ⟨v, by simpa using e1, r⟩
theorem RpDs.set {p : D} {v : V} (r : RpD Ω G as ls v p) : ∀ {ps : List D} {vs : List V} (i : Nat), RpDs Ω G as ls vs ps → RpDs Ω G as ls (vs.set i v) (ps.set i p)
  | [], _, _, h => by cases h; exact .nil
  | q :: ps, _, 0, h => by cases h with | cons h1 h2 => exact .cons r h2
  | q :: ps, _, i + 1, h => by cases h with | cons h1 h2 => exact .cons h1 (RpDs.set r i h2)
theorem RpDs.append : ∀ {ps qs : List D} {vs ws : List V}, RpDs Ω G as ls vs ps → RpDs Ω G as ls ws qs → RpDs Ω G as ls (vs ++ ws) (ps ++ qs)
  | [], _, _, _, h, k => by cases h; exact k
  | p :: ps, _, _, _, h, k => by cases h with | cons h1 h2 => exact .cons h1 (RpDs.append h2 k)
theorem RpDs.purs : ∀ {vs : List V} {ds : List D} {ps : List P}, RpDs Ω G as ls vs ds → Ev.purs ds = some ps → RpPs Ω G vs ps
  | _, [], ps, h, e => by
    cases h
    simp [Ev.purs] at e
    subst e
    exact .nil
  | _, .pur p :: ds, ps, h, e => by
    cases h with
    | cons h1 h2 =>
      cases q : Ev.purs ds with
      | none => simp [Ev.purs, q] at e
      | some qs =>
        simp [Ev.purs, q] at e
        subst e
        cases h1 with
        | pur h1 => exact .cons h1 (h2.purs q)
  | _, .cel _ :: ds, ps, h, e => by simp [Ev.purs] at e
  | _, .loc _ :: ds, ps, h, e => by simp [Ev.purs] at e
theorem purs_len : ∀ {ds : List D} {ps : List P}, Ev.purs ds = some ps → ps.length = ds.length
  | [], ps, e => by simp [Ev.purs] at e; subst e; rfl
  | .pur p :: ds, ps, e => by
    cases q : Ev.purs ds with
    | none => simp [Ev.purs, q] at e
    | some qs =>
      simp [Ev.purs, q] at e
      subst e
      simp [purs_len q]
  | .cel _ :: ds, ps, e => by simp [Ev.purs] at e
  | .loc _ :: ds, ps, e => by simp [Ev.purs] at e
theorem RpDs.map : ∀ {vs : List V} {ps : List P}, RpPs Ω G vs ps → RpDs Ω G as ls vs (ps.map D.pur)
  | _, [], h => by cases h; exact .nil
  | _, p :: ps, h => by cases h with | cons h1 h2 => exact .cons (.pur h1) (RpDs.map h2)
theorem purs_map : ∀ (ps : List P), Ev.purs (ps.map D.pur) = some ps
  | [] => rfl
  | p :: ps => by simp [Ev.purs, purs_map ps]
/-- the def's own lists are not among them: any ls will do -/
theorem RpDs.anyl (ls' : List Addr) : ∀ {vs : List V} {ds : List D}, RpDs Ω G as ls vs ds → noloc ds = true → RpDs Ω G as ls' vs ds
  | _, [], h, _ => by cases h; exact .nil
  | _, .pur p :: ds, h, e => by
    cases h with | cons h1 h2 => cases h1 with | pur h1 => exact .cons (.pur h1) (h2.anyl ls' (by simpa [noloc] using e))
  | _, .cel p :: ds, h, e => by
    cases h with | cons h1 h2 => cases h1 with | cel h1 => exact .cons (.cel h1) (h2.anyl ls' (by simpa [noloc] using e))
  | _, .loc p :: ds, h, e => by simp [noloc] at e
end

/-! ### data for == -/
mutual
def toPy : P → PyData
  | .non => .none
  | .bl b => .bool b
  | .int i => .int i
  | .str x => .str x
  | .tup xs => .tuple (toPys xs)
  | .lst xs => .list (toPys xs)
  | .obj _ _ _ => .none
  | .sq _ => .none
def toPys : List P → List PyData
  | [] => []
  | x :: xs => toPy x :: toPys xs
end
mutual
theorem eqv_toPy : ∀ (p q : P), lay p = true → lay q = true → PyData.eqv (toPy p) (toPy q) = eqP p q
  | .tup xs, q, hp, hq => by
    cases q <;> first
      | (simp [toPy, PyData.eqv, eqP]; done)
      | (simp only [toPy, PyData.eqv, eqP]; exact eqv_toPys _ _ (by simpa [lay] using hp) (by simpa [lay] using hq))
      | (simp [lay] at hq)
  | .lst xs, q, hp, hq => by
    cases q <;> first
      | (simp [toPy, PyData.eqv, eqP]; done)
      | (simp only [toPy, PyData.eqv, eqP]; exact eqv_toPys _ _ (by simpa [lay] using hp) (by simpa [lay] using hq))
      | (simp [lay] at hq)
  | .non, q, hp, hq => by cases q <;> first | (simp [toPy, PyData.eqv, eqP]; done) | (simp [lay] at hq)
  | .bl _, q, hp, hq => by cases q <;> first | (simp [toPy, PyData.eqv, eqP]; done) | (simp [lay] at hq)
  | .int _, q, hp, hq => by cases q <;> first | (simp [toPy, PyData.eqv, eqP]; done) | (simp [lay] at hq)
  | .str _, q, hp, hq => by cases q <;> first | (simp [toPy, PyData.eqv, eqP]; done) | (simp [lay] at hq)
  | .obj _ _ _, q, hp, hq => by simp [lay] at hp
  | .sq _, q, hp, hq => by simp [lay] at hp
theorem eqv_toPys : ∀ (p q : List P), lays p = true → lays q = true → PyData.eqvAll (toPys p) (toPys q) = eqPs p q
  | [], [], _, _ => by simp [toPys, PyData.eqvAll, eqPs]
  | [], _ :: _, _, _ => by simp [toPys, PyData.eqvAll, eqPs]
  | _ :: _, [], _, _ => by simp [toPys, PyData.eqvAll, eqPs]
  | x :: xs, y :: ys, h1, h2 => by
    simp only [lays, Bool.and_eq_true] at h1 h2
    simp only [toPys, PyData.eqvAll, eqPs]
    rw [eqv_toPy x y h1.1 h2.1, eqv_toPys xs ys h1.2 h2.2]
end
mutual
theorem lay_toPy : ∀ (p : P), lay p = true → PyData.canLay0 (toPy p) = true
  | .non, _ => by simp [toPy, PyData.canLay0]
  | .bl _, _ => by simp [toPy, PyData.canLay0]
  | .int _, _ => by simp [toPy, PyData.canLay0]
  | .str x, h => by
    simp only [toPy, PyData.canLay0]
    simp only [lay] at h
    unfold PyData.strOk
    simpa using h
  | .tup xs, h => by simp only [toPy, PyData.canLay0]; exact lay_toPys xs (by simpa [lay] using h)
  | .lst xs, h => by simp only [toPy, PyData.canLay0]; exact lay_toPys xs (by simpa [lay] using h)
  | .obj _ _ _, h => by simp [lay] at h
  | .sq _, h => by simp [lay] at h
theorem lay_toPys : ∀ (p : List P), lays p = true → PyData.canLayAll0 (toPys p) = true
  | [], _ => by simp [toPys, PyData.canLayAll0]
  | x :: xs, h => by
    simp only [lays, Bool.and_eq_true] at h
    simp only [toPys, PyData.canLayAll0, Bool.and_eq_true]
    exact ⟨lay_toPy x h.1, lay_toPys xs h.2⟩
end
mutual
theorem dep_toPy : ∀ (p : P), PyData.depth (toPy p) = dep p
  | .non => by simp [toPy, PyData.depth, dep]
  | .bl _ => by simp [toPy, PyData.depth, dep]
  | .int _ => by simp [toPy, PyData.depth, dep]
  | .str x => by simp [toPy, PyData.depth, dep]
  | .tup xs => by simp only [toPy, PyData.depth, dep]; rw [dep_toPys xs]
  | .lst xs => by simp only [toPy, PyData.depth, dep]; rw [dep_toPys xs]
  | .obj _ _ _ => by simp [toPy, PyData.depth, dep]
  | .sq _ => by simp [toPy, PyData.depth, dep]
theorem dep_toPys : ∀ (p : List P), PyData.depthAll (toPys p) = deps p
  | [] => by simp [toPys, PyData.depthAll, deps]
  | x :: xs => by simp only [toPys, PyData.depthAll, deps]; rw [dep_toPy x, dep_toPys xs]
end
theorem shaped_toPy {p : P} (h : eqOK p = true) : SeqAt.shaped (toPy p) = true := by
  simp only [eqOK, Bool.and_eq_true, decide_eq_true_eq] at h
  unfold SeqAt.shaped
  rw [Bool.and_eq_true, decide_eq_true_eq, dep_toPy]
  exact ⟨lay_toPy p h.1, h.2⟩
section
variable {Ω : Wd} {G H : Hp}
mutual
theorem dp_toPy (e : Same G H) : ∀ (p : P) (v : V), RpP Ω G v p → lay p = true → Dp Ω.K H v (toPy p)
  | .non, _, h, _ => by cases h; simp only [toPy]; exact .non
  | .bl _, _, h, _ => by cases h; simp only [toPy]; exact .bl _
  | .int _, _, h, _ => by cases h; simp only [toPy]; exact .int _
  | .str _, _, h, _ => by cases h; simp only [toPy]; exact .str _
  | .tup xs, _, h, l => by cases h with | tup h1 h2 => simp only [toPy]; exact .tup (sqT_mono e h1) (dp_toPys e xs _ h2 (by simpa [lay] using l))
  | .lst xs, _, h, l => by cases h with | lst h1 h2 => simp only [toPy]; exact .lst (SqL.of (e _ _ h1)) (dp_toPys e xs _ h2 (by simpa [lay] using l))
  | .obj _ _ _, _, h, l => by simp [lay] at l
  | .sq _, _, h, l => by simp [lay] at l
theorem dp_toPys (e : Same G H) : ∀ (p : List P) (v : List V), RpPs Ω G v p → lays p = true → DpAll Ω.K H v (toPys p)
  | [], _, h, _ => by cases h; simp only [toPys]; exact .nil
  | x :: xs, _, h, l => by
    cases h with | cons h1 h2 =>
      simp only [lays, Bool.and_eq_true] at l
      simp only [toPys]; exact .cons (dp_toPy e x _ h1 l.1) (dp_toPys e xs _ h2 l.2)
end
end
end Ev
end

section
set_option Elab.async false
set_option linter.all false
set_option maxRecDepth 100000
set_option maxHeartbeats 2000000
/-! EvAbs: the evaluator's state and the abstract heap. -/
namespace Ev
open PySem PySem.Spec L2
open PyProof.Rows hiding St

/-- a cell as it stands at a -/
def CellAt (Ω : Wd) (G : Hp) (as : List Addr) (H : Hp) (a : Addr) : Cell → Prop
  | .lst ds => ∃ vs, H a = some (.lst vs) ∧ RpDs Ω G as [] vs ds
  | .ins c fs => ∃ dx vs, H a = some (.ins (Ω.ca c) dx ((fs.map (·.1)).zip vs)) ∧ RpDs Ω G as [] vs (fs.map (·.2))
structure Sto (Ω : Wd) (G : Hp) (as : List Addr) (m : List Cell) (H : Hp) : Prop where
  sub : Same G H
  len : as.length = m.length
  nd : as.Nodup
  cel : ∀ (k : Nat) (c : Cell) (a : Addr), m[k]? = some c → as[k]? = some a → G a = none ∧ CellAt Ω G as H a c
structure Fr where
  U : Hp
  G0 : Hp
  as0 : List Addr
structure Abs (Ω : Wd) (Z : Fr) (s : S) (G : Hp) (as ls : List Addr) (σ : St) (H : Hp) : Prop where
  sto : Sto Ω G as s.m H
  g0 : Same Z.G0 G
  a0 : Pre Z.as0 as
  u : ∀ b o, Z.U b = some o → H b = some o
  uas : ∀ b ∈ as, Z.U b = none
  uls : ∀ b ∈ ls, Z.U b = none
  ug : ∀ b o, G b = some o → Z.G0 b = some o ∨ Z.U b = none
  llen : ls.length = s.l.length
  lnd : ls.Nodup
  lal : ∀ b ∈ ls, H b ≠ none
  lat : ∀ (k : Nat) (ps : List P) (a : Addr), s.l[k]? = some (some ps) → ls[k]? = some a → G a = none ∧ a ∉ as ∧ ∃ vs, H a = some (.lst vs) ∧ RpPs Ω G vs ps
  env : ∀ (i : Nat) (d : D), s.r[i]? = some (some d) → ∃ v, σ[i]? = some (some v) ∧ RpD Ω G as ls v d
  slen : s.r.length ≤ σ.length
structure Grow (H G : Hp) (as : List Addr) (H' G' : Hp) (as' : List Addr) : Prop where
  g : Same G G'
  n : ∀ b o, G' b = some o → G b = some o ∨ H b = none
  a : ∃ l, as' = as ++ l ∧ ∀ b ∈ l, H b = none
  u : ∀ b o, H b = some o → b ∉ as → H' b = some o
  t : ∀ b, H b ≠ none → H' b ≠ none
structure Le (G : Hp) (as ls : List Addr) (G' : Hp) (as' ls' : List Addr) : Prop where
  g : Same G G'
  a : Pre as as'
  l : Pre ls ls'
theorem Le.refl (G : Hp) (as ls : List Addr) : Le G as ls G as ls := ⟨Same.refl G, Pre.refl _, Pre.refl _⟩
theorem Le.trans {G G1 G2 : Hp} {as ls as1 ls1 as2 ls2 : List Addr} (h : Le G as ls G1 as1 ls1) (k : Le G1 as1 ls1 G2 as2 ls2) : Le G as ls G2 as2 ls2 :=
  ⟨h.g.trans k.g, h.a.trans k.a, h.l.trans k.l⟩
theorem RpD.le {Ω : Wd} {G G' : Hp} {as ls as' ls' : List Addr} {v : V} {d : D} (h : RpD Ω G as ls v d) (e : Le G as ls G' as' ls') : RpD Ω G' as' ls' v d := h.mono e.g e.a e.l
theorem RpDs.le {Ω : Wd} {G G' : Hp} {as ls as' ls' : List Addr} {v : List V} {d : List D} (h : RpDs Ω G as ls v d) (e : Le G as ls G' as' ls') : RpDs Ω G' as' ls' v d := h.mono e.g e.a e.l

section
variable {Ω : Wd} {Z : Fr} {s : S} {G G' H H' : Hp} {as as' ls : List Addr} {σ : St}
theorem CellAt.there {c : Cell} {a : Addr} (h : CellAt Ω G as H a c) : H a ≠ none := by
  cases c with
  | lst ds => obtain ⟨vs, e, _⟩ := h; rw [e]; exact fun z => nomatch z
  | ins c fs => obtain ⟨_, vs, e, _⟩ := h; rw [e]; exact fun z => nomatch z
theorem CellAt.mono {c : Cell} {a : Addr} (h : CellAt Ω G as H a c) (e : H' a = H a) (g : Same G G') (p : Pre as as') : CellAt Ω G' as' H' a c := by
  cases c with
  | lst ds => obtain ⟨vs, q, r⟩ := h; exact ⟨vs, e.trans q, r.mono g p (Pre.refl _)⟩
  | ins c fs => obtain ⟨dx, vs, q, r⟩ := h; exact ⟨dx, vs, e.trans q, r.mono g p (Pre.refl _)⟩
theorem Sto.there {m : List Cell} (h : Sto Ω G as m H) {a : Addr} (ha : a ∈ as) : H a ≠ none := by
  obtain ⟨k, hk, e⟩ := List.getElem_of_mem ha
  have hk' : k < m.length := by rw [← h.len]; exact hk
  exact (h.cel k m[k] a (by simp [hk']) (by rw [List.getElem?_eq_getElem hk, e])).2.there
theorem Sto.gnone {m : List Cell} (h : Sto Ω G as m H) {a : Addr} (ha : a ∈ as) : G a = none := by
  obtain ⟨k, hk, e⟩ := List.getElem_of_mem ha
  have hk' : k < m.length := by rw [← h.len]; exact hk
  exact (h.cel k m[k] a (by simp [hk']) (by rw [List.getElem?_eq_getElem hk, e])).1
theorem same_none (h : Same G H) {b : Addr} (e : H b = none) : G b = none := h.free e
theorem same_upd {b : Addr} {o : HO} (h : Same G H) (n : H b = none) : Same (upd G b o) (upd H b o) := fun c u e => by
  by_cases hc : c = b
  · subst hc
    rw [upd_same] at e ⊢
    exact e
  · rw [upd_ne hc] at e ⊢
    exact h c u e
theorem same_updr {b : Addr} {o : HO} (h : Same G H) (n : G b = none) : Same G (upd H b o) := fun c u e => by
  have hc : c ≠ b := ne_of_none e n
  rw [upd_ne hc]
  exact h c u e
theorem same_new {b : Addr} {o : HO} (n : G b = none) : Same G (upd G b o) := same_updr (Same.refl G) n

theorem Abs.unew (A : Abs Ω Z s G as ls σ H) {p : Addr} (hp : H p = none) : Z.U p = none := by
  cases e : Z.U p with
  | none => rfl
  | some o => rw [A.u p o e] at hp; cases hp
theorem Abs.nas (A : Abs Ω Z s G as ls σ H) {p : Addr} (hp : H p = none) : p ∉ as := fun z => A.sto.there z hp
theorem Abs.nls (A : Abs Ω Z s G as ls σ H) {p : Addr} (hp : H p = none) : p ∉ ls := fun z => A.lal p z hp
/-- a new object that never changes -/
theorem Abs.newG (A : Abs Ω Z s G as ls σ H) {p : Addr} {o : HO} (hp : H p = none) : Abs Ω Z s (upd G p o) as ls σ (upd H p o) ∧ Le G as ls (upd G p o) as ls := by
  have gp := same_none A.sto.sub hp
  have le : Le G as ls (upd G p o) as ls := ⟨same_new gp, Pre.refl _, Pre.refl _⟩
  refine ⟨⟨⟨same_upd A.sto.sub hp, A.sto.len, A.sto.nd, fun k c a e1 e2 => ?_⟩, A.g0.trans le.g, A.a0, fun b u e => ?_, A.uas, A.uls, fun b u e => ?_, A.llen, A.lnd, fun b hb => ?_, fun k ps a e1 e2 => ?_, fun i d e => ?_, A.slen⟩, le⟩
  · obtain ⟨g, c⟩ := A.sto.cel k c a e1 e2
    have na : a ≠ p := fun z => c.there (z ▸ hp)
    exact ⟨(upd_ne na).trans g, c.mono (upd_ne na) le.g (Pre.refl _)⟩
  · have nb : b ≠ p := ne_of_none (A.u b u e) hp
    exact (upd_ne nb).trans (A.u b u e)
  · by_cases hb : b = p
    · exact .inr (hb ▸ A.unew hp)
    · rw [upd_ne hb] at e
      exact A.ug b u e
  · have nb : b ≠ p := fun z => A.lal b hb (z ▸ hp)
    rw [upd_ne nb]
    exact A.lal b hb
  · obtain ⟨g, n, vs, e3, r⟩ := A.lat k ps a e1 e2
    have na : a ≠ p := fun z => by rw [z, hp] at e3; cases e3
    exact ⟨(upd_ne na).trans g, n, vs, (upd_ne na).trans e3, RpPs.mono le.g _ _ r⟩
  · obtain ⟨v, e1, r⟩ := A.env i d e
    exact ⟨v, e1, r.le le⟩
/-- a tracked object that nobody here knows may come or change -/
theorem Abs.other (A : Abs Ω Z s G as ls σ H) (k : ∀ b, (G b ≠ none ∨ b ∈ as ∨ b ∈ ls ∨ Z.U b ≠ none) → H' b = H b) : Abs Ω Z s G as ls σ H' := by
  refine ⟨⟨fun b o e => (k b (.inl (by rw [e]; exact fun z => nomatch z))).trans (A.sto.sub b o e), A.sto.len, A.sto.nd, fun i c a e1 e2 => ?_⟩, A.g0, A.a0, fun b o e => (k b (.inr (.inr (.inr (by rw [e]; exact fun z => nomatch z))))).trans (A.u b o e), A.uas, A.uls, A.ug, A.llen, A.lnd, fun b hb => ?_, fun i ps a e1 e2 => ?_, A.env, A.slen⟩
  · obtain ⟨g, c⟩ := A.sto.cel i c a e1 e2
    exact ⟨g, c.mono (k a (.inr (.inl (List.mem_of_getElem? e2)))) (Same.refl _) (Pre.refl _)⟩
  · rw [k b (.inr (.inr (.inl hb)))]
    exact A.lal b hb
  · obtain ⟨g, n, vs, e3, r⟩ := A.lat i ps a e1 e2
    exact ⟨g, n, vs, (k a (.inr (.inr (.inl (List.mem_of_getElem? e2))))).trans e3, r⟩
/-- a new list of the def's own -/
theorem Abs.newL (A : Abs Ω Z s G as ls σ H) {p : Addr} {vs : List V} {ps : List P} (hp : H p = none) (r : RpPs Ω G vs ps) :
    Abs Ω Z { s with l := s.l ++ [some ps] } G as (ls ++ [p]) σ (upd H p (.lst vs)) ∧ Le G as ls G as (ls ++ [p]) := by
  have gp := same_none A.sto.sub hp
  have le : Le G as ls G as (ls ++ [p]) := ⟨Same.refl _, Pre.refl _, ⟨[p], rfl⟩⟩
  refine ⟨⟨⟨same_updr A.sto.sub gp, A.sto.len, A.sto.nd, fun k c a e1 e2 => ?_⟩, A.g0, A.a0, fun b u e => ?_, A.uas, fun b hb => ?_, A.ug, by simp [A.llen], ?_, fun b hb => ?_, fun k qs a e1 e2 => ?_, fun i d e => ?_, A.slen⟩, le⟩
  · obtain ⟨g, c⟩ := A.sto.cel k c a e1 e2
    have na : a ≠ p := fun z => c.there (z ▸ hp)
    exact ⟨g, c.mono (upd_ne na) le.g (Pre.refl _)⟩
  · have nb : b ≠ p := ne_of_none (A.u b u e) hp
    exact (upd_ne nb).trans (A.u b u e)
  · rcases List.mem_append.mp hb with hb | hb
    · exact A.uls b hb
    · rw [List.mem_singleton.mp hb]; exact A.unew hp
  · rw [List.nodup_append]
    refine ⟨A.lnd, by simp, fun a ha b hb => ?_⟩
    rw [List.mem_singleton.mp hb]
    exact fun z => A.lal a ha (z ▸ hp)
  · by_cases hbp : b = p
    · rw [hbp, upd_same]; exact fun z => nomatch z
    · rw [upd_ne hbp]
      rcases List.mem_append.mp hb with hb | hb
      · exact A.lal b hb
      · exact absurd (List.mem_singleton.mp hb) hbp
  · have e1 : (s.l ++ [some ps])[k]? = some (some qs) := e1
    by_cases hk : k < s.l.length
    · rw [List.getElem?_append_left hk] at e1
      rw [List.getElem?_append_left (by rw [A.llen]; exact hk)] at e2
      obtain ⟨g, n, ws, e3, r'⟩ := A.lat k qs a e1 e2
      have na : a ≠ p := fun z => by rw [z, hp] at e3; cases e3
      exact ⟨g, n, ws, (upd_ne na).trans e3, r'⟩
    · have hk2 : k = s.l.length := by
        have q := (List.getElem?_eq_some_iff.mp e1).1
        simp at q; omega
      subst hk2
      rw [List.getElem?_append_right (Nat.le_refl _)] at e1
      rw [← A.llen, List.getElem?_append_right (Nat.le_refl _)] at e2
      simp at e1 e2
      subst e1 e2
      exact ⟨gp, A.nas hp, vs, upd_same, r⟩
  · obtain ⟨v, e1, r'⟩ := A.env i d e
    exact ⟨v, e1, r'.le le⟩
/-- a new cell -/
theorem Abs.newC (A : Abs Ω Z s G as ls σ H) {p : Addr} {o : HO} {c : Cell} (hp : H p = none) (hc : ∀ H', H' p = some o → CellAt Ω G (as ++ [p]) H' p c) :
    Abs Ω Z { s with m := s.m ++ [c] } G (as ++ [p]) ls σ (upd H p o) ∧ Le G as ls G (as ++ [p]) ls := by
  have gp := same_none A.sto.sub hp
  have le : Le G as ls G (as ++ [p]) ls := ⟨Same.refl _, ⟨[p], rfl⟩, Pre.refl _⟩
  refine ⟨⟨⟨same_updr A.sto.sub gp, by simp [A.sto.len], ?_, fun k c' a e1 e2 => ?_⟩, A.g0, A.a0.trans le.a, fun b u e => ?_, fun b hb => ?_, A.uls, A.ug, A.llen, A.lnd, fun b hb => ?_, fun k qs a e1 e2 => ?_, fun i d e => ?_, A.slen⟩, le⟩
  · rw [List.nodup_append]
    refine ⟨A.sto.nd, by simp, fun a ha b hb => ?_⟩
    rw [List.mem_singleton.mp hb]
    exact fun z => A.sto.there ha (z ▸ hp)
  · have e1 : (s.m ++ [c])[k]? = some c' := e1
    by_cases hk : k < s.m.length
    · rw [List.getElem?_append_left hk] at e1
      rw [List.getElem?_append_left (by rw [A.sto.len]; exact hk)] at e2
      obtain ⟨g, q⟩ := A.sto.cel k c' a e1 e2
      have na : a ≠ p := fun z => q.there (z ▸ hp)
      exact ⟨g, q.mono (upd_ne na) (Same.refl _) le.a⟩
    · have hk2 : k = s.m.length := by
        have q := (List.getElem?_eq_some_iff.mp e1).1
        simp at q; omega
      subst hk2
      rw [List.getElem?_append_right (Nat.le_refl _)] at e1
      rw [← A.sto.len, List.getElem?_append_right (Nat.le_refl _)] at e2
      simp at e1 e2
      subst e1 e2
      exact ⟨gp, hc _ upd_same⟩
  · have nb : b ≠ p := ne_of_none (A.u b u e) hp
    exact (upd_ne nb).trans (A.u b u e)
  · rcases List.mem_append.mp hb with hb | hb
    · exact A.uas b hb
    · rw [List.mem_singleton.mp hb]; exact A.unew hp
  · have nb : b ≠ p := fun z => A.lal b hb (z ▸ hp)
    rw [upd_ne nb]
    exact A.lal b hb
  · obtain ⟨g, n, ws, e3, r'⟩ := A.lat k qs a e1 e2
    have na : a ≠ p := fun z => by rw [z, hp] at e3; cases e3
    refine ⟨g, fun z => ?_, ws, (upd_ne na).trans e3, r'⟩
    rcases List.mem_append.mp z with z | z
    · exact n z
    · exact na (List.mem_singleton.mp z)
  · obtain ⟨v, e1, r'⟩ := A.env i d e
    exact ⟨v, e1, r'.le le⟩
/-- a list of the def's own changes -/
theorem Abs.setL (A : Abs Ω Z s G as ls σ H) {k : Nat} {a : Addr} {ps qs : List P} {vs : List V} (e1 : s.l[k]? = some (some ps)) (e2 : ls[k]? = some a) (r : RpPs Ω G vs qs) :
    Abs Ω Z { s with l := s.l.set k (some qs) } G as ls σ (upd H a (.lst vs)) := by
  obtain ⟨ga, na, ws, ea, _⟩ := A.lat k ps a e1 e2
  have ul := A.uls a (List.mem_of_getElem? e2)
  have kl := (List.getElem?_eq_some_iff.mp e1).1
  refine ⟨⟨same_updr A.sto.sub ga, A.sto.len, A.sto.nd, fun k c a' e1 e2 => ?_⟩, A.g0, A.a0, fun b u e => ?_, A.uas, A.uls, A.ug, by simp [A.llen], A.lnd, fun b hb => ?_, fun j qs' a' f1 f2 => ?_, A.env, A.slen⟩
  · obtain ⟨g, c⟩ := A.sto.cel k c a' e1 e2
    have n : a' ≠ a := fun z => na (z ▸ List.mem_of_getElem? e2)
    exact ⟨g, c.mono (upd_ne n) (Same.refl _) (Pre.refl _)⟩
  · have nb : b ≠ a := fun z => by rw [z, ul] at e; cases e
    exact (upd_ne nb).trans (A.u b u e)
  · by_cases hb' : b = a
    · rw [hb', upd_same]; exact fun z => nomatch z
    · rw [upd_ne hb']; exact A.lal b hb
  · have f1 : (s.l.set k (some qs))[j]? = some (some qs') := f1
    by_cases hj : j = k
    · subst hj
      rw [List.getElem?_set_self kl] at f1
      cases f1
      rw [e2] at f2
      cases f2
      exact ⟨ga, na, vs, upd_same, r⟩
    · rw [List.getElem?_set_ne (Ne.symm hj)] at f1
      obtain ⟨g, n, ws', e3, r'⟩ := A.lat j qs' a' f1 f2
      have ne : a' ≠ a := fun z => hj ((List.getElem?_inj (List.getElem?_eq_some_iff.mp f2).1 A.lnd).mp (f2.trans (by rw [z]; exact e2.symm)))
      exact ⟨g, n, ws', (upd_ne ne).trans e3, r'⟩
/-- a list of the def's own is handed out: from here on it stands still -/
theorem Abs.frz (A : Abs Ω Z s G as ls σ H) {k : Nat} {a : Addr} {ps : List P} {vs : List V} (e1 : s.l[k]? = some (some ps)) (e2 : ls[k]? = some a) (hv : H a = some (.lst vs)) :
    Abs Ω Z { s with l := s.l.set k none } (upd G a (.lst vs)) as ls σ H ∧ Le G as ls (upd G a (.lst vs)) as ls := by
  obtain ⟨ga, na, ws, ea, _⟩ := A.lat k ps a e1 e2
  have ul := A.uls a (List.mem_of_getElem? e2)
  have kl := (List.getElem?_eq_some_iff.mp e1).1
  have le : Le G as ls (upd G a (.lst vs)) as ls := ⟨same_new ga, Pre.refl _, Pre.refl _⟩
  refine ⟨⟨⟨fun b o e => ?_, A.sto.len, A.sto.nd, fun k c a' e1 e2 => ?_⟩, A.g0.trans le.g, A.a0, A.u, A.uas, A.uls, fun b o e => ?_, by simp [A.llen], A.lnd, A.lal, fun j qs' a' f1 f2 => ?_, fun i d e => ?_, A.slen⟩, le⟩
  · by_cases hb : b = a
    · subst hb
      rw [upd_same] at e
      cases e
      exact hv
    · rw [upd_ne hb] at e
      exact A.sto.sub b o e
  · obtain ⟨g, c⟩ := A.sto.cel k c a' e1 e2
    have n : a' ≠ a := fun z => na (z ▸ List.mem_of_getElem? e2)
    exact ⟨(upd_ne n).trans g, c.mono rfl le.g (Pre.refl _)⟩
  · by_cases hb : b = a
    · exact .inr (hb ▸ ul)
    · rw [upd_ne hb] at e
      exact A.ug b o e
  · have f1 : (s.l.set k none)[j]? = some (some qs') := f1
    by_cases hj : j = k
    · subst hj
      rw [List.getElem?_set_self kl] at f1
      cases f1
    · rw [List.getElem?_set_ne (Ne.symm hj)] at f1
      obtain ⟨g, n, ws', e3, r'⟩ := A.lat j qs' a' f1 f2
      have ne : a' ≠ a := fun z => hj ((List.getElem?_inj (List.getElem?_eq_some_iff.mp f2).1 A.lnd).mp (f2.trans (by rw [z]; exact e2.symm)))
      exact ⟨(upd_ne ne).trans g, n, ws', e3, RpPs.mono le.g _ _ r'⟩
  · obtain ⟨v, f1, r⟩ := A.env i d e
    exact ⟨v, f1, r.le le⟩
/-- a cell changes -/
theorem Abs.setC (A : Abs Ω Z s G as ls σ H) {k : Nat} {a : Addr} {c c' : Cell} {o : HO} (e1 : s.m[k]? = some c) (e2 : as[k]? = some a) (hc : ∀ H', H' a = some o → CellAt Ω G as H' a c') :
    Abs Ω Z { s with m := s.m.set k c' } G as ls σ (upd H a o) := by
  have ga := (A.sto.cel k c a e1 e2).1
  have ua := A.uas a (List.mem_of_getElem? e2)
  have kl := (List.getElem?_eq_some_iff.mp e1).1
  refine ⟨⟨same_updr A.sto.sub ga, by simp [A.sto.len], A.sto.nd, fun j c2 a' f1 f2 => ?_⟩, A.g0, A.a0, fun b u e => ?_, A.uas, A.uls, A.ug, A.llen, A.lnd, fun b hb => ?_, fun j qs' a' f1 f2 => ?_, A.env, A.slen⟩
  · have f1 : (s.m.set k c')[j]? = some c2 := f1
    by_cases hj : j = k
    · subst hj
      rw [List.getElem?_set_self kl] at f1
      cases f1
      rw [e2] at f2
      cases f2
      exact ⟨ga, hc _ upd_same⟩
    · rw [List.getElem?_set_ne (Ne.symm hj)] at f1
      obtain ⟨g, q⟩ := A.sto.cel j c2 a' f1 f2
      have ne : a' ≠ a := fun z => hj ((List.getElem?_inj (List.getElem?_eq_some_iff.mp f2).1 A.sto.nd).mp (f2.trans (by rw [z]; exact e2.symm)))
      exact ⟨g, q.mono (upd_ne ne) (Same.refl _) (Pre.refl _)⟩
  · have nb : b ≠ a := fun z => by rw [z, ua] at e; cases e
    exact (upd_ne nb).trans (A.u b u e)
  · by_cases hb' : b = a
    · rw [hb', upd_same]; exact fun z => nomatch z
    · rw [upd_ne hb']; exact A.lal b hb
  · obtain ⟨g, n, ws', e3, r'⟩ := A.lat j qs' a' f1 f2
    have ne : a' ≠ a := fun z => n (z ▸ List.mem_of_getElem? e2)
    exact ⟨g, n, ws', (upd_ne ne).trans e3, r'⟩
/-- a slot is stored -/
theorem Abs.slot (A : Abs Ω Z s G as ls σ H) {i : Nat} {v : V} {d : D} (r : RpD Ω G as ls v d) : Abs Ω Z { s with r := s.r.set i (some d) } G as ls (σ.set i (some v)) H := by
  refine ⟨A.sto, A.g0, A.a0, A.u, A.uas, A.uls, A.ug, A.llen, A.lnd, A.lal, A.lat, fun j d' e => ?_, by simpa using A.slen⟩
  have e : (s.r.set i (some d))[j]? = some (some d') := e
  by_cases hj : j = i
  · subst hj
    have hl := (List.getElem?_eq_some_iff.mp e).1
    rw [List.length_set] at hl
    rw [List.getElem?_set_self hl] at e
    cases e
    exact ⟨v, List.getElem?_set_self (Nat.lt_of_lt_of_le hl A.slen), r⟩
  · rw [List.getElem?_set_ne (Ne.symm hj)] at e ⊢
    exact A.env j d' e
/-- other slots -/
theorem Abs.env' (A : Abs Ω Z s G as ls σ H) {r' : List (Option D)} {σ' : St} (h : ∀ (i : Nat) (d : D), r'[i]? = some (some d) → ∃ v, σ'[i]? = some (some v) ∧ RpD Ω G as ls v d) (hl : r'.length ≤ σ'.length) : Abs Ω Z { s with r := r' } G as ls σ' H :=
  ⟨A.sto, A.g0, A.a0, A.u, A.uas, A.uls, A.ug, A.llen, A.lnd, A.lal, A.lat, h, hl⟩
/-- behind a call that has seen all cells -/
theorem Abs.call (A : Abs Ω Z s G as ls σ H) {m : List Cell} (T : Sto Ω G' as' m H') (W : Grow H G as H' G' as') : Abs Ω Z { s with m := m } G' as' ls σ H' ∧ Le G as ls G' as' ls := by
  obtain ⟨l, rfl, hl⟩ := W.a
  have le : Le G as ls G' (as ++ l) ls := ⟨W.g, ⟨l, rfl⟩, Pre.refl _⟩
  have kept : ∀ a ∈ ls, a ∉ as → ∀ o, H a = some o → G a = none → H' a = some o ∧ G' a = none ∧ a ∉ as ++ l := fun a ha na o e g => by
    refine ⟨W.u a o e na, ?_, fun z => ?_⟩
    · cases q : G' a with
      | none => rfl
      | some u =>
        rcases W.n a u q with z | z
        · rw [g] at z; cases z
        · rw [e] at z; cases z
    · rcases List.mem_append.mp z with z | z
      · exact na z
      · rw [hl a z] at e; cases e
  refine ⟨⟨T, A.g0.trans W.g, A.a0.trans le.a, fun b o e => W.u b o (A.u b o e) (fun z => by rw [A.uas b z] at e; cases e), fun b hb => ?_, A.uls, fun b o e => ?_, A.llen, A.lnd, fun b hb => W.t b (A.lal b hb), fun k ps a e1 e2 => ?_, fun i d e => ?_, A.slen⟩, le⟩
  · rcases List.mem_append.mp hb with hb | hb
    · exact A.uas b hb
    · exact A.unew (hl b hb)
  · rcases W.n b o e with z | z
    · exact A.ug b o z
    · exact .inr (A.unew z)
  · obtain ⟨g, n, vs, e3, r⟩ := A.lat k ps a e1 e2
    obtain ⟨h1, h2, h3⟩ := kept a (List.mem_of_getElem? e2) n _ e3 g
    exact ⟨h2, h3, vs, h1, RpPs.mono W.g _ _ r⟩
  · obtain ⟨v, e1, r⟩ := A.env i d e
    exact ⟨v, e1, r.le le⟩
/-- behind a call that has seen none of the cells (but perhaps others, at ex) -/
theorem Abs.calx {ex ex' : List Addr} (A : Abs Ω Z s G as ls σ H) (T : Same G' H') (W : Grow H G ex H' G' ex') (hx : ∀ b ∈ ex, b ∉ as ∧ b ∉ ls ∧ Z.U b = none) : Abs Ω Z s G' as ls σ H' ∧ Le G as ls G' as ls := by
  have le : Le G as ls G' as ls := ⟨W.g, Pre.refl _, Pre.refl _⟩
  have gk : ∀ a o, G a = none → H a = some o → G' a = none := fun a o g e => by
    cases q : G' a with
    | none => rfl
    | some u =>
      rcases W.n a u q with z | z
      · rw [g] at z; cases z
      · rw [e] at z; cases z
  refine ⟨⟨⟨T, A.sto.len, A.sto.nd, fun k c a e1 e2 => ?_⟩, A.g0.trans W.g, A.a0, fun b o e => W.u b o (A.u b o e) (fun z => by rw [(hx b z).2.2] at e; cases e), A.uas, A.uls, fun b o e => ?_, A.llen, A.lnd, fun b hb => W.t b (A.lal b hb), fun k ps a e1 e2 => ?_, fun i d e => ?_, A.slen⟩, le⟩
  · obtain ⟨g, c⟩ := A.sto.cel k c a e1 e2
    obtain ⟨o, ho⟩ : ∃ o, H a = some o := by
      cases q : H a with
      | none => exact absurd q c.there
      | some o => exact ⟨o, rfl⟩
    exact ⟨gk a o g ho, c.mono ((W.u a o ho (fun z => (hx a z).1 (List.mem_of_getElem? e2))).trans ho.symm) W.g (Pre.refl _)⟩
  · rcases W.n b o e with z | z
    · exact A.ug b o z
    · exact .inr (A.unew z)
  · obtain ⟨g, n, vs, e3, r⟩ := A.lat k ps a e1 e2
    exact ⟨gk a _ g e3, n, vs, W.u a _ e3 (fun z => (hx a z).2.1 (List.mem_of_getElem? e2)), RpPs.mono W.g _ _ r⟩
  · obtain ⟨v, e1, r⟩ := A.env i d e
    exact ⟨v, e1, r.le le⟩
theorem Abs.calp (A : Abs Ω Z s G as ls σ H) (T : Same G' H') (W : Grow H G [] H' G' []) : Abs Ω Z s G' as ls σ H' ∧ Le G as ls G' as ls := A.calx T W fun b z => nomatch z
/-- a tracked object that nobody here knows is from here on one that never changes -/
theorem Abs.adopt (A : Abs Ω Z s G as ls σ H) {p : Addr} {o : HO} (hp : H p = some o) (g : G p = none) (n : p ∉ as) (m : p ∉ ls) (u : Z.U p = none) : Abs Ω Z s (upd G p o) as ls σ H ∧ Le G as ls (upd G p o) as ls := by
  have le : Le G as ls (upd G p o) as ls := ⟨same_new g, Pre.refl _, Pre.refl _⟩
  refine ⟨⟨⟨fun b q e => ?_, A.sto.len, A.sto.nd, fun k c a' e1 e2 => ?_⟩, A.g0.trans le.g, A.a0, A.u, A.uas, A.uls, fun b q e => ?_, A.llen, A.lnd, A.lal, fun j qs' a' f1 f2 => ?_, fun i d e => ?_, A.slen⟩, le⟩
  · by_cases hb : b = p
    · subst hb
      rw [upd_same] at e
      rw [← e]; exact hp
    · rw [upd_ne hb] at e
      exact A.sto.sub b q e
  · obtain ⟨g', c⟩ := A.sto.cel k c a' e1 e2
    have ne : a' ≠ p := fun z => n (z ▸ List.mem_of_getElem? e2)
    exact ⟨(upd_ne ne).trans g', c.mono rfl le.g (Pre.refl _)⟩
  · by_cases hb : b = p
    · exact .inr (hb ▸ u)
    · rw [upd_ne hb] at e
      exact A.ug b q e
  · obtain ⟨g', n', ws', e3, r'⟩ := A.lat j qs' a' f1 f2
    have ne : a' ≠ p := fun z => m (z ▸ List.mem_of_getElem? f2)
    exact ⟨(upd_ne ne).trans g', n', ws', e3, RpPs.mono le.g _ _ r'⟩
  · obtain ⟨v, f1, r⟩ := A.env i d e
    exact ⟨v, f1, r.le le⟩
/-- a frame with one more thing that stays -/
theorem Abs.more (A : Abs Ω Z s G as ls σ H) {p : Addr} {o : HO} (hp : H p = some o) (g : G p = none) (n : p ∉ as) (m : p ∉ ls) : Abs Ω { Z with U := upd Z.U p o } s G as ls σ H := by
  refine ⟨A.sto, A.g0, A.a0, fun b u e => ?_, fun b hb => ?_, fun b hb => ?_, fun b u e => ?_, A.llen, A.lnd, A.lal, A.lat, A.env, A.slen⟩
  · have e : upd Z.U p o b = some u := e
    by_cases hb : b = p
    · subst hb
      rw [upd_same] at e
      rw [← e]; exact hp
    · rw [upd_ne hb] at e
      exact A.u b u e
  · exact (upd_ne (fun z : b = p => n (by rw [← z]; exact hb))).trans (A.uas b hb)
  · exact (upd_ne (fun z : b = p => m (by rw [← z]; exact hb))).trans (A.uls b hb)
  · have hb : b ≠ p := ne_of_none e g
    rcases A.ug b u e with z | z
    · exact .inl z
    · exact .inr ((upd_ne hb).trans z)
/-- .. and without it -/
theorem Abs.less {Z' : Fr} (A : Abs Ω Z' s G as ls σ H) (hU : ∀ b o, Z.U b = some o → Z'.U b = some o) (hG : Z'.G0 = Z.G0) (ha : Z'.as0 = Z.as0) : Abs Ω Z s G as ls σ H := by
  have none_of : ∀ b, Z'.U b = none → Z.U b = none := fun b h => by
    cases e : Z.U b with
    | none => rfl
    | some o => rw [hU b o e] at h; cases h
  exact ⟨A.sto, hG ▸ A.g0, ha ▸ A.a0, fun b o e => A.u b o (hU b o e), fun b hb => none_of b (A.uas b hb), fun b hb => none_of b (A.uls b hb), fun b o e => by
    rcases A.ug b o e with z | z
    · exact .inl (hG ▸ z)
    · exact .inr (none_of b z), A.llen, A.lnd, A.lal, A.lat, A.env, A.slen⟩
end

/-! ### readings by the evaluator -/
/-- what is known of an exception that leaves -/
def ExD (Ω : Wd) (G : Hp) (x : Exc) (dx : Option Addr) (H : Hp) : Prop := match dx with
  | none => x.fs = []
  | some d => ∃ vs, H d = some (.xd ((x.fs.map (·.1)).zip vs)) ∧ RpPs Ω G vs (x.fs.map (·.2))
section
variable (Ω : Wd) (Z : Fr) (W : WX)
def Out {α β : Type} (rel : Hp → List Addr → List Addr → β → α → Prop) (G : Hp) (as ls : List Addr) (σ : St) (r : R α) (Q : β → Hp → Prop) : Prop := match r with
  | .st => False
  | .ok d s' => ∀ v H' G' as' ls', Abs Ω Z s' G' as' ls' σ H' → Le G as ls G' as' ls' → rel G' as' ls' v d → Q v H'
  | .ex x s' => ∀ dx H' G' as' ls', Abs Ω Z s' G' as' ls' σ H' → Le G as ls G' as' ls' → ExD Ω G' x dx H' → W (.ref (Ω.ca x.cls)) dx σ H'
def relD (G : Hp) (as ls : List Addr) : V → D → Prop := RpD Ω G as ls
def relDs (G : Hp) (as ls : List Addr) : List V → List D → Prop := RpDs Ω G as ls
def relB (G : Hp) (as ls : List Addr) : Bool → D → Prop := fun k d => d = .pur (.bl k)
def tE (f : S → R D) : TE := fun σ H Q => ∃ s G as ls, Abs Ω Z s G as ls σ H ∧ Out Ω Z W (relD Ω) G as ls σ (f s) Q
def tA (f : S → R (List D)) : TA := fun σ H Q => ∃ s G as ls, Abs Ω Z s G as ls σ H ∧ Out Ω Z W (relDs Ω) G as ls σ (f s) Q
def tT (f : S → R D) : TT := fun σ H Q => ∃ s G as ls, Abs Ω Z s G as ls σ H ∧ Out Ω Z W relB G as ls σ (f s) Q ∧ ∀ d s', f s = .ok d s' → ∃ k, d = .pur (.bl k)
end
end Ev
end

section
set_option linter.all false
/-! EvChk: a term of the language stands for a piece of the text. -/
namespace Ev
open PySem

structure Tab where
  fn : Nat → Str
  cl : Nat → Str
  okf : Nat → Bool
  okc : Nat → Bool
  okm : Nat → Bool := fun _ => false
  okp : Nat → Bool := fun _ => false
  oki : Nat → Bool := fun _ => false
  mc : Nat → Nat × Str := fun _ => (0, Str.empty)
  pc : Nat → Nat × Str := fun _ => (0, Str.empty)
  okx : Nat → Option (List Str) := fun _ => none
  xb : Nat → Bool := fun _ => false
/-- the name of the def for an operation -/
def cmpNm : CmpOp → Option Str
  | .Eq => some "__eq__"
  | _ => none
def binNm : Operator → Option Str
  | .Add => some "__add__"
  | _ => none
def okn (x : Str) : Bool := !(x == ("__debug__" : Str)) && !(x == ("__classdict__" : Str)) && !(x == ("__name__" : Str))
def vis (sc : Scope) (x : Str) : Bool := match sc.names.lookup x with
  | some .local => true
  | some .cell => true
  | some .free => true
  | _ => false
def sto (sc : Scope) (x : Str) : Bool := match sc.names.lookup x with
  | some .local => true
  | some .cell => true
  | _ => false
def isLoc (sc : Scope) (x : Str) : Bool := match sc.names.lookup x with
  | some .local => true
  | _ => false
def glo (sc : Scope) (x : Str) : Bool := (match sc.names.lookup x with
  | some .globalImplicit => true
  | _ => false) && okn x
def isFun (sc : Scope) : Bool := match sc.kind with
  | .function => true
  | _ => false
def rel (scope sc : Scope) : Scope :=
  { scope with names := scope.names.map fun (n, k) => if (k == .free && sc.kind == .function && sc.names.lookup n == some .cell) then (n, .cell) else (n, k) }
def blk (N : List Str) (sc scope : Scope) (own : List (Str × Nat)) : Bool :=
  (match scope.kind with | .function => true | _ => false) && (scope.names.all fun y => decide (scope.names.lookup y.1 = some y.2)) && (own.all fun p => decide (N[p.2]? = some p.1)) &&
    (scope.names.all fun y => match y.2 with
      | .free => (match sc.names.lookup y.1 with | some .cell => true | some .free => true | _ => false)
      | .local => decide (y.1 ∈ own.map (·.1)) || decide (y.1 ∉ N)
      | .cell => decide (y.1 ∈ own.map (·.1)) || decide (y.1 ∉ N)
      | _ => true)
def ownP (N : List Str) (own : List Nat) : List (Str × Nat) := own.map fun i => (N.getD i Str.empty, i)
def chkNs (N : List Str) (st : Str → Bool) : List Nat → List Expr → Bool
  | [], [] => true
  | i :: is, .Name x _ :: es => decide (N[i]? = some x) && st x && chkNs N st is es
  | _, _ => false
def chkT (N : List Str) (st : Str → Bool) : T → Expr → Bool
  | .nm i, .Name x _ => decide (N[i]? = some x) && st x
  | .tp is, .Tuple es _ _ => chkNs N st is es
  | _, _ => false
def cst : P → Const → Bool
  | .non, .none => true
  | .bl a, .bool b => a == b
  | .int i, .int j => decide (i = j)
  | .str x, .str y => decide (x = y)
  | _, _ => false
def bnm : B → Str
  | .len => "len" | .sum => "sum" | .all => "all" | .int => "int" | .list => "list" | .tuple => "tuple" | .max => "max" | .min => "min" | .str => "str" | .sorted => "sorted"
def mnm : M → Str
  | .append => "append" | .extend => "extend" | .pop => "pop" | .reverse => "reverse" | .join => "join" | .split => "split"
def mOK : M → Bool
  | .append | .extend => true
  | _ => false
def tnm (T : Tab) : Ty → Str
  | .int => "int" | .bool => "bool" | .str => "str" | .tuple => "tuple" | .list => "list" | .dict => "dict" | .cls c => T.cl c
def base : Expr → Bool
  | .Call (.Name _ _) [] [] _ => false
  | _ => true
def notSl : Expr → Bool
  | .Slice _ _ _ _ => false
  | _ => true
def notSet : Expr → Bool
  | .Set _ _ _ => false
  | _ => true
def nostar : Es → Bool
  | .nil => true
  | .cons _ es => nostar es
  | .star _ _ => false
def nonil : Es → Bool
  | .nil => false
  | _ => true
def keysB : List Str → List (Option Expr) → Bool
  | [], [] => true
  | k :: ks, some (.Constant (.str x) _ _) :: es => decide (k = x) && keysB ks es
  | _, _ => false
def tysB (T : Tab) (sc : Scope) : List Ty → List Expr → Bool
  | [], [] => true
  | t :: ts, .Name x _ :: es => decide (x = tnm T t) && glo sc x && (match t with | .cls _ => false | _ => true) && tysB T sc ts es
  | _, _ => false
/-- may stand as a test -/
def tst : E → Bool
  | .ite _ _ _ => false
  | _ => true
def tsts : Es → Bool
  | .nil => true
  | .cons e es => tst e && tsts es
  | .star _ _ => false
def bop' : Es → Bool
  | .nil => false
  | .cons _ .nil => true
  | .cons _ es => bop' es
  | .star _ _ => false
def lowhi (o : CmpOp) : Bool := match o with
  | .Lt | .LtE | .Gt | .GtE | .Eq | .NotEq => true
  | _ => false
def enuOK : T → I → Bool
  | .nm _, .enu _ => false
  | _, _ => true
mutual
def chkE (T : Tab) (N : List Str) : Scope → E → Expr → Bool
  | sc, .slot i, e => match e with
    | .Name x _ => decide (N[i]? = some x) && vis sc x && okn x
    | _ => false
  | sc, .frz i, e => match e with
    | .Name x _ => decide (N[i]? = some x) && vis sc x && okn x
    | _ => false
  | sc, .cst p, e => match e with
    | .Constant c _ _ => cst p c
    | _ => false
  | sc, .glb y, e => match e with
    | .Name x _ => decide (y = x) && glo sc x
    | _ => false
  | sc, .tup es, e => match e with
    | .Tuple xs _ _ => chkEs T N sc es xs
    | _ => false
  | sc, .lst es, e => match e with
    | .List xs _ => chkEs T N sc es xs
    | _ => false
  | sc, .lstL es, e => match e with
    | .List xs _ => chkEs T N sc es xs
    | _ => false
  | sc, .lstC es, e => match e with
    | .List xs _ => chkEs T N sc es xs
    | _ => false
  | sc, .bin o a b, e => match e with
    | .BinOp x o' y _ => decide (o = o') && chkE T N sc a x && chkE T N sc b y
    | _ => false
  | sc, .neg a, e => match e with
    | .UnaryOp .USub x _ => chkE T N sc a x
    | _ => false
  | sc, .cmp o a b, e => match e with
    | .Compare x [o'] [y] _ => decide (o = o') && chkE T N sc a x && chkE T N sc b y && notSet y
    | _ => false
  | sc, .chn o o2 a b c, e => match e with
    | .Compare x [o', o2'] [y, z] _ => decide (o = o') && decide (o2 = o2') && chkE T N sc a x && chkE T N sc b y && chkE T N sc c z && notSet z
    | _ => false
  | sc, .bop o es, e => match e with
    | .BoolOp o' xs _ => decide (o = o') && chkEs T N sc es xs && bop' es && tsts es
    | _ => false
  | sc, .not a, e => match e with
    | .UnaryOp .Not x _ => chkE T N sc a x && tst a
    | _ => false
  | sc, .ite c a b, e => match e with
    | .IfExp x y z _ => chkE T N sc c x && chkE T N sc a y && chkE T N sc b z && tst c
    | _ => false
  | sc, .idx a i, e => match e with
    | .Subscript x y _ => chkE T N sc a x && chkE T N sc i y && notSl y
    | _ => false
  | sc, .slc a lo hi, e => match e with
    | .Subscript x (.Slice l h none _) _ => chkE T N sc a x && chkO T N sc lo l && chkO T N sc hi h
    | _ => false
  | sc, .rev a, e => match e with
    | .Subscript x (.Slice none none (some (.UnaryOp .USub (.Constant (.int j) _ _) _)) _) _ => chkE T N sc a x && decide (j = 1)
    | _ => false
  | sc, .dsel ks es k, e => match e with
    | .Subscript (.Dict kk vv _) y _ => keysB ks kk && chkEs T N sc es vv && nostar es && chkE T N sc k y && notSl y && decide (kk.length = vv.length) && decide (0 < kk.length) && decide (kk.length ≤ 15) && decide ks.Nodup
    | _ => false
  | sc, .isi a t, e => match e with
    | .Call (.Name f _) [x, .Name y _] [] _ => decide (f = "isinstance") && glo sc f && chkE T N sc a x && decide (y = tnm T t) && glo sc y
    | _ => false
  | sc, .isT a ts, e => match e with
    | .Call (.Name f _) [x, .Tuple ys _ _] [] _ => decide (f = "isinstance") && glo sc f && chkE T N sc a x && tysB T sc ts ys && decide (0 < ys.length) && decide (ys.length ≤ 100)
    | _ => false
  | sc, .bif f es, e => match e with
    | .Call (.Name g _) xs [] _ => decide (g = bnm f) && glo sc g && chkEs T N sc es xs && nostar es && nonil es
    | _ => false
  | sc, .listC a, e => match e with
    | .Call (.Name g _) [x] [] _ => decide (g = "list") && glo sc g && chkE T N sc a x
    | _ => false
  | sc, .lrg a, e => match e with
    | .Call (.Name g _) [.Call (.Name g2 _) [x] [] _] [] _ => decide (g = "list") && glo sc g && decide (g2 = "range") && glo sc g2 && chkE T N sc a x
    | _ => false
  | sc, .mth o m es, e => match e with
    | .Call (.Attribute x g ap) xs [] cp => decide (g = mnm m) && mOK m && chkE T N sc o x && chkEs T N sc es xs && base x && nostar es && nonil es && (ap.endLine == cp.line) && decide (xs.length < 20)
    | _ => false
  | sc, .meth c m i o es, e => match e with
    | .Call (.Attribute x g ap) xs [] cp => decide (g = m) && T.okm i && decide (T.mc i = (c, m)) && chkE T N sc o x && chkEs T N sc es xs && base x && nostar es && (ap.endLine == cp.line) && decide (xs.length < 20)
    | _ => false
  | sc, .prop c m i o, e => match e with
    | .Attribute x g _ => decide (g = m) && T.okp i && decide (T.pc i = (c, m)) && chkE T N sc o x && base x
    | _ => false
  | sc, .opc o c i a b, e => match e with
    | .Compare x [o'] [y] _ => decide (o = o') && T.okm i && decide (cmpNm o = some (T.mc i).2) && decide ((T.mc i).1 = c) && chkE T N sc a x && chkE T N sc b y && notSet y
    | _ => false
  | sc, .opb o c i a b, e => match e with
    | .BinOp x o' y _ => decide (o = o') && T.okm i && T.oki c && decide (binNm o = some (T.mc i).2) && decide ((T.mc i).1 = c) && chkE T N sc a x && chkE T N sc b y
    | _ => false
  | sc, .lenO c i a, e => match e with
    | .Call (.Name f _) [x] [] _ => decide (f = "len") && glo sc f && chkE T N sc a x && T.okm i && decide (T.mc i = (c, ("__len__" : Str)))
    | _ => false
  | sc, .isc c a, e => match e with
    | .Call (.Name f _) [x, .Name y _] [] _ => decide (f = "isinstance") && glo sc f && chkE T N sc a x && decide (y = T.cl c) && glo sc y && T.oki c
    | _ => false
  | sc, .spl o a, e => match e with
    | .Call (.Attribute x g ap) [y] [] cp => decide (g = "split") && chkE T N sc o x && chkE T N sc a y && base x && (ap.endLine == cp.line) && (match y with | .Starred _ _ => false | _ => true)
    | _ => false
  | sc, .joi o a, e => match e with
    | .Call (.Attribute x g ap) [y] [] cp => decide (g = "join") && chkE T N sc o x && chkE T N sc a y && base x && (ap.endLine == cp.line) && (match y with | .Starred _ _ => false | _ => true)
    | _ => false
  | sc, .mkc c es, e => match e with
    | .Call (.Name g _) xs [] _ => T.okc c && decide (g = T.cl c) && glo sc g && chkEs T N sc es xs && nostar es && nonil es
    | _ => false
  | sc, .fld a f, e => match e with
    | .Attribute x g _ => decide (f = g) && chkE T N sc a x && base x
    | _ => false
  | sc, .call f es, e => match e with
    | .Call (.Name g _) xs [] _ => T.okf f && decide (g = T.fn f) && glo sc g && chkEs T N sc es xs && nostar es && nonil es
    | _ => false
  | sc, .calp f es, e => match e with
    | .Call (.Name g _) xs [] _ => T.okf f && decide (g = T.fn f) && glo sc g && chkEs T N sc es xs && nostar es && nonil es
    | _ => false
  | sc, .calp0 f, e => match e with
    | .Call (.Name g _) [] [] _ => T.okf f && decide (g = T.fn f) && glo sc g
    | _ => false
  | sc, .mkf c es, e => match e with
    | .Call (.Name g _) xs [] _ => T.okc c && decide (g = T.cl c) && glo sc g && chkEs T N sc es xs && nostar es && nonil es
    | _ => false
  | sc, .lc elt t it cond own, e => match e with
    | .ListComp x [⟨tg, iter, ifs, a⟩] scope _ => decide (a = 0) && blk N sc scope (ownP N own) && chkI T N sc it iter && enuOK t it && chkT N (sto scope) t tg && chkEs T N (rel scope sc) cond ifs && nostar cond && tsts cond && decide (ifs.length ≤ 1) && chkE T N (rel scope sc) elt x
        && (match t with | .nm i => own.contains i | .tp is => is.all own.contains)
    | _ => false
def chkEs (T : Tab) (N : List Str) : Scope → Es → List Expr → Bool
  | sc, .nil, es => match es with
    | [] => true
    | _ => false
  | sc, .cons e r, es => match es with
    | .Starred _ _ :: _ => false
    | x :: xs => chkE T N sc e x && chkEs T N sc r xs
    | [] => false
  | sc, .star e r, es => match es with
    | .Starred x _ :: xs => chkE T N sc e x && chkEs T N sc r xs
    | _ => false
def chkO (T : Tab) (N : List Str) : Scope → Eo → Option Expr → Bool
  | sc, .none, e => match e with
    | none => true
    | _ => false
  | sc, .some a, e => match e with
    | some x => chkE T N sc a x
    | _ => false
def chkI (T : Tab) (N : List Str) : Scope → I → Expr → Bool
  | sc, .seq a, e => chkE T N sc a e && notSet e
  | sc, .rng1 a, e => match e with
    | .Call (.Name g _) [x] [] _ => decide (g = "range") && glo sc g && chkE T N sc a x && (match x with | .Starred _ _ => false | _ => true)
    | _ => false
  | sc, .rng2 a b, e => match e with
    | .Call (.Name g _) [x, y] [] _ => decide (g = "range") && glo sc g && chkE T N sc a x && chkE T N sc b y && (match x with | .Starred _ _ => false | _ => true) && (match y with | .Starred _ _ => false | _ => true)
    | _ => false
  | sc, .enu a, e => match e with
    | .Call (.Name g _) [x] [] _ => decide (g = "enumerate") && glo sc g && chkE T N sc a x && (match x with | .Starred _ _ => false | _ => true)
    | _ => false
end
/-- how a, b = e1, e2 is stored: none: not told -/
def parB (ts vs : List Expr) (sc : Scope) : Option (Option (List Str)) :=
  if !(ts.length == 2 || ts.length == 3) || vs.length != ts.length then some none
  else if vs.any (fun | .Starred .. => true | _ => false) then some none
  else
    let line := (ts.head?.map (·.pos.line)).getD 0
    let names := ts.filterMap fun
      | .Name id pos => if sc.names.lookup id == some .local && pos.line == line then some id else none
      | _ => none
    if names.length != ts.length || names.eraseDups.length != names.length then some none
    else if vs.all (foldedForSure 8) then some none
    else if vs.all (constantsAlone 8) then none
    else some (some names)
def notTup : Expr → Bool
  | .Tuple _ _ _ => false
  | _ => true
def notComp : Expr → Bool
  | .ListComp _ _ _ _ => false
  | .SetComp _ _ _ _ => false
  | .DictComp _ _ _ _ _ => false
  | _ => true
/-- an except clause -/
def chkA (n : Option Str) (f : Str) : Expr → Bool
  | .Attribute (.Name x _) g _ => decide (n = some x) && decide (f = g) && okn x
  | _ => false
def chkHT (n : Option Str) : HTm → Expr → Bool
  | .cst p, .Constant c _ _ => cst p c
  | .fld f, e => chkA n f e
  | .lst f, .List [e] _ => chkA n f e
  | .tup f g, .Tuple [e, e'] _ _ => chkA n f e && chkA n g e'
  | _, _ => false
def chkHE (T : Tab) (sc : Scope) (n : Option Str) (t : HTm) : Option Nat → Expr → Bool
  | none, e => chkHT n t e && notComp e
  | some b, .IfExp (.Call (.Name g _) [.Name x _, .Name y _] [] _) e _ _ => decide (g = "isinstance") && glo sc g && decide (n = some x) && okn x && decide (y = T.cl b) && glo sc y && T.xb b && chkHT n t e
  | _, _ => false
def chkNm (N : List Str) (sc : Scope) : Option Nat → Option Str → Bool
  | none, none => true
  | some i, some x => decide (N[i]? = some x) && isLoc sc x
  | _, _ => false
def okHt (T : Tab) (h : Hd) : Bool := match T.okx h.c with
  | some fs => (htF h.t).all fs.contains
  | none => false
def chkHd (T : Tab) (N : List Str) (sc : Scope) (h : Hd) : ExceptHandler → Bool
  | .ExceptHandler (some (.Name x _)) n [.Assign [.Name v _] e _] _ => okHt T h && decide (x = T.cl h.c) && glo sc x && chkNm N sc h.nm n && decide (N[h.i]? = some v) && sto sc v && chkHE T sc n h.t h.isx e
  | _ => false
def chkHds (T : Tab) (N : List Str) (sc : Scope) : List Hd → List ExceptHandler → Bool
  | [], [] => true
  | h :: hs, e :: es => chkHd T N sc h e && chkHds T N sc hs es
  | _, _ => false
mutual
def chkS (T : Tab) (N : List Str) (sc : Scope) : Stm → Stmt → Bool
  | .asg i a, st => match st with
    | .Assign [.Name x _] e _ => decide (N[i]? = some x) && sto sc x && chkE T N sc a e
    | _ => false
  | .unp is a, st => match st with
    | .Assign [.Tuple ts _ _] e _ => chkNs N (sto sc) is ts && chkE T N sc a e && notTup e
    | _ => false
  | .par is es, st => match st with
    | .Assign [.Tuple ts _ _] (.Tuple xs _ _) _ => chkNs N (sto sc) is ts && chkEs T N sc es xs && nostar es && decide (is.length = xs.length) && decide (is.length ≤ 100) && (parB ts xs sc).isSome
    | _ => false
  | .sto2 o1 i1 o2 i2 es, st => match st with
    | .Assign [.Tuple [.Subscript x1 y1 p1, .Subscript x2 y2 p2] _ _] (.Tuple xs _ _) _ => chkE T N sc o1 x1 && chkE T N sc i1 y1 && chkE T N sc o2 x2 && chkE T N sc i2 y2 && chkEs T N sc es xs && nostar es && notSl y1 && notSl y2 && (match parB [.Subscript x1 y1 p1, .Subscript x2 y2 p2] xs sc with | some none => true | _ => false)
    | _ => false
  | .sto o i a, st => match st with
    | .Assign [.Subscript x y _] e _ => chkE T N sc o x && chkE T N sc i y && chkE T N sc a e && notSl y
    | _ => false
  | .augs op o i a, st => match st with
    | .AugAssign (.Subscript x y _) op' e _ => decide (op = op') && chkE T N sc o x && chkE T N sc i y && chkE T N sc a e && notSl y
    | _ => false
  | .aug op i a, st => match st with
    | .AugAssign (.Name x _) op' e _ => decide (op = op') && decide (N[i]? = some x) && sto sc x && okn x && chkE T N sc a e
    | _ => false
  | .stf o f a, st => match st with
    | .Assign [.Attribute x g _] e _ => decide (f = g) && chkE T N sc o x && chkE T N sc a e && base x
    | _ => false
  | .augf op o f a, st => match st with
    | .AugAssign (.Attribute x g _) op' e _ => decide (op = op') && decide (f = g) && chkE T N sc o x && chkE T N sc a e && base x
    | _ => false
  | .exp a, st => match st with
    | .Expr e _ => chkE T N sc a e && notComp e
    | _ => false
  | .ret a, st => match st with
    | .Return (some e) _ => chkE T N sc a e
    | _ => false
  | .ret0, st => match st with
    | .Return none _ => true
    | _ => false
  | .ifs c a b, st => match st with
    | .If e x y _ => chkE T N sc c e && tst c && chkSs T N sc a x && chkSs T N sc b y
    | _ => false
  | .forr t it b, st => match st with
    | .For tg iter x [] _ => chkT N (sto sc) t tg && chkI T N sc it iter && enuOK t it && chkSs T N sc b x
    | _ => false
  | .whil c b, st => match st with
    | .While e x [] _ => chkE T N sc c e && tst c && chkSs T N sc b x
    | _ => false
  | .pas, st => match st with
    | .Pass _ => true
    | _ => false
  | .brk, st => match st with
    | .Break _ => true
    | _ => false
  | .con, st => match st with
    | .Continue _ => true
    | _ => false
  | .rai c es, st => match st with
    | .Raise (some (.Call (.Name x _) xs [] _)) none _ => (T.okx c).isSome && decide (x = T.cl c) && glo sc x && chkEs T N sc es xs && nostar es
    | _ => false
  | .tryS b hs, st => match st with
    | .Try body (h :: r) [] [] _ => chkSs T N sc b body && chkHds T N sc hs (h :: r)
    | _ => false
  | .nev, _ => true
def chkSs (T : Tab) (N : List Str) (sc : Scope) : Stms → List Stmt → Bool
  | .nil, st => match st with
    | [] => true
    | _ => false
  | .cons a r, st => match st with
    | x :: xs => chkS T N sc a x && chkSs T N sc r xs
    | _ => false
end
/-- a def's scope: names by slot, the parameters first -/
def fnSc (N ps : List Str) (sc : Scope) : Bool :=
  isFun sc && !sc.isCoroutine && !sc.isGenerator && decide N.Nodup && decide (N.take ps.length = ps) &&
  (ps.all fun x => sto sc x) && (sc.names.all fun y => match y.2 with | .free => false | _ => true)
end Ev
end

section
set_option Elab.async false
set_option linter.all false
set_option maxRecDepth 100000
set_option maxHeartbeats 4000000
/-! EvXck: what the text and the written part say of an own exception. -/
namespace Ev
open PySem PySem.Spec L2
open PyProof.Rows hiding St

/-! ### the text of such an __init__ -/
def xsto : List Str → List Stmt → Bool
  | [], [] => true
  | f :: fs, .Assign [.Attribute (.Name s _) g _] (.Name x _) _ :: r => decide (s = "self") && decide (g = f) && decide (x = f) && xsto fs r
  | _, _ => false
def xbody (fs : List Str) : List Stmt → Bool
  | .Expr (.Call (.Attribute (.Call (.Name s _) [] [] _) i ap) [.Constant (.str _) _ _] [] cp) _ :: r => (ap.endLine == cp.line) && decide (s = "super") && decide (i = "__init__") && xsto fs r
  | _ => false
def xscope (fs : List Str) (sc : Scope) : Bool := isFun sc && !sc.isCoroutine && !sc.isGenerator &&
  decide (sc.names.lookup ("super" : Str) = some .globalImplicit) && decide (sc.names.lookup ("__class__" : Str) = some .free) && decide (sc.names.lookup ("self" : Str) = some .local) &&
  (fs.all fun f => decide (sc.names.lookup f = some .local)) && (sc.names.all fun y => match y.2 with | .cell => false | _ => true)
def xpar (ps : Arguments) : Bool := match (ps.posonlyargs ++ ps.args).head? with
  | some a => decide (a.arg = "self")
  | none => false
def xok (fs : List Str) (st : Stmt) : Bool := xbody fs (defBody st) && xscope fs (defScope st) && xpar (defArgs st) && decide fs.Nodup && decide (fs.length ≤ 100) && fs.all fun f => !(f == ("__debug__" : Str)) && !(f == ("self" : Str))
/-- what the written part says of the class at C -/
structure XcK (P : Program) (K : PySem.W.Frag) (C : Addr) (fs : List Str) : Prop where
  cls : ∃ nm q N bs bm sn sub ab col dd k0 k1 k2 k3 k5, K.lookup C = some (excClassObj nm q C N bs bm true sn sub ab col dd k0 k1 k2 k3 k5 "ValueError.__new__") ∧ PySem.HandSPX.refsVE bm = true
  sa : PySem.W.findIn K (.ref C) "__setattr__" = some (some (.builtin "object.__setattr__"))
  exC : PySem.W.subIn K (.ref C) (.type "BaseException") = some true
  veC : PySem.W.subIn K (.ref C) (.type "ValueError") = some true
  tyC : PySem.W.typeIn K (.ref C) = some (.type "type")
  kC : PySem.W.keepIn K (.ref C) = true
  na : ∀ f ∈ fs, PySem.W.findIn K (.ref C) f = some none
  su : PySem.W.nsIn K mainGlobals "super" = some none
  op : PySem.W.nsIn K cStatics "thirdparty.any" = some none
  mr : PySem.W.mroIn K C (.ref C) = some true
  ki : PySem.W.ks_superIn K C C "__init__" = some (some (.builtin "ValueError.__init__"))
  ga : PySem.W.findIn K (.ref C) "__getattribute__" = some (some (.builtin "BaseException.__getattribute__"))
  gg : PySem.W.findIn K (.ref C) "__getattr__" = some none
  hd : PySem.W.hasDictIn K C = true
  ha : PySem.W.findIn K (.ref C) "__class__" = some (some (.builtin "object.__class__"))
  hn : PySem.W.specialIn K (.builtin "object.__class__") "__get__" = some (some (.builtin "getset_descriptor.__get__"))
  ht : PySem.W.takesIn K (.builtin "object.__class__") = some true
  hm : PySem.W.mroIn K C (.type "object") = some true
  ii : PySem.W.excInitIn K C [.type "ValueError", .type "Exception", .type "BaseException", .type "object"] "ValueError.__new__" = true
  ini : ∃ (fI cc cda : Addr) (st : Stmt) (qual : Str) (dV kV doc pm oc ct ccl cl : Value) (an od cdd cld : Option Addr) (osl ccs csl : Array (Option Value)) (vs : Array Value) (file : Str) (tf : Tok),
    PySem.W.findIn K (.ref C) "__init__" = some (some (.ref fI)) ∧ PySem.W.typeIn K (.ref fI) = some (.type "function") ∧
    K.lookup fI = some ⟨oc, od, .func (PySem.W.ksFn "__init__" qual (defArgs st) (defBody st) (defScope st) dV kV doc pm an (.ref cda) ct cc), osl⟩ ∧
    PySem.W.codeIn K (.ref cda) qual = true ∧ xok fs st = true ∧
    K.lookup cda = some ⟨ccl, cdd, .fields vs, ccs⟩ ∧ vs[2]? = some (.str file tf) ∧ ((P.main.file : Str) == file) = true ∧
    K.lookup cc = some ⟨cl, cld, .cell (some (.ref C)), csl⟩ ∧ (P.main.scope.names.lookup ("super" : Str)).isSome = false ∧
    ∀ us : List Value, us.length = fs.length + 1 → bindArgs (PySem.W.ksFn "__init__" qual (defArgs st) (defBody st) (defScope st) dV kV doc pm an (.ref cda) ct cc) ⟨us, []⟩ = pure ((("self" : Str) :: fs).zip us)

end Ev
end

section
set_option Elab.async false
set_option linter.all false
set_option maxRecDepth 100000
set_option maxHeartbeats 4000000
/-! EvSnd: the evaluator is sound: expressions. -/
namespace Ev
open PySem PySem.Spec L2
open PyProof.Rows hiding St

def OutF (Ω : Wd) (G : Hp) (as : List Addr) (H : Hp) (r : RF) (Q : VK) (E : XK) : Prop := match r with
  | .st => False
  | .ok d m' => ∀ v H' G' as', Sto Ω G' as' m' H' → Grow H G as H' G' as' → RpD Ω G' as' [] v d → Q v H'
  | .ex x m' => ∀ dx H' G' as', Sto Ω G' as' m' H' → Grow H G as H' G' as' → ExD Ω G' x dx H' → E (.ref (Ω.ca x.cls)) dx H'
def spF (Ω : Wd) (F : Fn) : Sp := fun vs H Q E => ∃ ds m G as, RpDs Ω G as [] vs ds ∧ noloc ds = true ∧ Sto Ω G as m H ∧ OutF Ω G as H (F ds m) Q E
structure FnF (Ω : Wd) (k : Nat) (x : Str) (F : Fn) : Prop where
  ex : ∃ (a : Addr) (fd : FuncData) (ps : List Str), Ω.mg x = some (.ref a) ∧ PySem.W.keepIn Ω.K (.ref a) = true ∧ Binds Ω.K fd ps [] ∧ FnOk Ω.P Ω.w Ω.K Ω.mg Ω.base (L2.CX Ω.P Ω.w) k a fd ps (spF Ω F)
structure MkFct (Ω : Wd) (k : Nat) (x : Str) (C : Addr) (F : Fn) : Prop where
  ex : ∃ (f : Addr) (fd : FuncData) (ps : List Str), Ω.mg x = some (.ref C) ∧ Mk Ω.K C f ∧ Binds Ω.K fd ps [] ∧ FnOk Ω.P Ω.w Ω.K Ω.mg Ω.base (L2.CX Ω.P Ω.w) k f fd ps (spF Ω F)
/-- a method, a property of the class at C; a class as isinstance and + ask for it -/
structure MetF (Ω : Wd) (k : Nat) (C : Addr) (m : Str) (F : Fn) : Prop where
  ex : ∃ (f : Addr) (fd : FuncData) (ps : List Str), Meth Ω.K C m f ∧ Cls Ω.K C ∧ Binds Ω.K fd ps [] ∧ FnOk Ω.P Ω.w Ω.K Ω.mg Ω.base (L2.CX Ω.P Ω.w) k f fd ps (spF Ω F)
structure PrpF (Ω : Wd) (k : Nat) (C : Addr) (m : Str) (F : Fn) : Prop where
  ex : ∃ (p g : Addr) (fd : FuncData) (ps : List Str), PropOf Ω.K C m p g ∧ Cls Ω.K C ∧ Binds Ω.K fd ps [] ∧ FnOk Ω.P Ω.w Ω.K Ω.mg Ω.base (L2.CX Ω.P Ω.w) k g fd ps (spF Ω F)
structure InsF (Ω : Wd) (x : Str) (C : Addr) : Prop where
  mg : Ω.mg x = some (.ref C)
  ic : C8.InsC Ω.K C
  nt : PySem.W.kitOne Ω.K (.type "tuple") (.ref C) = some false
  sf : PySem.W.selfFirst Ω.K C = true
def bltins : List Str := ["len", "sum", "all", "int", "list", "tuple", "max", "min", "str", "sorted", "range", "enumerate", "isinstance", "bool", "dict"]
/-- an own exception -/
structure XcF (Ω : Wd) (x : Str) (C : Addr) (fs : List Str) : Prop where
  mg : Ω.mg x = some (.ref C)
  xk : XcK Ω.P Ω.K C fs
structure Facts (Ω : Wd) (Γ : Cfg) (T : Tab) (k : Nat) : Prop where
  bi : ∀ x ∈ bltins, Ω.mg x = none
  gl : ∀ x p, Γ.glb x = some p → ∃ u v, Ω.mg x = some u ∧ RelV v u ∧ RpP Ω (fun _ => none) v p
  fn : ∀ f, T.okf f = true → FnF Ω k (T.fn f) (Γ.fns f)
  mkc : ∀ c, T.okc c = true → MkFct Ω k (T.cl c) (Ω.ca c) (Γ.ini c)
  fa : ∀ c f, Γ.fa c f = true → Cls Ω.K (Ω.ca c) ∧ NoAttr Ω.K (Ω.ca c) f
  mt : ∀ i, T.okm i = true → MetF Ω k (Ω.ca (T.mc i).1) (T.mc i).2 (Γ.mts i)
  pr : ∀ i, T.okp i = true → PrpF Ω k (Ω.ca (T.pc i).1) (T.pc i).2 (Γ.prs i)
  ic : ∀ c, T.oki c = true → InsF Ω (T.cl c) (Ω.ca c)
  xe : Γ.xf = T.okx
  xc : ∀ c fs, T.okx c = some fs → XcF Ω (T.cl c) (Ω.ca c) fs
  xm : ∀ c c' fs fs', T.okx c = some fs → T.okx c' = some fs' → PySem.W.exmOne Ω.K (.ref (Ω.ca c)) (.ref (Ω.ca c')) = some (c == c')
  xi : ∀ b c fs, T.xb b = true → T.okx c = some fs → Ω.mg (T.cl b) = some (.ref (Ω.ca b)) ∧ PySem.W.kitOne Ω.K (.ref (Ω.ca c)) (.ref (Ω.ca b)) = some true
structure Good (Ω : Wd) (k : Nat) (N : List Str) (sc : Scope) (W : WX) (X : Cx) : Prop where
  P : X.prog = Ω.P
  w : X.w = Ω.w
  K : X.K = Ω.K
  mg : X.mg = Ω.mg
  base : X.base = Ω.base
  calm : X.calm = true
  hN : X.N = N
  nd : N.Nodup
  sc : X.env.scope = sc
  room : Room (k + 1) X.A
  tk : Takes X W
def W0 : WX := fun _ _ _ _ => False

section
variable {Ω : Wd} {Z : Fr} {W : WX} {s : S} {G H : Hp} {as ls : List Addr} {σ : St} {X : Cx}
theorem Out.rebase {α β : Type} {rl : Hp → List Addr → List Addr → β → α → Prop} {r : R α} {Q : β → Hp → Prop} {G1 : Hp} {as1 ls1 : List Addr} (h : Out Ω Z W rl G as ls σ r Q) (le : Le G as ls G1 as1 ls1) : Out Ω Z W rl G1 as1 ls1 σ r Q := by
  cases r with
  | st => exact h
  | ok d s' => exact fun v H' G' as' ls' A le' => h v H' G' as' ls' A (le.trans le')
  | ex x s' => exact fun dx H' G' as' ls' A le' e => h dx H' G' as' ls' A (le.trans le') e
theorem Out.bind {α α' β β' : Type} {rl : Hp → List Addr → List Addr → β → α → Prop} {rl' : Hp → List Addr → List Addr → β' → α' → Prop} {r : R α} {k : α → S → R α'} {Q : β' → Hp → Prop} (h : Out Ω Z W rl' G as ls σ (r.bind k) Q) :
    Out Ω Z W rl G as ls σ r (fun v H1 => ∃ d s1 G1 as1 ls1, r = .ok d s1 ∧ Abs Ω Z s1 G1 as1 ls1 σ H1 ∧ Le G as ls G1 as1 ls1 ∧ rl G1 as1 ls1 v d ∧ Out Ω Z W rl' G1 as1 ls1 σ (k d s1) Q) := by
  cases r with
  | st => exact h
  | ok d s' => exact fun v H' G' as' ls' A le rr => ⟨d, s', G', as', ls', rfl, A, le, rr, Out.rebase h le⟩
  | ex x s' => exact h
theorem Out.pure {α β : Type} {rl : Hp → List Addr → List Addr → β → α → Prop} {o : Option α} {Q : β → Hp → Prop} (A : Abs Ω Z s G as ls σ H) (h : Out Ω Z W rl G as ls σ (R.pure o s) Q) :
    ∃ d, o = some d ∧ ∀ v H' G' as' ls', Abs Ω Z s G' as' ls' σ H' → Le G as ls G' as' ls' → rl G' as' ls' v d → Q v H' := by
  cases o with
  | none => exact h.elim
  | some d => exact ⟨d, rfl, h⟩
theorem Out.tell {α β : Type} {rl : Hp → List Addr → List Addr → β → α → Prop} {d : α} {Q : β → Hp → Prop} {v : β} (A : Abs Ω Z s G as ls σ H) (o : Out Ω Z W rl G as ls σ (.ok d s) Q) (r : rl G as ls v d) : Q v H :=
  o v H G as ls A (Le.refl _ _ _) r
theorem pe_by {e : Expr} {t : TE} (h : ∀ σ H Q, t σ H Q → ∃ t', PE X e t' ∧ t' σ H Q) : PE X e t := ⟨fun pins s σ H Q I q =>
  let ⟨_, p, q'⟩ := h σ H Q q
  p.run pins s σ H Q I q'⟩
theorem pt_by {e : Expr} {t : TT} (h : ∀ σ H Q, t σ H Q → ∃ t', PT X e t' ∧ t' σ H Q) : PT X e t := ⟨fun pins s σ H Q I q =>
  let ⟨_, p, q'⟩ := h σ H Q q
  p.run pins s σ H Q I q'⟩
theorem pw_by {e : Expr} {t : TT} (h : ∀ σ H Q, t σ H Q → ∃ t', PW X e t' ∧ t' σ H Q) : PW X e t := ⟨fun wh pins s σ H Q I q =>
  let ⟨_, p, q'⟩ := h σ H Q q
  p.run wh pins s σ H Q I q'⟩
theorem pa_by {e : List Expr} {t : TA} (h : ∀ σ H Q, t σ H Q → ∃ t', PA X e t' ∧ t' σ H Q) : PA X e t := ⟨fun pos pins s σ H Q I q =>
  let ⟨_, p, q'⟩ := h σ H Q q
  p.run pos pins s σ H Q I q'⟩
/-- a value that comes -/
theorem RpD.bl {v : V} {k : Bool} (h : RpD Ω G as ls v (.pur (.bl k))) : v = .bl k := by cases h with | pur h => cases h; rfl
theorem RpD.int {v : V} {k : Int} (h : RpD Ω G as ls v (.pur (.int k))) : v = .int k := by cases h with | pur h => cases h; rfl
theorem RpD.str {v : V} {k : Str} (h : RpD Ω G as ls v (.pur (.str k))) : v = .str k := by cases h with | pur h => cases h; rfl
theorem RpD.non {v : V} (h : RpD Ω G as ls v (.pur .non)) : v = .non := by cases h with | pur h => cases h; rfl
theorem RpD.isnon {v : V} {d : D} (h : RpD Ω G as ls v d) : isNon d = decide (v = .non) := by
  cases h with
  | pur h => cases h <;> simp [isNon]
  | cel _ => simp [isNon]
  | loc _ => simp [isNon]
/-- a test by its value -/
theorem pt_of_pe {e : Expr} {f : S → R D} (h : PE X e (tE Ω Z W f)) (he : ∀ whole, isTrue e X.env whole = (do let v ← whole; standAt e.pos; holding [v] (truthy v))) : PT X e (tT Ω Z W f) := by
  refine pt_by fun σ H Q ⟨s, G, as, ls, A, o, hb⟩ => ⟨_, pt_val h he, s, G, as, ls, A, ?_⟩
  cases q : f s with
  | st => rw [q] at o; exact o
  | ex x s' => rw [q] at o; exact o
  | ok d s' =>
    obtain ⟨k, rfl⟩ := hb d s' q
    rw [q] at o
    exact fun v H' G' as' ls' A' le r => ⟨k, r.bl, o k H' G' as' ls' A' le rfl⟩
end

/-! ### any rule by values -/
def rU (X : Cx) (f : Value → Value → Sem Value) : R2 := fun x y H Q => ∃ r : R2, OpR X f r ∧ r x y H Q
theorem op_any {X : Cx} {f : Value → Value → Sem Value} : OpR X f (rU X f) := fun pins s σ H x y v u Q I rx ry ⟨_, h, q⟩ => h pins s σ H x y v u Q I rx ry q
def rUI (X : Cx) : R2 := fun x y H Q => ∃ r : R2, IxR X r ∧ r x y H Q
theorem ix_any {X : Cx} : IxR X (rUI X) := fun value slice pins s σ H x y v u Q I rx ry ⟨_, h, q⟩ hs => h value slice pins s σ H x y v u Q I rx ry q hs
def rUC (X : Cx) (f : Value) : List V → Hp → VK → Prop := fun xs H Q => ∃ r : List V → Hp → VK → Prop, CallR X f r ∧ r xs H Q
theorem call_any {X : Cx} {f : Value} : CallR X f (rUC X f) := fun pins s σ H xs us Q I rx ⟨_, h, q⟩ => h pins s σ H xs us Q I rx q
def rUM (X : Cx) (id : String) : V → List V → Hp → VK → Prop := fun x xs H Q => ∃ r : V → List V → Hp → VK → Prop, MtR X id r ∧ r x xs H Q
theorem mt_any {X : Cx} {id : String} : MtR X id (rUM X id) := fun pins s σ H x xs v us Q I rv rx ⟨_, h, q⟩ => h pins s σ H x xs v us Q I rv rx q
def rUS (X : Cx) : V → Option Int → Option Int → Hp → VK → Prop := fun x l h H Q => ∃ r : V → Option Int → Option Int → Hp → VK → Prop, SlR X r ∧ r x l h H Q
theorem sl_any {X : Cx} : SlR X (rUS X) := fun pins s σ H x v vl vu lo hi sl Q I rx hs h1 h2 ⟨_, hh, q⟩ => hh pins s σ H x v vl vu lo hi sl Q I rx hs h1 h2 q
def bltn (v : V) (p : P) (Ω : Wd) (G : Hp) (as ls : List Addr) : Prop := RpD Ω G as ls v (.pur p)

/-! ### leaves -/
section
variable {Ω : Wd} {Γ : Cfg} {T : Tab} {Z : Fr} {W : WX} {X : Cx} {k : Nat} {N : List Str} {sc : Scope} {x : Str} {pos : Pos}
theorem vis_of {sc : Scope} {x : Str} (h : vis sc x = true) : Vis sc x := by
  unfold vis at h
  unfold Vis
  split at h <;> first | (exact .inl (by assumption)) | (exact .inr (.inl (by assumption))) | (exact .inr (.inr (by assumption))) | cases h
theorem okn_1 {x : Str} (h : okn x = true) : (x == ("__debug__" : Str)) = false ∧ (x == ("__classdict__" : Str)) = false ∧ x ≠ "__name__" := by
  unfold okn at h
  simp only [Bool.and_eq_true, Bool.not_eq_true'] at h
  exact ⟨h.1.1, h.1.2, fun e => by rw [e] at h; simp at h⟩
theorem glo_of {x : Str} (g : Good Ω k N sc W X) (h : glo sc x = true) : Gl X x ∧ okn x = true := by
  unfold glo at h
  rw [Bool.and_eq_true] at h
  refine ⟨?_, h.2⟩
  have h1 := h.1
  unfold Gl Env.kindOf
  rw [g.sc]
  split at h1
  · assumption
  · cases h1
theorem s_var {i : Nat} (g : Good Ω k N sc W X) (h1 : N[i]? = some x) (h2 : vis sc x = true) (h3 : okn x = true) : PE X (.Name x pos) (tE Ω Z W fun s => R.pure (s.r[i]?.bind id) s) := by
  refine pe_by fun σ H Q ⟨s, G, as, ls, A, o⟩ => ⟨_, pe_var (i := i) (by rw [g.hN]; exact h1) (by rw [g.sc]; exact vis_of h2) (okn_1 h3).1 (okn_1 h3).2.1, ?_⟩
  obtain ⟨d, e, q⟩ := Out.pure A o
  have e2 : s.r[i]? = some (some d) := by
    cases r : s.r[i]? with
    | none => rw [r] at e; cases e
    | some u => rw [r] at e; exact congrArg some e
  obtain ⟨v, ev, rv⟩ := A.env i d e2
  exact ⟨v, ev, q v H G as ls A (Le.refl _ _ _) rv⟩
theorem s_frz {i : Nat} (g : Good Ω k N sc W X) (h1 : N[i]? = some x) (h2 : vis sc x = true) (h3 : okn x = true) : PE X (.Name x pos) (tE Ω Z W (evE Γ (.frz i))) := by
  refine pe_by fun σ H Q ⟨s, G, as, ls, A, o⟩ => ⟨_, pe_var (i := i) (by rw [g.hN]; exact h1) (by rw [g.sc]; exact vis_of h2) (okn_1 h3).1 (okn_1 h3).2.1, ?_⟩
  unfold evE at o
  split at o
  · rename_i k' e
    split at o
    · rename_i ps e1
      obtain ⟨v, ev, rv⟩ := A.env i _ e
      cases rv with
      | loc e2 =>
        rename_i a
        obtain ⟨ga, na, vs, hv, rp⟩ := A.lat k' ps a e1 e2
        obtain ⟨A1, le⟩ := A.frz e1 e2 hv
        have rl : RpD Ω (upd G a (.lst vs)) as ls (.ref a) (.pur (.lst ps)) := .pur (.lst upd_same (RpPs.mono le.g _ _ rp))
        refine ⟨_, ev, o _ H _ as ls (A1.env' (fun j d e => ?_) (by simpa using A1.slen)) le rl⟩
        have e : (s.r.set i (some (.pur (.lst ps))))[j]? = some (some d) := e
        by_cases hj : j = i
        · subst hj
          have hl := (List.getElem?_eq_some_iff.mp e).1
          rw [List.length_set] at hl
          rw [List.getElem?_set_self hl] at e
          cases e
          exact ⟨_, ev, rl⟩
        · rw [List.getElem?_set_ne (Ne.symm hj)] at e
          exact A1.env j d e
    · exact o.elim
  · rename_i p e
    obtain ⟨v, ev, rv⟩ := A.env i _ e
    exact ⟨v, ev, o.tell A rv⟩
  · exact o.elim
theorem s_cst {p : P} {c : Const} {j : Nat} (h : cst p c = true) : PE X (.Constant c j pos) (tE Ω Z W fun s => .ok (.pur p) s) := by
  refine pe_by fun σ H Q ⟨s, G, as, ls, A, o⟩ => ?_
  have q : ∀ v, RpP Ω G v p → Q v H := fun v r => o v H G as ls A (Le.refl _ _ _) (.pur r)
  unfold cst at h
  split at h
  · exact ⟨_, pe_non, q _ .non⟩
  · have e := beq_iff_eq.mp h
    subst e
    exact ⟨_, pe_bl, q _ (.bl _)⟩
  · have e := of_decide_eq_true h
    subst e
    exact ⟨_, pe_int, q _ (.int _)⟩
  · have e := of_decide_eq_true h
    subst e
    exact ⟨_, pe_str, q _ (.str _)⟩
  · cases h
theorem s_glb (F : Facts Ω Γ T k) (g : Good Ω k N sc W X) (h : glo sc x = true) : PE X (.Name x pos) (tE Ω Z W fun s => R.pure ((Γ.glb x).map D.pur) s) := by
  refine pe_by fun σ H Q ⟨s, G, as, ls, A, o⟩ => ?_
  obtain ⟨d, e, q⟩ := Out.pure A o
  cases ep : Γ.glb x with
  | none => rw [ep] at e; cases e
  | some p =>
    rw [ep] at e
    cases e
    obtain ⟨u, v, hm, rv, rp⟩ := F.gl x p ep
    obtain ⟨hg, hn⟩ := glo_of g h
    exact ⟨_, pe_glob hg (by rw [g.mg]; exact hm) rv (okn_1 hn).1, q v H G as ls A (Le.refl _ _ _) (.pur (RpP.mono (fun _ _ z => by cases z) _ _ rp))⟩
end
/-! ### one after another -/
section
variable {Ω : Wd} {Γ : Cfg} {T : Tab} {Z : Fr} {W : WX} {X : Cx} {k : Nat} {N : List Str} {sc : Scope} {pos : Pos} {s : S} {G H : Hp} {as ls : List Addr} {σ : St}
theorem Out.then {α α' β β' : Type} {rl : Hp → List Addr → List Addr → β → α → Prop} {rl' : Hp → List Addr → List Addr → β' → α' → Prop} {r : R α} {K : α → S → R α'} {Q : β' → Hp → Prop} {R : β → Hp → Prop}
    (o : Out Ω Z W rl' G as ls σ (r.bind K) Q)
    (fin : ∀ d s1 x H1 G1 as1 ls1, r = .ok d s1 → Abs Ω Z s1 G1 as1 ls1 σ H1 → Le G as ls G1 as1 ls1 → rl G1 as1 ls1 x d → Out Ω Z W rl' G1 as1 ls1 σ (K d s1) Q → R x H1) : Out Ω Z W rl G as ls σ r R := by
  have o1 := Out.bind (rl := rl) o
  cases r with
  | st => exact o1
  | ex x s' => exact o1
  | ok d s1 =>
    intro v H1 G1 as1 ls1 A1 le1 r1
    obtain ⟨d', s1', G1', as1', ls1', e, A1', le1', r1', o2⟩ := o1 v H1 G1 as1 ls1 A1 le1 r1
    cases e
    exact fin d s1 v H1 G1' as1' ls1' rfl A1' le1' r1' o2
theorem one {α' β' : Type} {rl' : Hp → List Addr → List Addr → β' → α' → Prop} {f : S → R D} {K : D → S → R α'} {Q : β' → Hp → Prop} {R : VK} (A : Abs Ω Z s G as ls σ H)
    (o : Out Ω Z W rl' G as ls σ ((f s).bind K) Q)
    (fin : ∀ d s1 x H1 G1 as1 ls1, Abs Ω Z s1 G1 as1 ls1 σ H1 → Le G as ls G1 as1 ls1 → RpD Ω G1 as1 ls1 x d → Out Ω Z W rl' G1 as1 ls1 σ (K d s1) Q → R x H1) : tE Ω Z W f σ H R :=
  ⟨s, G, as, ls, A, Out.then o fun d s1 x H1 G1 as1 ls1 _ => fin d s1 x H1 G1 as1 ls1⟩
theorem oneA {α' β' : Type} {rl' : Hp → List Addr → List Addr → β' → α' → Prop} {f : S → R (List D)} {K : List D → S → R α'} {Q : β' → Hp → Prop} {R : List V → Hp → Prop} (A : Abs Ω Z s G as ls σ H)
    (o : Out Ω Z W rl' G as ls σ ((f s).bind K) Q)
    (fin : ∀ d s1 x H1 G1 as1 ls1, Abs Ω Z s1 G1 as1 ls1 σ H1 → Le G as ls G1 as1 ls1 → RpDs Ω G1 as1 ls1 x d → Out Ω Z W rl' G1 as1 ls1 σ (K d s1) Q → R x H1) : tA Ω Z W f σ H R :=
  ⟨s, G, as, ls, A, Out.then o fun d s1 x H1 G1 as1 ls1 _ => fin d s1 x H1 G1 as1 ls1⟩
/-- a test: what comes is True or False -/
theorem oneT {α' β' : Type} {rl' : Hp → List Addr → List Addr → β' → α' → Prop} {f : S → R D} {K : D → S → R α'} {Q : β' → Hp → Prop} {R : Bool → Hp → Prop} (A : Abs Ω Z s G as ls σ H)
    (o : Out Ω Z W rl' G as ls σ ((f s).bind K) Q) (hb : ∀ d s', f s = .ok d s' → K d s' ≠ .st → ∃ b, d = .pur (.bl b))
    (fin : ∀ b s1 H1 G1 as1 ls1, f s = .ok (.pur (.bl b)) s1 → Abs Ω Z s1 G1 as1 ls1 σ H1 → Le G as ls G1 as1 ls1 → Out Ω Z W rl' G1 as1 ls1 σ (K (.pur (.bl b)) s1) Q → R b H1) : tT Ω Z W f σ H R := by
  refine ⟨s, G, as, ls, A, Out.then o fun d s1 x H1 G1 as1 ls1 e A1 le r o1 => ?_, fun d s' e => hb d s' e fun z => ?_⟩
  · have r : d = .pur (.bl x) := r
    subst r
    exact fin x s1 H1 G1 as1 ls1 e A1 le o1
  · rw [e] at o
    have o : Out Ω Z W rl' G as ls σ (K d s') Q := o
    rw [z] at o
    exact o
theorem line_eq : line = sizeLine := sizeLine_eq.symm

/-! ### displays -/
variable {xs : List Expr} {f : S → R (List D)}
theorem s_tup {j : Nat} (h : ∀ Z, PA X xs (tA Ω Z W f)) : PE X (.Tuple xs j pos) (tE Ω Z W fun s => (f s).bind fun ds s => match purs ds with
    | some ps => if ps.length ≤ line then .ok (.pur (.tup ps)) s else .st
    | none => .st) := by
  refine pe_by fun σ H Q ⟨s, G, as, ls, A, o⟩ => ⟨_, pe_tup (h Z), oneA A o fun ds s1 vs H1 G1 as1 ls1 A1 le r o1 => ?_⟩
  cases e : purs ds with
  | none => rw [e] at o1; exact o1.elim
  | some ps =>
    rw [e] at o1
    dsimp only at o1
    split at o1
    · rename_i hl
      have rp := r.purs e
      refine ⟨by rw [rp.length, ← line_eq]; exact hl, fun p hp => ?_⟩
      obtain ⟨A2, le2⟩ := A1.newG (o := .tup vs) hp
      exact o1 _ _ _ _ _ A2 le2 (.pur (.tup (SqT.of upd_same) (RpPs.mono le2.g _ _ rp)))
    · exact o1.elim
theorem s_lst (h : ∀ Z, PA X xs (tA Ω Z W f)) : PE X (.List xs pos) (tE Ω Z W fun s => (f s).bind fun ds s => match purs ds with
    | some ps => if ps.length ≤ line then .ok (.pur (.lst ps)) s else .st
    | none => .st) := by
  refine pe_by fun σ H Q ⟨s, G, as, ls, A, o⟩ => ⟨_, pe_lst (h Z), oneA A o fun ds s1 vs H1 G1 as1 ls1 A1 le r o1 => ?_⟩
  cases e : purs ds with
  | none => rw [e] at o1; exact o1.elim
  | some ps =>
    rw [e] at o1
    dsimp only at o1
    split at o1
    · rename_i hl
      have rp := r.purs e
      refine ⟨by rw [rp.length, ← line_eq]; exact hl, fun p hp => ?_⟩
      obtain ⟨A2, le2⟩ := A1.newG (o := .lst vs) hp
      exact o1 _ _ _ _ _ A2 le2 (.pur (.lst upd_same (RpPs.mono le2.g _ _ rp)))
    · exact o1.elim
theorem s_lstL (h : ∀ Z, PA X xs (tA Ω Z W f)) : PE X (.List xs pos) (tE Ω Z W fun s => (f s).bind fun ds s => match purs ds with
    | some ps => if ps.length ≤ line then .ok (.loc s.l.length) { s with l := s.l ++ [some ps] } else .st
    | none => .st) := by
  refine pe_by fun σ H Q ⟨s, G, as, ls, A, o⟩ => ⟨_, pe_lst (h Z), oneA A o fun ds s1 vs H1 G1 as1 ls1 A1 le r o1 => ?_⟩
  cases e : purs ds with
  | none => rw [e] at o1; exact o1.elim
  | some ps =>
    rw [e] at o1
    dsimp only at o1
    split at o1
    · rename_i hl
      have rp := r.purs e
      refine ⟨by rw [rp.length, ← line_eq]; exact hl, fun p hp => ?_⟩
      obtain ⟨A2, le2⟩ := A1.newL hp rp
      exact o1 _ _ _ _ _ A2 le2 (.loc (by rw [← A1.llen]; simp))
    · exact o1.elim
theorem s_lstC (h : ∀ Z, PA X xs (tA Ω Z W f)) : PE X (.List xs pos) (tE Ω Z W fun s => (f s).bind fun ds s => if noloc ds && decide (ds.length ≤ line) then .ok (.cel s.m.length) { s with m := s.m ++ [.lst ds] } else .st) := by
  refine pe_by fun σ H Q ⟨s, G, as, ls, A, o⟩ => ⟨_, pe_lst (h Z), oneA A o fun ds s1 vs H1 G1 as1 ls1 A1 le r o1 => ?_⟩
  split at o1
  · rename_i hl
    rw [Bool.and_eq_true, decide_eq_true_eq] at hl
    refine ⟨by rw [r.length, ← line_eq]; exact hl.2, fun p hp => ?_⟩
    obtain ⟨A2, le2⟩ := A1.newC (o := .lst vs) (c := .lst ds) hp fun H' e => ⟨vs, e, (r.mono (Same.refl _) ⟨[p], rfl⟩ (Pre.refl _)).anyl [] hl.1⟩
    exact o1 _ _ _ _ _ A2 le2 (.cel (by rw [← A1.sto.len]; simp))
  · exact o1.elim
end
end Ev
end

section
set_option Elab.async false
set_option linter.all false
set_option maxRecDepth 100000
set_option maxHeartbeats 4000000
/-! EvLng: ranges of any ints, the sum of a tuple. -/
namespace Ev
open PySem PySem.Spec L2
open PyProof.Rows hiding St
theorem turn_long {P : Program} {w : World} {K : PySem.W.Frag} {tg : Expr} (it : Addr) (lo : Int) (n : Nat) : Turn P w K tg (Itr lo n) [it] it (fun i h => IsLongIter h it (lo + (i : Nat) * 1) ((n : Int) - (i : Nat)) 1) where
  mem := by simp
  obj := fun i h st b hb => by
    have e : b = it := by simpa using hb
    subst e
    exact ⟨_, st, fun v z => by
      have z' : Data.fields _ = Data.cell v := z
      cases z'⟩
  keep := fun i h h' st k => k it (by simp) _ st
  item := by
    intro X hP hw hK hc i pins s σ H E I hf st hg
    subst hP hw hK
    obtain ⟨f0, f1, f2, f3, f4, f5⟩ := hf it (by simp)
    have W := Walks.longrange (prog := X.prog) (w := X.w) (I.ok.hd hc) it lo 1 n
    refine W.item i s _ _ hg st fun v h' tk hv st' kk => ?_
    obtain ⟨t, rfl⟩ := hv
    have I1 : Inv X pins σ H { s with heap := h', toks := tk } := I.turned (fun b o hb e => kk b o (by simpa using hb) e) f0 f1 f3 f4 f5
    refine ⟨_, rfl, go_of (s := { s with heap := h', toks := tk }) (n := "longrange_iterator") st' rfl rfl (by decide) ⟨.int (lo + i), H, I1, ⟨t, ?_⟩, ⟨rfl, rfl⟩, st', fun b hb => (hf b hb).1⟩⟩
    rw [Int.mul_one]
  done := by
    intro X hP hw hK hc i pins s σ H E I hf st hg
    subst hP hw hK
    obtain ⟨f0, f1, f2, f3, f4, f5⟩ := hf it (by simp)
    exact wpAny_pyNext_long_end (I.ok.hd hc) st (by have : n ≤ i := hg; omega) fun h' eb => ⟨rfl, I.turned (t' := s.toks) (fun b o hb e => eb b o hb e) f0 f1 f3 f4 f5⟩
  self := fun _ _ _ _ _ st h => wpAny_pyIter_longiter st h
section
variable {X : Cx} {tg : Expr}
theorem range_itL {pins : List (Addr × Obj)} {σ : St} {H : Hp} {s : Shared} {R : It → Hp → Prop} {E : Value → Shared → Prop} {lo hi : Int} {t u v : Tok} {tk : Nat} (I : Inv X pins σ H s)
    (q : R (Itr lo (hi - lo).toNat) H) : wpAny (model X.prog X.w) X.A (pyIter (.ref s.heap.objs.size)) (PIE X pins σ tg R) E { s with heap := s.heap.push { cls := .type "range", data := .fields #[.int lo t, .int hi u, .int 1 v] }, toks := tk } := by
  have I1 : Inv X pins σ H { s with heap := s.heap.push { cls := .type "range", data := .fields #[.int lo t, .int hi u, .int 1 v] }, toks := tk } := I.kept fun b o e => Heap.get?_push_of_some _ e
  have e1 : lo + ((0 : Nat) : Int) * 1 = lo := by simp
  have e2 : (((hi - lo).toNat : Nat) : Int) - ((0 : Nat) : Int) = Builtin.Range.rangeSize lo hi 1 := by rw [rangeSize_one]; split <;> omega
  cases hs : Builtin.Range.small lo hi 1 with
  | true =>
    refine wpAny_pyIter_range (IsRange.new ..) hs ?_
    refine ⟨(s.heap.push { cls := .type "range", data := .fields #[.int lo t, .int hi u, .int 1 v] }).objs.size, [(s.heap.push { cls := .type "range", data := .fields #[.int lo t, .int hi u, .int 1 v] }).objs.size], _, _, H, rfl,
      I1.kept (t' := tk) fun b o e => Heap.get?_push_of_some _ e, turn_range _ lo (hi - lo).toNat, ?_, fun b hb => ?_, q⟩
    · show IsRangeIter _ _ (lo + ((0 : Nat) : Int) * 1) ((((hi - lo).toNat : Nat) : Int) - ((0 : Nat) : Int)) 1
      rw [e1, e2]
      exact Heap.get?_push_size _ rfl
    · have e : b = (s.heap.push { cls := .type "range", data := .fields #[.int lo t, .int hi u, .int 1 v] }).objs.size := by simpa using hb
      subst e
      exact I1.fpOk (Nat.le_refl _) (I1.hok.fresh (Nat.le_refl _))
  | false =>
    refine wpAny_pyIter_longrange (IsRange.new ..) hs ?_
    refine ⟨(s.heap.push { cls := .type "range", data := .fields #[.int lo t, .int hi u, .int 1 v] }).objs.size, [(s.heap.push { cls := .type "range", data := .fields #[.int lo t, .int hi u, .int 1 v] }).objs.size], _, _, H, rfl,
      I1.kept (t' := tk) fun b o e => Heap.get?_push_of_some _ e, turn_long _ lo (hi - lo).toNat, ?_, fun b hb => ?_, q⟩
    · show IsLongIter _ _ (lo + ((0 : Nat) : Int) * 1) ((((hi - lo).toNat : Nat) : Int) - ((0 : Nat) : Int)) 1
      rw [e1, e2]
      exact Heap.get?_push_size _ rfl
    · have e : b = (s.heap.push { cls := .type "range", data := .fields #[.int lo t, .int hi u, .int 1 v] }).objs.size := by simpa using hb
      subst e
      exact I1.fpOk (Nat.le_refl _) (I1.hok.fresh (Nat.le_refl _))
def iRng2L (ta : TA) : TI := fun σ H R => ta σ H fun vs H1 => ∃ i j : Int, vs = [.int i, .int j] ∧ R (Itr i (j - i).toNat) H1
theorem pi_range2L {a b : Expr} {ta : TA} {p pos : Pos} (hg : Gl X "range") (hm : X.mg "range" = none) (ha : PA X [a, b] ta) (hs : starEach [a, b] X.env = [(false, eval a X.env), (false, eval b X.env)] := by rfl) (hs2 : starEach [b] X.env = [(false, eval b X.env)] := by rfl) :
    PI X tg (.Call (.Name "range" p) [a, b] [] pos) (iRng2L ta) := by
  refine ⟨fun pins s σ H R I h => ?_⟩
  refine Call_ (ld_blt I hg hm boot_range (PyProof.Rows.callWith_type1 (thn (ha.run pos pins s σ H _ I h) fun us s1 ⟨vs, H1, I1, r1, q1⟩ => ?_) (by rw [hs, hs2]) (by rw [hs2]; rfl)))
  obtain ⟨i, j, e, q⟩ := q1
  subst e
  cases r1 with
  | cons r rr =>
    cases rr with
    | cons r' rr =>
      cases rr
      obtain ⟨t, rfl⟩ := r
      obtain ⟨t', rfl⟩ := r'
      exact call_range_2 (range_itL I1 q)
/-! ### sum((..)) -/
theorem iter_intTup {prog : Program} {w : World} {A : Around} {E : Value → Shared → Prop} {s : Shared} {l : Addr} {items : Array Value} {Q : Value → Shared → Prop} (hl : s.heap.IsTuple l items)
    (h : ∀ s₂ : Shared, s₂ = { s with heap := s.heap.push { cls := .type "tuple_iterator", data := .fields #[.ref l, .int 0 0] } } →
      (s₂.heap.IsTupleIter s.heap.objs.size l 0 ∧ s₂.heap.IsTuple l items) → (∀ b ∈ [s.heap.objs.size, l], b < s₂.heap.objs.size) → l ≠ s.heap.objs.size → Q (.ref s.heap.objs.size) s₂) :
    wpAny (model prog w) A (pyIter (.ref l)) Q E s := by
  have hlt : l < s.heap.objs.size := by obtain ⟨_, e, _⟩ := hl; exact Heap.lt_size e
  refine wpAny_pyIter_tuple hl (h _ rfl ⟨⟨_, Heap.get?_push_size _ rfl, rfl, rfl⟩, hl.push _⟩ (fun b hb => ?_) (Nat.ne_of_lt hlt))
  show b < (s.heap.push _).objs.size
  rw [Heap.size_push]
  rcases List.mem_cons.mp hb with rfl | hb
  · exact Nat.lt_succ_self _
  · rcases List.mem_cons.mp hb with rfl | hb
    · exact Nat.lt_succ_of_lt hlt
    · cases hb
theorem sum_tupG {prog : Program} {w : World} {A : Around} {E : Value → Shared → Prop} {s : Shared} {l : Addr} {xs : Array (Int × Tok)} {Q : Value → Shared → Prop} (hh : A.handled = none) (hl : s.heap.IsTuple l (intItems xs))
    (h : ∀ h' tk t', (∀ b o, s.heap.get? b = some o → h'.get? b = some o) → Q (.int (preSum (numAt xs) xs.size) t') { s with heap := h', toks := tk }) :
    wpAny (model prog w) A (call (.builtin "sum") [.ref l]) Q E s := by
  refine call_sum_walkG (iter_intTup hl fun s₂ e st hfp hlI => ?_)
  subst e
  refine ⟨_, _, _, _, _, _, numAt xs, rfl, Walks.tuple (A := A.in1) hh _ l hlI (intItems xs), st, hfp, (fun _ _ => intItems_at), fun h' tk t' hk => ?_⟩
  have old : ∀ b o, s.heap.get? b = some o → h'.get? b = some o := fun b o e => by
    refine hk b o (fun hm => ?_) (Heap.get?_push_of_some _ e)
    rcases List.mem_cons.mp hm with e1 | hm
    · exact absurd (e1 ▸ Heap.lt_size e) (Nat.lt_irrefl _)
    · cases hm
  have := h h' tk t' old
  simpa [intItems] using this
def rSumT (K : PySem.W.Frag) : List V → Hp → VK → Prop := fun vs H Q => ∃ (a : Addr) (ns : List Int), vs = [V.ref a] ∧ SqT K H a (ns.map V.int) ∧ Q (.int ns.sum) H
theorem cr_sumT (hc : X.calm = true) : CallR X (.builtin "sum") (rSumT X.K) := by
  intro pins s σ H vs us Q I r h
  obtain ⟨a, ns, rfl, hs, q⟩ := h
  obtain ⟨its, rv, hl, _⟩ := I.tuple hs
  rw [Vals.ref1 r]
  have hi := rv.ints
  obtain ⟨xs, e⟩ := hi.allInts.items
  have hn : numsOf (intItems xs).toList = ns := by rw [← e]; exact hi.numsOf
  rw [nums_intItems] at hn
  have hl : s.heap.IsTuple a its.toArray := hl
  rw [e] at hl
  refine sum_tupG (I.ok.hd hc) hl fun h' tk t' hk => ⟨.int _, H, I.kept hk, ⟨_, rfl⟩, ?_⟩
  rw [preSum_eq, List.take_of_length_le (by simp), hn]
  exact q
end
end Ev
end

section
set_option Elab.async false
set_option linter.all false
set_option maxRecDepth 100000
set_option maxHeartbeats 4000000
/-! EvOps: the evaluator is sound: operators by values. -/
namespace Ev
open PySem PySem.Spec L2
open PyProof.Rows hiding St

section
variable {Ω : Wd} {Z : Fr} {W : WX} {X : Cx} {k : Nat} {N : List Str} {sc : Scope} {s : S} {G H : Hp} {as ls : List Addr} {σ : St} {x y : V} {Q : VK}
theorem RpD.lst {v : V} {ps : List P} (h : RpD Ω G as ls v (.pur (.lst ps))) : ∃ a xs, v = .ref a ∧ G a = some (.lst xs) ∧ RpPs Ω G xs ps := by
  cases h with | pur h => cases h with | lst h1 h2 => exact ⟨_, _, rfl, h1, h2⟩
theorem RpD.tup {v : V} {ps : List P} (h : RpD Ω G as ls v (.pur (.tup ps))) : ∃ a xs, v = .ref a ∧ SqT Ω.K G a xs ∧ RpPs Ω G xs ps := by
  cases h with | pur h => cases h with | tup h1 h2 => exact ⟨_, _, rfl, h1, h2⟩
theorem RpD.sq {v : V} {ps : List P} (h : RpD Ω G as ls v (.pur (.sq ps))) : ∃ a xs, v = .ref a ∧ SqL Ω.K G a xs ∧ RpPs Ω G xs ps := by
  cases h with | pur h => cases h with | sq h1 h2 => exact ⟨_, _, rfl, h1, h2⟩
theorem RpD.icel {v : V} {k : Nat} (h : RpD Ω G as ls v (.cel k)) : ∃ a, v = .ref a ∧ as[k]? = some a := by
  cases h with | cel h => exact ⟨_, rfl, h⟩
theorem RpD.iloc {v : V} {k : Nat} (h : RpD Ω G as ls v (.loc k)) : ∃ a, v = .ref a ∧ ls[k]? = some a := by
  cases h with | loc h => exact ⟨_, rfl, h⟩
theorem RpD.ip {v : V} {p : P} (h : RpD Ω G as ls v (.pur p)) : RpP Ω G v p := by
  cases h with | pur h => exact h
theorem flat_of {p : P} {v : V} (r : RpP Ω G v p) (h : flatP p = true) : flatV v = true := by cases r <;> first | rfl | cases h
theorem flats_of : ∀ {ps : List P} {vs : List V}, RpPs Ω G vs ps → ps.all flatP = true → vs.all flatV = true
  | [], _, h, _ => by cases h; rfl
  | p :: ps, _, h, e => by
    cases h with | cons h1 h2 =>
      rw [List.all_cons, Bool.and_eq_true] at e ⊢
      exact ⟨flat_of h1 e.1, flats_of h2 e.2⟩
theorem eqV_of {p q : P} {v u : V} (r : RpP Ω G v p) (r' : RpP Ω G u q) (h : flatP p = true) (h' : flatP q = true) : eqV v u = eqP p q := by
  cases r <;> first
    | (cases h; done)
    | (cases r' <;> first | (cases h'; done) | (simp [eqV, eqP]))
theorem inV_of {p : P} {v : V} (r : RpP Ω G v p) (h : flatP p = true) : ∀ {ps : List P} {vs : List V}, RpPs Ω G vs ps → ps.all flatP = true → inV v vs = inP p ps
  | [], _, hh, _ => by cases hh; rfl
  | q :: ps, _, hh, e => by
    cases hh with | cons h1 h2 =>
      rw [List.all_cons, Bool.and_eq_true] at e
      have ih := inV_of r h h2 e.2
      unfold inV inP at ih ⊢
      rw [List.any_cons, List.any_cons, eqV_of h1 r e.1 h, ih]
theorem p64_eq : p64 = 2 ^ 64 := by decide
theorem mul_of {i j : Int} (h : mulOK i j = true) : CMul i j ∨ CMulW i j := by
  unfold mulOK at h
  simp only [Bool.or_eq_true, Bool.and_eq_true, decide_eq_true_eq] at h
  rw [p64_eq] at h
  rcases h with (h | h) | h
  · exact .inl (.inl h)
  · exact .inl (.inr h)
  · right
    unfold CMulW
    omega
theorem op_mul_str : OpR X (binaryOp .Mult) (fun x y H Q => ∃ i j, x = .str i ∧ y = .int j ∧ 0 ≤ j ∧ j ≤ 1000 ∧ i.length ≤ 1000 ∧ Q (.str (Txt.mul i j)) H) := by
  intro pins s σ H x y v u Q I rx ry h
  obtain ⟨i, j, rfl, rfl, h1, h2, h3, q⟩ := h
  obtain ⟨t, rfl⟩ := rx
  obtain ⟨t', rfl⟩ := ry
  have hb : i.length * j.toNat ≤ 1000 * 1000 := Nat.mul_le_mul h3 (by omega)
  refine PySem.SB.mul ⟨?_, fun h4 _ => ?_, fun h4 _ => ?_⟩ (fun t' tk => ⟨.str (Txt.mul i j), H, I.tok _, ⟨_, rfl⟩, q⟩)
  · rw [decide_eq_false (by omega), decide_eq_false (by omega)]
    rfl
  · intro h5
    have h6 : (2 ^ 63 - 1) / j ≥ (2 ^ 63 - 1) / 1000 := by
      refine Int.le_ediv_of_mul_le (by omega) ?_
      have : ((2 ^ 63 - 1) / 1000 : Int) * j ≤ ((2 ^ 63 - 1) / 1000) * 1000 := Int.mul_le_mul_of_nonneg_left h2 (by decide)
      have h7 : ((2 ^ 63 - 1) / 1000 : Int) * 1000 ≤ 2 ^ 63 - 1 := by decide
      omega
    have h8 : ((2 ^ 63 - 1) / 1000 : Int) ≥ 1000 := by decide
    omega
  · unfold PySem.Builtin.Str.tooLong
    have : sizeLine = 16777216 := sizeLine_eq
    simp
    omega
abbrev Told (Ω : Wd) (Z : Fr) (s : S) (G : Hp) (as ls : List Addr) (σ : St) (d : D) (Q : VK) : Prop := ∀ v H' G' as' ls', Abs Ω Z s G' as' ls' σ H' → Le G as ls G' as' ls' → RpD Ω G' as' ls' v d → Q v H'
theorem Told.flat {p : P} {v : V} (q : Told Ω Z s G as ls σ (.pur p) Q) (A : Abs Ω Z s G as ls σ H) (r : RpP Ω G v p) : Q v H := q v H G as ls A (Le.refl _ _ _) (.pur r)
theorem Told.lst {ps : List P} {vs : List V} (q : Told Ω Z s G as ls σ (.pur (.lst ps)) Q) (A : Abs Ω Z s G as ls σ H) (r : RpPs Ω G vs ps) {a : Addr} (ha : H a = none) : Q (.ref a) (upd H a (.lst vs)) :=
  let ⟨A2, le⟩ := A.newG (o := .lst vs) ha
  q _ _ _ _ _ A2 le (.pur (.lst upd_same (RpPs.mono le.g _ _ r)))
theorem Told.tup {ps : List P} {vs : List V} (q : Told Ω Z s G as ls σ (.pur (.tup ps)) Q) (A : Abs Ω Z s G as ls σ H) (r : RpPs Ω G vs ps) {a : Addr} (ha : H a = none) : Q (.ref a) (upd H a (.tup vs)) :=
  let ⟨A2, le⟩ := A.newG (o := .tup vs) ha
  q _ _ _ _ _ A2 le (.pur (.tup (SqT.of upd_same) (RpPs.mono le.g _ _ r)))
theorem binP_ok {o : Operator} {p q r : P} (g : Good Ω k N sc W X) (A : Abs Ω Z s G as ls σ H) (r1 : RpP Ω G x p) (r2 : RpP Ω G y q) (h : binP o p q = some r) (t : Told Ω Z s G as ls σ (.pur r) Q) : rU X (binaryOp o) x y H Q := by
  unfold binP at h
  split at h
  · cases r1; cases r2; cases h
    exact ⟨_, op_add, _, _, rfl, rfl, t.flat A (.int _)⟩
  · cases r1; cases r2; cases h
    exact ⟨_, op_sub, _, _, rfl, rfl, t.flat A (.int _)⟩
  · split at h
    · rename_i hm
      cases r1; cases r2; cases h
      rcases mul_of hm with c | c
      · exact ⟨_, op_mul, _, _, rfl, rfl, c, t.flat A (.int _)⟩
      · exact ⟨_, op_mulW, _, _, rfl, rfl, c, t.flat A (.int _)⟩
    · cases h
  · split at h
    · rename_i hm
      cases r1; cases r2; cases h
      rw [Bool.and_eq_true, decide_eq_true_eq, decide_eq_true_eq, p64_eq] at hm
      exact ⟨_, op_fdivW, _, _, rfl, rfl, wide_div (b := 64) hm.1 (by have := hm.1; have := hm.2; omega) (by decide) (by decide), t.flat A (.int _)⟩
    · cases h
  · split at h
    · rename_i hm
      cases r1; cases r2; cases h
      exact ⟨_, op_mod, _, _, rfl, rfl, hm, t.flat A (.int _)⟩
    · cases h
  · split at h
    · rename_i hm
      cases r1; cases r2; cases h
      simp only [Bool.and_eq_true, decide_eq_true_eq, p64_eq] at hm
      obtain ⟨⟨⟨h1, h2⟩, h3⟩, h4⟩ := hm
      exact ⟨_, op_pow, _, _, rfl, rfl, ⟨h1, by omega, by omega⟩, t.flat A (.int _)⟩
    · cases h
  · split at h
    · rename_i hm
      cases r1; cases r2; cases h
      exact ⟨_, op_add_str, _, _, rfl, rfl, by rw [← line_eq]; exact hm, t.flat A (.str _)⟩
    · cases h
  · split at h
    · rename_i hm
      cases h
      cases r1 with | lst e1 q1 => cases r2 with | lst e2 q2 =>
        refine ⟨_, op_cat, _, _, _, _, rfl, rfl, A.sto.sub _ _ e1, A.sto.sub _ _ e2, by rw [q1.length, q2.length, ← line_eq]; exact hm, fun p hp => t.lst A (q1.append q2) hp⟩
    · cases h
  · split at h
    · rename_i hm
      cases h
      cases r1 with | tup e1 q1 => cases r2 with | tup e2 q2 =>
        rename_i a xs b ys
        refine ⟨_, op_catA, a, b, xs, ys, rfl, rfl, by rw [g.K]; exact sqT_mono A.sto.sub e1, by rw [g.K]; exact sqT_mono A.sto.sub e2, by rw [q1.length, q2.length, ← line_eq]; exact hm, fun z => ?_, fun _ z => ?_, fun _ _ p hp => t.tup A (q1.append q2) hp⟩
        · subst z
          cases q1
          exact t.flat A (.tup e2 q2)
        · subst z
          cases q2
          refine t.flat A ?_
          rw [List.append_nil]
          exact .tup e1 q1
    · cases h
  · split at h
    · rename_i hm
      cases h
      simp only [Bool.and_eq_true, decide_eq_true_eq] at hm
      obtain ⟨⟨h1, h2⟩, h3⟩ := hm
      obtain ⟨a, xs, rfl, e1, q1⟩ := RpD.lst (as := as) (ls := ls) (.pur r1)
      cases r2
      refine ⟨_, op_rep, _, _, _, rfl, rfl, A.sto.sub _ _ e1, by omega, by omega, by rw [q1.length, ← line_eq]; exact h3, fun p hp => t.lst A (q1.rep _) hp⟩
    · cases h
  · split at h
    · rename_i hm
      cases h
      simp only [Bool.and_eq_true, decide_eq_true_eq, Bool.not_eq_true'] at hm
      obtain ⟨⟨⟨h0, h1⟩, h2⟩, h3⟩ := hm
      cases r1 with | tup e1 q1 =>
        rename_i xs _ _ _
        cases r2
        refine ⟨_, op_repT, _, _, _, rfl, rfl, by rw [g.K]; exact sqT_mono A.sto.sub e1, fun z => ?_, h1, h2, by rw [q1.length]; exact h3, fun p hp => t.tup A (q1.rep _) hp⟩
        subst z
        cases q1
        cases h0
    · cases h
  · split at h
    · rename_i hm
      cases r1; cases r2; cases h
      simp only [Bool.and_eq_true, decide_eq_true_eq] at hm
      exact ⟨_, op_mul_str, _, _, rfl, rfl, hm.1.1, hm.1.2, hm.2, t.flat A (.str _)⟩
    · cases h
  · cases h
theorem binD_ok {o : Operator} {d e : D} {r : P} (g : Good Ω k N sc W X) (A : Abs Ω Z s G as ls σ H) (r1 : RpD Ω G as ls x d) (r2 : RpD Ω G as ls y e) (h : binD s o d e = some r) (t : Told Ω Z s G as ls σ (.pur r) Q) : rU X (binaryOp o) x y H Q := by
  unfold binD at h
  split at h
  · cases r1 with | pur r1 => cases r2 with | pur r2 => exact binP_ok g A r1 r2 h t
  · split at h
    · rename_i ds em
      cases ep : purs ds with
      | none => rw [ep] at h; cases h
      | some ps =>
        rw [ep] at h
        simp only [Option.bind_some] at h
        split at h
        · rename_i hm
          cases h
          cases r1 with | cel ea => cases r2 with | pur r2 => cases r2 with | lst e2 q2 =>
            obtain ⟨_, vs, hv, rv⟩ := A.sto.cel _ _ _ em ea
            have q1 : RpPs Ω G vs ps := rv.purs ep
            exact ⟨_, op_cat, _, _, _, _, rfl, rfl, hv, A.sto.sub _ _ e2, by rw [q1.length, q2.length, ← line_eq]; exact hm, fun p hp => t.lst A (q1.append q2) hp⟩
        · cases h
    · cases h
  · cases h
theorem cEq_ok {p q : P} {b : Bool} (g : Good Ω k N sc W X) (A : Abs Ω Z s G as ls σ H) (r1 : RpP Ω G x p) (r2 : RpP Ω G y q) (h : cEq p q = some b) (t : Q (.bl b) H) : rU X (compareOp .Eq) x y H Q := by
  unfold cEq at h
  split at h
  · cases r1; cases r2; cases h
    exact ⟨_, op_eq, rfl, by rw [dec_str]; exact t⟩
  · split at h
    · rename_i hm
      cases h
      rw [Bool.and_eq_true] at hm
      have l1 : lay p = true := by have := hm.1; unfold eqOK at this; exact (Bool.and_eq_true_iff.mp this).1
      have l2 : lay q = true := by have := hm.2; unfold eqOK at this; exact (Bool.and_eq_true_iff.mp this).1
      refine ⟨_, op_eqD g.room.units, toPy p, toPy q, by rw [g.K]; exact dp_toPy A.sto.sub _ _ r1 l1, by rw [g.K]; exact dp_toPy A.sto.sub _ _ r2 l2, shaped_toPy hm.1, shaped_toPy hm.2, ?_⟩
      rw [eqv_toPy p q l1 l2]
      exact t
    · cases h
theorem cNe_ok {p q : P} {b : Bool} (g : Good Ω k N sc W X) (A : Abs Ω Z s G as ls σ H) (r1 : RpP Ω G x p) (r2 : RpP Ω G y q) (h : cEq p q = some b) (t : Q (.bl (!b)) H) : rU X (compareOp .NotEq) x y H Q := by
  unfold cEq at h
  split at h
  · cases r1; cases r2; cases h
    exact ⟨_, op_ne, rfl, by rw [dec_str]; exact t⟩
  · split at h
    · rename_i hm
      cases h
      rw [Bool.and_eq_true] at hm
      have l1 : lay p = true := by have := hm.1; unfold eqOK at this; exact (Bool.and_eq_true_iff.mp this).1
      have l2 : lay q = true := by have := hm.2; unfold eqOK at this; exact (Bool.and_eq_true_iff.mp this).1
      refine ⟨_, op_neD g.room.units, toPy p, toPy q, by rw [g.K]; exact dp_toPy A.sto.sub _ _ r1 l1, by rw [g.K]; exact dp_toPy A.sto.sub _ _ r2 l2, shaped_toPy hm.1, shaped_toPy hm.2, ?_⟩
      rw [eqv_toPy p q l1 l2]
      exact t
    · cases h
theorem cmpP_ok {o : CmpOp} {p q : P} {b : Bool} (g : Good Ω k N sc W X) (A : Abs Ω Z s G as ls σ H) (r1 : RpP Ω G x p) (r2 : RpP Ω G y q) (h : cmpP o p q = some b) (t : Q (.bl b) H) : rU X (compareOp o) x y H Q := by
  unfold cmpP at h
  split at h
  · exact cEq_ok g A r1 r2 h t
  · cases e : cEq p q with
    | none => rw [e] at h; cases h
    | some b' =>
      rw [e] at h
      cases h
      exact cNe_ok g A r1 r2 e t
  · cases r1; cases r2; cases h
    exact ⟨_, op_lt, _, _, rfl, rfl, t⟩
  · cases r1; cases r2; cases h
    exact ⟨_, op_le, _, _, rfl, rfl, t⟩
  · cases r1; cases r2; cases h
    exact ⟨_, op_gt, _, _, rfl, rfl, t⟩
  · cases r1; cases r2; cases h
    exact ⟨_, op_ge, _, _, rfl, rfl, t⟩
  · split at h
    · rename_i hm
      cases h
      rw [Bool.and_eq_true] at hm
      cases r2 with | tup e2 q2 =>
        refine ⟨_, op_in_seq, _, _, rfl, .inr (by rw [g.K]; exact sqT_mono A.sto.sub e2), flat_of r1 hm.1, flats_of q2 hm.2, ?_⟩
        show Q (.bl (inV _ _)) H
        rw [inV_of r1 hm.1 q2 hm.2]
        exact t
    · cases h
  · split at h
    · rename_i hm
      cases h
      rw [Bool.and_eq_true] at hm
      cases r2 with | lst e2 q2 =>
        refine ⟨_, op_in_seq, _, _, rfl, .inl (SqL.of (A.sto.sub _ _ e2)), flat_of r1 hm.1, flats_of q2 hm.2, ?_⟩
        show Q (.bl (inV _ _)) H
        rw [inV_of r1 hm.1 q2 hm.2]
        exact t
    · cases h
  · split at h
    · rename_i hm
      cases h
      rw [Bool.and_eq_true] at hm
      cases r2 with | tup e2 q2 =>
        refine ⟨_, op_notIn_seq, _, _, rfl, .inr (by rw [g.K]; exact sqT_mono A.sto.sub e2), flat_of r1 hm.1, flats_of q2 hm.2, ?_⟩
        show Q (.bl (!inV _ _)) H
        rw [inV_of r1 hm.1 q2 hm.2]
        exact t
    · cases h
  · split at h
    · rename_i hm
      cases h
      rw [Bool.and_eq_true] at hm
      cases r2 with | lst e2 q2 =>
        refine ⟨_, op_notIn_seq, _, _, rfl, .inl (SqL.of (A.sto.sub _ _ e2)), flat_of r1 hm.1, flats_of q2 hm.2, ?_⟩
        show Q (.bl (!inV _ _)) H
        rw [inV_of r1 hm.1 q2 hm.2]
        exact t
    · cases h
  · cases h
theorem cmpD_ok {o : CmpOp} {d e : D} {b : Bool} (g : Good Ω k N sc W X) (A : Abs Ω Z s G as ls σ H) (r1 : RpD Ω G as ls x d) (r2 : RpD Ω G as ls y e) (h : cmpD o d e = some b) (t : Q (.bl b) H) : rU X (compareOp o) x y H Q := by
  have rest : ∀ o, (match d, e with | .pur p, .pur q => cmpP o p q | _, _ => none) = some b → rU X (compareOp o) x y H Q := fun o h => by
    split at h
    · exact cmpP_ok g A r1.ip r2.ip h t
    · cases h
  cases o with
  | Is =>
    have h : (if isNon e = true then some (isNon d) else none) = some b := h
    by_cases hn : isNon e = true
    · rw [if_pos hn] at h
      have h := Option.some.inj h
      subst h
      rw [r2.isnon] at hn
      refine ⟨_, op_isN, of_decide_eq_true hn, ?_⟩
      rw [r1.isnon] at t
      exact t
    · rw [if_neg hn] at h
      cases h
  | IsNot =>
    have h : (if isNon e = true then some (!isNon d) else none) = some b := h
    by_cases hn : isNon e = true
    · rw [if_pos hn] at h
      have h := Option.some.inj h
      subst h
      rw [r2.isnon] at hn
      refine ⟨_, op_notN, of_decide_eq_true hn, ?_⟩
      rw [r1.isnon] at t
      exact t
    · rw [if_neg hn] at h
      cases h
  | _ => exact rest _ h
theorem atP_of {α : Type} {xs : List α} {i : Int} {v : α} (h : atP xs i = some v) : ∃ j, ixN xs.length i = some j ∧ xs[j]? = some v := by
  unfold atP at h
  cases e : ixOf xs.length i with
  | none => rw [e] at h; cases h
  | some j => rw [e] at h; exact ⟨j, e, h⟩
theorem atI_of {α β : Type} {xs : List α} {ys : List β} {i : Int} {v : α} {w : β} (hl : ys.length = xs.length) {j : Nat} (h : ixN xs.length i = some j) (e : ys[j]? = some w) : atI ys i = some w := by
  unfold atI
  rw [hl, h]
  exact e
theorem idxD_ok {d e r : D} (g : Good Ω k N sc W X) (A : Abs Ω Z s G as ls σ H) (r1 : RpD Ω G as ls x d) (r2 : RpD Ω G as ls y e) (h : idxD s d e = some r) (t : Told Ω Z s G as ls σ r Q) : rUI X x y H Q := by
  unfold idxD at h
  split at h
  · rename_i ps i
    obtain ⟨a, xs, rfl, e1, q1⟩ := r1.lst
    obtain rfl := r2.int
    cases ea : atP ps i with
    | none => rw [ea] at h; cases h
    | some p =>
      rw [ea] at h
      cases h
      obtain ⟨j, h1, h2⟩ := atP_of ea
      obtain ⟨v, h3, rv⟩ := q1.get h2
      exact ⟨_, ix_list, a, xs, i, v, rfl, rfl, SqL.of (A.sto.sub _ _ e1), atI_of (v := p) q1.length h1 h3, t.flat A rv⟩
  · rename_i ps i
    obtain ⟨a, xs, rfl, e1, q1⟩ := r1.tup
    obtain rfl := r2.int
    cases ea : atP ps i with
    | none => rw [ea] at h; cases h
    | some p =>
      rw [ea] at h
      cases h
      obtain ⟨j, h1, h2⟩ := atP_of ea
      obtain ⟨v, h3, rv⟩ := q1.get h2
      exact ⟨_, ix_tup, a, xs, i, v, rfl, rfl, by rw [g.K]; exact sqT_mono A.sto.sub e1, atI_of (v := p) q1.length h1 h3, t.flat A rv⟩
  · split at h
    · rename_i ds em
      obtain ⟨a, rfl, ea⟩ := r1.icel
      obtain rfl := r2.int
      obtain ⟨_, vs, hv, rv⟩ := A.sto.cel _ _ _ em ea
      obtain ⟨j, h1, h2⟩ := atP_of h
      obtain ⟨v, h3, rd⟩ := rv.get h2
      refine ⟨_, ix_list, _, vs, _, v, rfl, rfl, SqL.of hv, atI_of (v := r) rv.length h1 h3, t v H G as ls A (Le.refl _ _ _) ?_⟩
      exact rd.mono (Same.refl _) (Pre.refl _) ⟨ls, by simp⟩
    · cases h
  · split at h
    · rename_i ps em
      obtain ⟨a, rfl, ea⟩ := r1.iloc
      obtain rfl := r2.int
      obtain ⟨_, _, vs, hv, rv⟩ := A.lat _ _ _ em ea
      cases ea' : atP ps _ with
      | none => rw [ea'] at h; cases h
      | some p =>
        rw [ea'] at h
        cases h
        obtain ⟨j, h1, h2⟩ := atP_of ea'
        obtain ⟨v, h3, rd⟩ := rv.get h2
        exact ⟨_, ix_list, _, vs, _, v, rfl, rfl, SqL.of hv, atI_of (v := p) rv.length h1 h3, t.flat A rd⟩
    · cases h
  · cases h
theorem cut_of {ps : List P} {vs : List V} (r : RpPs Ω G vs ps) (lo hi : Option Int) : RpPs Ω G (cutV vs lo hi) (cutP ps lo hi) := by
  unfold cutV cutP
  rw [r.length]
  exact (r.drop _).take _
theorem slcP_ok {p r : P} {lo hi : Option Int} (g : Good Ω k N sc W X) (A : Abs Ω Z s G as ls σ H) (r1 : RpP Ω G x p) (h : slcP p lo hi = some r) (t : Told Ω Z s G as ls σ (.pur r) Q) : rUS X x lo hi H Q := by
  unfold slcP at h
  split at h
  · cases h
    cases r1 with | lst e1 q1 =>
      exact ⟨_, sl_list, _, _, rfl, SqL.of (A.sto.sub _ _ e1), fun p hp => t.lst A (cut_of q1 lo hi) hp⟩
  · cases h
    cases r1 with | tup e1 q1 =>
      rename_i ps a xs
      refine ⟨_, sl_tupA, _, _, rfl, by rw [g.K]; exact sqT_mono A.sto.sub e1, fun z => ?_, fun _ p hp => t.tup A (cut_of q1 lo hi) hp⟩
      refine t.flat A ?_
      have e : cutP ps lo hi = ps := by
        have z1 : sIx ps.length 0 lo = 0 := by rw [← q1.length]; exact z.1
        have z2 : sIx ps.length ps.length hi = ps.length := by rw [← q1.length]; exact z.2
        unfold cutP
        rw [z1, z2]
        simp
      rw [e]
      exact .tup e1 q1
  · cases h
theorem ints_of : ∀ {ps : List P} {vs : List V} {ns : List Int}, RpPs Ω G vs ps → intsP ps = some ns → vs = ns.map V.int
  | [], _, _, h, e => by cases h; simp [intsP] at e; subst e; rfl
  | .int i :: ps, _, ns, h, e => by
    cases q : intsP ps with
    | none => simp [intsP, q] at e
    | some ms =>
      simp [intsP, q] at e
      subst e
      cases h with | cons h1 h2 => cases h1; rw [List.map_cons, ints_of h2 q]
  | .non :: _, _, _, _, e => by simp [intsP] at e
  | .bl _ :: _, _, _, _, e => by simp [intsP] at e
  | .str _ :: _, _, _, _, e => by simp [intsP] at e
  | .tup _ :: _, _, _, _, e => by simp [intsP] at e
  | .lst _ :: _, _, _, _, e => by simp [intsP] at e
  | .sq _ :: _, _, _, _, e => by simp [intsP] at e
  | .obj _ _ _ :: _, _, _, _, e => by simp [intsP] at e
theorem bls_of : ∀ {ps : List P} {vs : List V} {ns : List Bool}, RpPs Ω G vs ps → blsP ps = some ns → vs = ns.map V.bl
  | [], _, _, h, e => by cases h; simp [blsP] at e; subst e; rfl
  | .bl i :: ps, _, ns, h, e => by
    cases q : blsP ps with
    | none => simp [blsP, q] at e
    | some ms =>
      simp [blsP, q] at e
      subst e
      cases h with | cons h1 h2 => cases h1; rw [List.map_cons, bls_of h2 q]
  | .non :: _, _, _, _, e => by simp [blsP] at e
  | .int _ :: _, _, _, _, e => by simp [blsP] at e
  | .str _ :: _, _, _, _, e => by simp [blsP] at e
  | .tup _ :: _, _, _, _, e => by simp [blsP] at e
  | .lst _ :: _, _, _, _, e => by simp [blsP] at e
  | .sq _ :: _, _, _, _, e => by simp [blsP] at e
  | .obj _ _ _ :: _, _, _, _, e => by simp [blsP] at e
end
end Ev
end

section
set_option Elab.async false
set_option linter.all false
set_option maxRecDepth 100000
set_option maxHeartbeats 4000000
/-! EvRevT: t[::-1] of a tuple. -/
namespace Ev
open PySem PySem.Spec PyProof.Rows L2 HT
section
variable {prog : Program} {w : World} {A : Around} {E : Value → Shared → Prop} {s : Shared}
theorem places_rev (n : Nat) : Builtin.Slice.slicePlaces ((n : Int) - 1) (-1) (-1) = n := by
  unfold Builtin.Slice.slicePlaces
  have h1 : ¬ ((-1 : Int) > 0) := by omega
  have h2 : -(-1 : Int) = 1 := rfl
  rw [if_neg h1, h2, Int.ediv_one]
  split <;> omega
theorem sliceApplied_rev {sl : Addr} {vl vu vs : Value} {n : Nat} {Q : Int × Int × Nat → Shared → Prop} (hs : s.heap.IsSliceOf sl vl vu vs) (pl : IsPart vl none) (pu : IsPart vu none) (ps : IsPart vs (some (-1)))
    (h : Q ((n : Int) - 1, -1, n) s) : wpAny (model prog w) A (Builtin.Slice.sliceApplied (.ref sl) (pure (n : Int))) Q E s := by
  obtain ⟨os, hos, hcs, hds⟩ := id hs
  unfold Builtin.Slice.sliceApplied Builtin.Slice.sliceFields
  refine wpAny_bind (wpAny_bind (wpAny_field hos hds (x := vl) rfl (wpAny_bind (wpAny_field hos hds (x := vu) rfl (wpAny_bind (wpAny_field hos hds (x := vs) rfl (wpAny_pure ?_)))))))
  refine wpAny_bind (slicePart_ ps ?_)
  show wpAny _ _ (if ((-1 : Int) == 0) = true then _ else _) _ _ s
  rw [if_neg (by decide)]
  refine wpAny_bind (slicePart_ pl (wpAny_bind (slicePart_ pu (wpAny_bind (wpAny_pure ?_)))))
  show wpAny _ _ (pure ((n : Int) - 1, (-1 : Int), Builtin.Slice.slicePlaces ((n : Int) - 1) (-1) (-1))) _ _ s
  rw [places_rev]
  exact wpAny_pure h
theorem pick_take (l : List Value) : ∀ n : Nat, n ≤ l.length → (List.range n).filterMap (fun m => l[n - 1 - m]?) = (l.take n).reverse
  | 0, _ => rfl
  | n + 1, h => by
    have hn : n < l.length := h
    have ih := pick_take l n (by omega)
    have e : (fun m => l[n + 1 - 1 - m]?) ∘ Nat.succ = fun m => l[n - 1 - m]? := by
      funext m
      show l[n + 1 - 1 - (m + 1)]? = _
      congr 1
      omega
    rw [List.range_succ_eq_map, List.filterMap_cons, List.filterMap_map, e, ih]
    rw [show n + 1 - 1 - 0 = n by omega, List.getElem?_eq_getElem hn]
    have e2 : l.take (n + 1) = l.take n ++ [l[n]] := by rw [List.take_succ, List.getElem?_eq_getElem hn]; rfl
    rw [e2, List.reverse_append]
    rfl
theorem pick_rev (xs : Array Value) : ((List.range xs.size).filterMap fun (m : Nat) => xs[(((xs.size : Int) - 1) + (m : Int) * (-1)).toNat]?).toArray = xs.toList.reverse.toArray := by
  have h := pick_take xs.toList xs.size (Nat.le_of_eq Array.length_toList.symm)
  have e : (fun (m : Nat) => xs[(((xs.size : Int) - 1) + (m : Int) * (-1)).toNat]?) = fun m => xs.toList[xs.size - 1 - m]? := by
    funext m
    rw [Array.getElem?_toList]
    congr 1
    omega
  rw [e, h, List.take_of_length_le (Nat.le_of_eq Array.length_toList)]
theorem getItem_tuple_rev {t sl : Addr} {items : Array Value} {vl vu vs : Value} {Q : Value → Shared → Prop} (ht : IsTup s.heap t items) (hs : s.heap.IsSliceOf sl vl vu vs) (pl : IsPart vl none) (pu : IsPart vu none) (ps : IsPart vs (some (-1)))
    (h : Q (.ref s.heap.objs.size) { s with heap := s.heap.push { cls := .type "tuple", data := .seq items.toList.reverse.toArray } })
    (hsz : items.size ≤ sizeLine) : wpAny (model prog w) A (getItem (.ref t) (.ref sl)) Q E s := by
  have htake : sizeOk (.seq items.toList.reverse.toArray) := by
    show items.toList.reverse.toArray.size ≤ sizeLine
    rw [List.size_toArray, List.length_reverse, Array.length_toList]
    exact hsz
  obtain ⟨os, hos, hcs, hds⟩ := id hs
  have hTs : s.TypeIs (.ref sl) "slice" := ⟨os, hos, hcs⟩
  unfold getItem
  try with_reducible refine wpAny_holding ?_
  first | refine wpAny_bind (wpAny_pure ?_) | skip
  refine wpAny_bind (wpAny_sequenceKey ht.typeIs (by decide) ?_)
  refine wpAny_bind (wpAny_callSpecial?_slot (name := Str.ofString "__getitem__") ht.typeIs PyProof.Rows.slot_tuple_getitem
    (wpAny_call_entry PyProof.Rows.slot_tuple_getitem ht.typeIs entry_tuple_getitem ?_ (args_tuple_getitem _ _)))
  show wpAny _ _ (Builtin.Tuple.tupleItemsOf (.ref t) >>= _) _ _ s
  refine wpAny_bind (tupleItemsOf_ ht ?_)
  refine wpAny_bind (wpAny_typeOf hTs ?_)
  rw [if_pos (by decide)]
  refine wpAny_bind (sliceApplied_rev hs pl pu ps ?_)
  have hno : ¬ ((((items.size : Int) - 1) == 0 && (-1 : Int) == 1 && items.size == items.size) = true) := by
    intro q
    rw [Bool.and_eq_true, Bool.and_eq_true] at q
    exact absurd q.1.2 (by decide)
  show wpAny _ _ (if (((items.size : Int) - 1) == 0 && (-1 : Int) == 1 && items.size == items.size) = true then _ else _) _ _ s
  rw [if_neg hno, pick_rev]
  first
    | exact wpAny_bind (m := Builtin.Tuple.tupleExact _) (wpAny_newObj_type (wpAny_pure ⟨_, rfl, wpAny_pure h⟩) htake)
    | exact wpAny_bind (m := Builtin.Tuple.tupleExact _) (wpAny_newObj_type (wpAny_bind (wpAny_pure (wpAny_pure ⟨_, rfl, wpAny_pure h⟩))) htake)
    | exact wpAny_bind (wpAny_bind (m := Builtin.Tuple.tupleExact _) (wpAny_newObj_type (wpAny_pure (wpAny_pure ⟨_, rfl, wpAny_pure h⟩)) htake))
    | exact wpAny_bind (wpAny_bind (m := Builtin.Tuple.tupleExact _) (wpAny_newObj_type (wpAny_pure ⟨_, rfl, wpAny_pure h⟩) htake))
end
section
variable {X : Cx}
def tRevB (K : PySem.W.Frag) (te : TE) : TE := fun σ H Q => te σ H fun x H1 => ∃ a xs, x = .ref a ∧ ((SqL K H1 a xs ∧ ∀ p, H1 p = none → Q (.ref p) (upd H1 p (.lst xs.reverse))) ∨ (SqT K H1 a xs ∧ ∀ p, H1 p = none → Q (.ref p) (upd H1 p (.tup xs.reverse))))
/-- x[::-1], x a list or a tuple -/
theorem pe_revB {e : Expr} {te : TE} {k : Nat} {p1 p2 p3 pos : Pos} (he : PE X e te) : PE X (.Subscript e (.Slice none none (some (.UnaryOp .USub (.Constant (.int 1) k p1) p2)) p3) pos) (tRevB X.K te) := by
  refine ⟨fun pins s σ H Q I h => ?_⟩
  refine Subscript_ (thn (he.run pins s σ H _ I h) fun v s1 ⟨x, H1, I1, r1, q1⟩ => ?_)
  obtain ⟨a, xs, ex, hx⟩ := q1
  subst ex
  cases r1
  have hst : PO X (some (.UnaryOp .USub (.Constant (.int 1) k p1) p2)) (tPart (tUn (L2.rU fun i => .int (-i)) (tC (.int 1)))) := po_some (pe_un un_neg pe_int)
  refine wpAny_Slice (thn (po_none.run pins s1 σ H1 (fun o H2 => o = none ∧ H2 = H1) I1 ⟨rfl, rfl⟩) fun vl s2 ⟨l, H2, I2, pl, el, e2⟩ => ?_)
  subst el e2
  refine thn (po_none.run pins s2 σ H2 (fun o H3 => o = none ∧ H3 = H2) I2 ⟨rfl, rfl⟩) fun vu s3 ⟨u, H3, I3, pu, eu, e3⟩ => ?_
  subst eu e3
  refine thn (hst.run pins s3 σ H3 (fun o H4 => o = some (-1) ∧ H4 = H3) I3 ⟨1, rfl, -1, rfl, rfl, rfl⟩) fun vs s4 ⟨o, H4, I4, ps, eo, e4⟩ => ?_
  subst eo e4
  have I5 : Inv X pins σ H4 { s4 with heap := s4.heap.push { cls := .type "slice", data := .fields #[vl, vu, vs] } } := I4.kept (t' := s4.toks) fun b ob q => Heap.get?_push_of_some _ q
  rcases hx with ⟨hx, q⟩ | ⟨hx, q⟩
  · obtain ⟨its, r, ht, hz⟩ := I5.list hx
    have hlen := r.length
    show wpAny (model X.prog X.w) X.A (subscriptTail e (.Slice none none (some (.UnaryOp .USub (.Constant (.int 1) k p1) p2)) p3) (.ref a) (.ref s4.heap.objs.size)) (EP X pins σ Q) X.xe { s4 with heap := s4.heap.push { cls := .type "slice", data := .fields #[vl, vu, vs] } }
    refine tail_any (ops := [.ref a, .ref s4.heap.objs.size]) ht.isList.typeIs (PySem.slot_list_getitem.lookup) ?_ (by with_unfolding_all rfl)
    refine wpAny_getItem_list_slice ht.isList (Heap.IsSliceOf.new _ vl vu vs) pl pu ps (by decide) ?_ (by rw [List.size_toArray]; omega)
    rw [PySem.W.krv_pick]
    refine ⟨.ref _, _, I5.laid (t' := s4.toks) (o := .lst xs.reverse) (fun b ob q => Heap.get?_push_of_some _ q) (Nat.le_refl _) ?_, rfl, q _ (I5.hok.fresh (Nat.le_refl _))⟩
    exact ⟨by rw [List.length_reverse]; exact hz, _, 0, r.reverse, Heap.get?_push_size _ rfl⟩
  · obtain ⟨its, r, ht, hz⟩ := I5.tuple hx
    have hlen := r.length
    show wpAny (model X.prog X.w) X.A (subscriptTail e (.Slice none none (some (.UnaryOp .USub (.Constant (.int 1) k p1) p2)) p3) (.ref a) (.ref s4.heap.objs.size)) (EP X pins σ Q) X.xe { s4 with heap := s4.heap.push { cls := .type "slice", data := .fields #[vl, vu, vs] } }
    refine tail_any (ops := [.ref a, .ref s4.heap.objs.size]) ht.typeIs (PyProof.Rows.slot_tuple_getitem.lookup) ?_ (by with_unfolding_all rfl)
    refine getItem_tuple_rev ht (Heap.IsSliceOf.new _ vl vu vs) pl pu ps ?_ (by rw [List.size_toArray]; omega)
    refine ⟨.ref _, _, I5.laid (t' := s4.toks) (o := .tup xs.reverse) (fun b ob q => Heap.get?_push_of_some _ q) (Nat.le_refl _) ?_, rfl, q _ (I5.hok.fresh (Nat.le_refl _))⟩
    exact ⟨by rw [List.length_reverse]; exact hz, _, r.reverse, IsTup.new _ _⟩
end
end Ev
end

section
set_option Elab.async false
set_option linter.all false
set_option maxRecDepth 100000
set_option maxHeartbeats 4000000
/-! EvSnd2: the evaluator is sound: constructs. -/
namespace Ev
open PySem PySem.Spec L2
open PyProof.Rows hiding St

section
variable {Ω : Wd} {Γ : Cfg} {T : Tab} {Z : Fr} {W : WX} {X : Cx} {k : Nat} {N : List Str} {sc : Scope} {pos : Pos} {a b c : Expr} {f g f3 : S → R D}
theorem map_some {α β : Type} {o : Option α} {h : α → β} {r : β} (e : o.map h = some r) : ∃ x, o = some x ∧ h x = r := by
  cases o with
  | none => cases e
  | some x => exact ⟨x, rfl, Option.some.inj e⟩
theorem s_bin {o : Operator} (gd : Good Ω k N sc W X) (ha : ∀ Z, PE X a (tE Ω Z W f)) (hb : ∀ Z, PE X b (tE Ω Z W g)) :
    PE X (.BinOp a o b pos) (tE Ω Z W fun s => (f s).bind fun x s => (g s).bind fun y s => R.pure ((binD s o x y).map D.pur) s) := by
  refine pe_by fun σ H Q ⟨s, G, as, ls, A, q⟩ => ⟨_, pe_op op_any (ha Z) (hb Z), one A q fun d s1 x H1 G1 as1 ls1 A1 le1 r1 o1 => one A1 o1 fun e s2 y H2 G2 as2 ls2 A2 le2 r2 o2 => ?_⟩
  obtain ⟨r, er, t⟩ := Out.pure A2 o2
  obtain ⟨p, ep, rfl⟩ := map_some er
  exact binD_ok gd A2 (r1.le le2) r2 ep t
theorem s_neg (ha : ∀ Z, PE X a (tE Ω Z W f)) : PE X (.UnaryOp .USub a pos) (tE Ω Z W fun s => (f s).bind fun x s => match x with
    | .pur (.int i) => .ok (.pur (.int (-i))) s
    | _ => .st) := by
  refine pe_by fun σ H Q ⟨s, G, as, ls, A, q⟩ => ⟨_, pe_un un_neg (ha Z), one A q fun d s1 x H1 G1 as1 ls1 A1 le1 r1 o1 => ?_⟩
  split at o1
  · obtain rfl := r1.int
    exact ⟨_, rfl, o1.tell A1 (.pur (.int _))⟩
  · exact o1.elim
theorem s_cmp {o : CmpOp} (gd : Good Ω k N sc W X) (hm : behindInMarks o b = false) (ha : ∀ Z, PE X a (tE Ω Z W f)) (hb : ∀ Z, PE X b (tE Ω Z W g)) :
    PE X (.Compare a [o] [b] pos) (tE Ω Z W fun s => (f s).bind fun x s => (g s).bind fun y s => R.pure ((cmpD o x y).map fun k => .pur (.bl k)) s) := by
  refine pe_by fun σ H Q ⟨s, G, as, ls, A, q⟩ => ⟨_, pe_cmpR op_any (ha Z) (hb Z) hm, one A q fun d s1 x H1 G1 as1 ls1 A1 le1 r1 o1 => one A1 o1 fun e s2 y H2 G2 as2 ls2 A2 le2 r2 o2 => ?_⟩
  obtain ⟨r, er, t⟩ := Out.pure A2 o2
  obtain ⟨p, ep, rfl⟩ := map_some er
  exact cmpD_ok gd A2 (r1.le le2) r2 ep (t _ _ _ _ _ A2 (Le.refl _ _ _) (.pur (.bl _)))
theorem t_cmp {o : CmpOp} (gd : Good Ω k N sc W X) (hm : behindInMarks o b = false) (ha : ∀ Z, PE X a (tE Ω Z W f)) (hb : ∀ Z, PE X b (tE Ω Z W g)) :
    PT X (.Compare a [o] [b] pos) (tT Ω Z W fun s => (f s).bind fun x s => (g s).bind fun y s => R.pure ((cmpD o x y).map fun k => .pur (.bl k)) s) := by
  refine pt_by fun σ H Q ⟨s, G, as, ls, A, q, _⟩ => ⟨_, pt_cmpR op_any (ha Z) (hb Z) hm, one A q fun d s1 x H1 G1 as1 ls1 A1 le1 r1 o1 => one A1 o1 fun e s2 y H2 G2 as2 ls2 A2 le2 r2 o2 => ?_⟩
  obtain ⟨r, er, t⟩ := Out.pure A2 o2
  obtain ⟨p, ep, rfl⟩ := map_some er
  exact cmpD_ok gd A2 (r1.le le2) r2 ep ⟨_, rfl, t _ _ _ _ _ A2 (Le.refl _ _ _) rfl⟩
def chnF (o o' : CmpOp) (f g h : S → R D) : S → R D := fun s => (f s).bind fun x s => (g s).bind fun y s => match cmpD o x y with
    | some true => (h s).bind fun z s => R.pure ((cmpD o' y z).map fun k => .pur (.bl k)) s
    | some false => .ok (.pur (.bl false)) s
    | none => .st
theorem s_chn {o o' : CmpOp} (gd : Good Ω k N sc W X) (hm : lastMarks [o, o'] [b, c] = false) (ha : ∀ Z, PE X a (tE Ω Z W f)) (hb : ∀ Z, PE X b (tE Ω Z W g)) (hc : ∀ Z, PE X c (tE Ω Z W f3)) :
    PE X (.Compare a [o, o'] [b, c] pos) (tE Ω Z W (chnF o o' f g f3)) := by
  refine pe_by fun σ H Q ⟨s, G, as, ls, A, q⟩ => ⟨_, pe_chain op_any op_any (ha Z) (hb Z) (hc Z) hm, one A q fun d s1 x H1 G1 as1 ls1 A1 le1 r1 o1 => one A1 o1 fun e s2 y H2 G2 as2 ls2 A2 le2 r2 o2 => ?_⟩
  cases ec : cmpD o d e with
  | none => rw [ec] at o2; exact o2.elim
  | some v =>
    rw [ec] at o2
    refine cmpD_ok gd A2 (r1.le le2) r2 ec ⟨v, rfl, ?_⟩
    cases v with
    | false => exact o2.tell A2 (.pur (.bl _))
    | true =>
      refine one A2 o2 fun e3 s3 z H3 G3 as3 ls3 A3 le3 r3 o3 => ?_
      obtain ⟨r, er, t⟩ := Out.pure A3 o3
      obtain ⟨p, ep, rfl⟩ := map_some er
      exact cmpD_ok gd A3 (r2.le le3) r3 ep (t _ _ _ _ _ A3 (Le.refl _ _ _) (.pur (.bl _)))
theorem t_chn {o o' : CmpOp} (gd : Good Ω k N sc W X) (hm : lastMarks [o, o'] [b, c] = false) (ha : ∀ Z, PE X a (tE Ω Z W f)) (hb : ∀ Z, PE X b (tE Ω Z W g)) (hc : ∀ Z, PE X c (tE Ω Z W f3)) :
    PT X (.Compare a [o, o'] [b, c] pos) (tT Ω Z W (chnF o o' f g f3)) := by
  refine pt_by fun σ H Q ⟨s, G, as, ls, A, q, _⟩ => ⟨_, pt_chain op_any op_any (ha Z) (hb Z) (hc Z) hm, one A q fun d s1 x H1 G1 as1 ls1 A1 le1 r1 o1 => one A1 o1 fun e s2 y H2 G2 as2 ls2 A2 le2 r2 o2 => ?_⟩
  cases ec : cmpD o d e with
  | none => rw [ec] at o2; exact o2.elim
  | some v =>
    rw [ec] at o2
    refine cmpD_ok gd A2 (r1.le le2) r2 ec ⟨v, rfl, ?_⟩
    cases v with
    | false => exact ⟨_, rfl, o2.tell A2 rfl⟩
    | true =>
      refine one A2 o2 fun e3 s3 z H3 G3 as3 ls3 A3 le3 r3 o3 => ?_
      obtain ⟨r, er, t⟩ := Out.pure A3 o3
      obtain ⟨p, ep, rfl⟩ := map_some er
      exact cmpD_ok gd A3 (r2.le le3) r3 ep ⟨_, rfl, t _ _ _ _ _ A3 (Le.refl _ _ _) rfl⟩
def notF (f : S → R D) : S → R D := fun s => (f s).bind fun x s => match x with
    | .pur (.bl k) => .ok (.pur (.bl (!k))) s
    | _ => .st
theorem s_not (ha : ∀ Z, PE X a (tE Ω Z W f)) : PE X (.UnaryOp .Not a pos) (tE Ω Z W (notF f)) := by
  refine pe_by fun σ H Q ⟨s, G, as, ls, A, q⟩ => ⟨_, pe_not (ha Z), one A q fun d s1 x H1 G1 as1 ls1 A1 le1 r1 o1 => ?_⟩
  split at o1
  · obtain rfl := r1.bl
    exact ⟨_, rfl, o1.tell A1 (.pur (.bl _))⟩
  · exact o1.elim
theorem t_not (ha : ∀ Z, PT X a (tT Ω Z W f)) : PT X (.UnaryOp .Not a pos) (tT Ω Z W (notF f)) := by
  refine pt_by fun σ H Q ⟨s, G, as, ls, A, q, _⟩ => ⟨_, pt_not (ha Z), oneT A q (fun d s' e h => ?_) fun b s1 H1 G1 as1 ls1 e A1 le1 o1 => o1.tell A1 rfl⟩
  split at h
  · exact ⟨_, rfl⟩
  · exact absurd rfl h
def iteF3 (f g h : S → R D) : S → R D := fun s => (f s).bind fun x s => match x with
    | .pur (.bl true) => g s
    | .pur (.bl false) => h s
    | _ => .st
theorem s_ite (hc : ∀ Z, PT X c (tT Ω Z W f3)) (ha : ∀ Z, PE X a (tE Ω Z W f)) (hb : ∀ Z, PE X b (tE Ω Z W g)) : PE X (.IfExp c a b pos) (tE Ω Z W (iteF3 f3 f g)) := by
  refine pe_by fun σ H Q ⟨s, G, as, ls, A, q⟩ => ⟨_, pe_ifExp (hc Z) (ha Z) (hb Z), oneT A q (fun d s' e h => ?_) fun b s1 H1 G1 as1 ls1 e A1 le1 o1 => ?_⟩
  · split at h
    · exact ⟨_, rfl⟩
    · exact ⟨_, rfl⟩
    · exact absurd rfl h
  · cases b with
    | true => exact ⟨s1, G1, as1, ls1, A1, o1⟩
    | false => exact ⟨s1, G1, as1, ls1, A1, o1⟩
theorem plain_ix {e : Expr} (h : notSl e = true) : PlainIx e := by
  intro o i
  cases e <;> first | rfl | cases h
theorem s_idx (gd : Good Ω k N sc W X) (hs : notSl b = true) (ha : ∀ Z, PE X a (tE Ω Z W f)) (hb : ∀ Z, PE X b (tE Ω Z W g)) :
    PE X (.Subscript a b pos) (tE Ω Z W fun s => (f s).bind fun x s => (g s).bind fun y s => R.pure (idxD s x y) s) := by
  refine pe_by fun σ H Q ⟨s, G, as, ls, A, q⟩ => ⟨_, pe_ix ix_any (ha Z) (hb Z) (plain_ix hs), one A q fun d s1 x H1 G1 as1 ls1 A1 le1 r1 o1 => one A1 o1 fun e s2 y H2 G2 as2 ls2 A2 le2 r2 o2 => ?_⟩
  obtain ⟨r, er, t⟩ := Out.pure A2 o2
  exact idxD_ok gd A2 (r1.le le2) r2 er t
/-! slices -/
def relO (G : Hp) (as ls : List Addr) : Option Int → Option Int → Prop := fun v d => v = d
def tOI (Ω : Wd) (Z : Fr) (W : WX) (f : S → R (Option Int)) : TO := fun σ H Q => ∃ s G as ls, Abs Ω Z s G as ls σ H ∧ Out Ω Z W relO G as ls σ (f s) Q
theorem oneO {α' β' : Type} {s : S} {G H : Hp} {as ls : List Addr} {σ : St} {rl' : Hp → List Addr → List Addr → β' → α' → Prop} {f : S → R (Option Int)} {K : Option Int → S → R α'} {Q : β' → Hp → Prop} {R : Option Int → Hp → Prop} (A : Abs Ω Z s G as ls σ H)
    (o : Out Ω Z W rl' G as ls σ ((f s).bind K) Q)
    (fin : ∀ d s1 H1 G1 as1 ls1, Abs Ω Z s1 G1 as1 ls1 σ H1 → Le G as ls G1 as1 ls1 → Out Ω Z W rl' G1 as1 ls1 σ (K d s1) Q → R d H1) : tOI Ω Z W f σ H R :=
  ⟨s, G, as, ls, A, Out.then o fun d s1 x H1 G1 as1 ls1 _ A1 le r o1 => by
    have r : x = d := r
    subst r
    exact fin x s1 H1 G1 as1 ls1 A1 le o1⟩
theorem po_by {e : Option Expr} {t : TO} (h : ∀ σ H Q, t σ H Q → ∃ t', PO X e t' ∧ t' σ H Q) : PO X e t := ⟨fun pins s σ H Q I q =>
  let ⟨_, p, q'⟩ := h σ H Q q
  p.run pins s σ H Q I q'⟩
theorem s_oN : PO X none (tOI Ω Z W fun s => .ok none s) := po_by fun σ H Q ⟨s, G, as, ls, A, q⟩ => ⟨_, po_none, q.tell A rfl⟩
theorem s_oS (ha : ∀ Z, PE X a (tE Ω Z W f)) : PO X (some a) (tOI Ω Z W fun s => (f s).bind fun d s => match d with
    | .pur (.int i) => .ok (some i) s
    | _ => .st) := by
  refine po_by fun σ H Q ⟨s, G, as, ls, A, q⟩ => ⟨_, po_some (ha Z), one A q fun d s1 x H1 G1 as1 ls1 A1 le1 r1 o1 => ?_⟩
  split at o1
  · obtain rfl := r1.int
    exact ⟨_, rfl, o1.tell A1 rfl⟩
  · exact o1.elim
theorem s_slc {lo hi : Option Expr} {l h : S → R (Option Int)} {p2 : Pos} (gd : Good Ω k N sc W X) (ha : ∀ Z, PE X a (tE Ω Z W f)) (hl : ∀ Z, PO X lo (tOI Ω Z W l)) (hh : ∀ Z, PO X hi (tOI Ω Z W h)) :
    PE X (.Subscript a (.Slice lo hi none p2) pos) (tE Ω Z W fun s => (f s).bind fun x s => (l s).bind fun u s => (h s).bind fun v s => match x with
      | .pur p => R.pure ((slcP p u v).map D.pur) s
      | _ => .st) := by
  refine pe_by fun σ H Q ⟨s, G, as, ls, A, q⟩ => ⟨_, pe_slice sl_any (ha Z) (hl Z) (hh Z), one A q fun d s1 x H1 G1 as1 ls1 A1 le1 r1 o1 => oneO A1 o1 fun u s2 H2 G2 as2 ls2 A2 le2 o2 => oneO A2 o2 fun v s3 H3 G3 as3 ls3 A3 le3 o3 => ?_⟩
  split at o3
  · obtain ⟨r, er, t⟩ := Out.pure A3 o3
    obtain ⟨p, ep, rfl⟩ := map_some er
    exact slcP_ok gd A3 ((r1.le le2).le le3).ip ep t
  · exact o3.elim
theorem s_rev {j : Nat} {p1 p2 p3 : Pos} (gd : Good Ω k N sc W X) (ha : ∀ Z, PE X a (tE Ω Z W f)) : PE X (.Subscript a (.Slice none none (some (.UnaryOp .USub (.Constant (.int 1) j p1) p2)) p3) pos) (tE Ω Z W fun s => (f s).bind fun x s => match x with
    | .pur (.lst ps) => .ok (.pur (.lst ps.reverse)) s
    | .pur (.tup ps) => .ok (.pur (.tup ps.reverse)) s
    | _ => .st) := by
  refine pe_by fun σ H Q ⟨s, G, as, ls, A, q⟩ => ⟨_, pe_revB (ha Z), one A q fun d s1 x H1 G1 as1 ls1 A1 le1 r1 o1 => ?_⟩
  split at o1
  · obtain ⟨a, xs, rfl, e1, q1⟩ := r1.lst
    exact ⟨a, xs, rfl, .inl ⟨SqL.of (A1.sto.sub _ _ e1), fun p hp => Told.lst o1 A1 q1.reverse hp⟩⟩
  · obtain ⟨a, xs, rfl, e1, q1⟩ := r1.tup
    exact ⟨a, xs, rfl, .inr ⟨by rw [gd.K]; exact sqT_mono A1.sto.sub e1, fun p hp => Told.tup o1 A1 q1.reverse hp⟩⟩
  · exact o1.elim
/-! isinstance -/
theorem mg_blt (F : Facts Ω Γ T k) (gd : Good Ω k N sc W X) {x : Str} (h : x ∈ bltins) : X.mg x = none := by rw [gd.mg]; exact F.bi x h
def tyStr : P → Option String
  | .non => some "NoneType" | .bl _ => some "bool" | .int _ => some "int" | .str _ => some "str" | .tup _ => some "tuple" | .lst _ => some "list"
  | _ => none
def tyS : Ty → Option String
  | .int => some "int" | .bool => some "bool" | .str => some "str" | .tuple => some "tuple" | .list => some "list" | .dict => some "dict"
  | .cls _ => none
theorem ty_of {p : P} {v : V} {G H : Hp} {t : String} (gd : Good Ω k N sc W X) (e : Same G H) (r : RpP Ω G v p) (h : tyStr p = some t) : TyX X.K H v (.type t) := by
  cases r with
  | non => cases h; exact .base .non
  | bl b => cases h; exact .base (.bl b)
  | int b => cases h; exact .base (.int b)
  | str b => cases h; exact .base (.str b)
  | tup e1 _ =>
    cases h
    rcases e1 with (e1 | ⟨o, e1⟩) | ⟨o, its, n, e1, e2, _⟩
    · exact .base (.tup (e _ _ e1))
    · exact .fTuple (e _ _ e1)
    · exact .kTuple (by rw [gd.K]; exact e1) e2
  | lst e1 _ => cases h; exact .base (.lst (e _ _ e1))
  | sq _ _ => cases h
  | obj _ _ _ => cases h
theorem isTy_of {p : P} {t : Ty} {b : Bool} (h : isTy p t = some b) : ∃ tp tt, tyStr p = some tp ∧ tyS t = some tt ∧ kitB tp tt = some b := by
  cases p <;> cases t <;> first
    | (cases h; done)
    | (cases h; exact ⟨_, _, rfl, rfl, by decide +kernel⟩)
theorem bootTy {t : Ty} {tt : String} (h : tyS t = some tt) : bootBuiltins (tnm T t) = some (.type tt) ∧ tnm T t ∈ bltins := by
  cases t with
  | int => cases h; exact ⟨(by decide +kernel : bootBuiltins "int" = some (.type "int")), (by decide +kernel : ("int" : Str) ∈ bltins)⟩
  | bool => cases h; exact ⟨(by decide +kernel : bootBuiltins "bool" = some (.type "bool")), (by decide +kernel : ("bool" : Str) ∈ bltins)⟩
  | str => cases h; exact ⟨(by decide +kernel : bootBuiltins "str" = some (.type "str")), (by decide +kernel : ("str" : Str) ∈ bltins)⟩
  | tuple => cases h; exact ⟨(by decide +kernel : bootBuiltins "tuple" = some (.type "tuple")), (by decide +kernel : ("tuple" : Str) ∈ bltins)⟩
  | list => cases h; exact ⟨(by decide +kernel : bootBuiltins "list" = some (.type "list")), (by decide +kernel : ("list" : Str) ∈ bltins)⟩
  | dict => cases h; exact ⟨(by decide +kernel : bootBuiltins "dict" = some (.type "dict")), (by decide +kernel : ("dict" : Str) ∈ bltins)⟩
  | cls c => cases h
theorem pe_ty (F : Facts Ω Γ T k) (gd : Good Ω k N sc W X) {t : Ty} {tt : String} {p : Pos} (h : tyS t = some tt) (hg : glo sc (tnm T t) = true) : PE X (.Name (tnm T t) p) (tC (.ty tt)) := by
  obtain ⟨h1, h2⟩ := glo_of gd hg
  obtain ⟨h3, h4⟩ := bootTy (T := T) h
  exact pe_bltn h1 (mg_blt F gd h4) h3 rfl (okn_1 h2).2.2 (okn_1 h2).1
/-- an item that is not starred -/
def nst : Expr → Bool
  | .Starred _ _ => false
  | _ => true
theorem star_ne {e : Expr} {es : List Expr} {env : Env} (h : nst e = true) : starEach (e :: es) env = (false, eval e env) :: starEach es env := by
  cases e <;> first | rfl | cases h
theorem star_any : ∀ {es : List Expr} {env : Env}, es.all nst = true → (backTo pos (starEach es env)).any (·.1) = false
  | [], _, _ => rfl
  | e :: es, env, h => by
    rw [List.all_cons, Bool.and_eq_true] at h
    rw [star_ne h.1]
    show (false || (backTo pos (starEach es env)).any (·.1)) = false
    rw [star_any h.2]
    rfl
theorem pa_cons' {e : Expr} {es : List Expr} {te : TE} {t : TA} (h : nst e = true) (ha : PE X e te) (hr : PA X es t) : PA X (e :: es) (tCons te t) := pa_cons ha hr (star_ne h)
theorem s_isi {t : Ty} {p q : Pos} (F : Facts Ω Γ T k) (gd : Good Ω k N sc W X) (hg : glo sc "isinstance" = true) (hg2 : glo sc (tnm T t) = true) (hn : nst a = true) (ha : ∀ Z, PE X a (tE Ω Z W f)) :
    PE X (.Call (.Name "isinstance" p) [a, .Name (tnm T t) q] [] pos) (tE Ω Z W fun s => (f s).bind fun x s => match x with
      | .pur p => R.pure ((isTy p t).map fun k => .pur (.bl k)) s
      | _ => .st) := by
  cases ht : tyS t with
  | none =>
    refine ⟨fun pins s σ H Q I ⟨s0, G, as, ls, A, q⟩ => ?_⟩
    have hno : ∀ p, isTy p t = none := fun p => by
      cases e : isTy p t with
      | none => rfl
      | some b =>
        obtain ⟨_, _, _, h, _⟩ := isTy_of e
        rw [ht] at h; cases h
    have hx : ∃ t', PE X (.Call (.Name "isinstance" p) [a, .Name (tnm T t) ‹Pos›] [] pos) t' ∧ t' σ H Q := by
      refine ⟨_, pe_callB (call_any (f := .builtin "isinstance")) (glo_of gd hg).1 (mg_blt F gd (by decide +kernel)) (by decide +kernel) (pa_cons' hn (ha Z) (pa_cons' rfl (pe_by (t := fun _ _ _ => False) fun _ _ _ z => z.elim) pa_nil)) (by decide) (by decide) (star_ne hn) (star_any rfl), ?_⟩
      refine one A q fun d s1 x H1 G1 as1 ls1 A1 le1 r1 o1 => ?_
      split at o1
      · rw [hno] at o1
        exact o1.elim
      · exact o1.elim
    obtain ⟨t', pe, q'⟩ := hx
    exact pe.run pins s σ H Q I q'
  | some tt =>
    refine pe_by fun σ H Q ⟨s, G, as, ls, A, q⟩ => ⟨_, pe_callB call_isi (glo_of gd hg).1 (mg_blt F gd (by decide +kernel)) (by decide +kernel) (pa_cons' hn (ha Z) (pa_cons' rfl (pe_ty F gd ht hg2) pa_nil)) (by decide) (by decide) (star_ne hn) (star_any rfl), one A q fun d s1 x H1 G1 as1 ls1 A1 le1 r1 o1 => ?_⟩
    split at o1
    · obtain ⟨r, er, t⟩ := Out.pure A1 o1
      obtain ⟨bb, eb, rfl⟩ := map_some er
      obtain ⟨tp, tt', h1, h2, h3⟩ := isTy_of eb
      rw [ht] at h2
      cases h2
      exact ⟨_, _, _, _, bb, rfl, .ty tt, ty_of gd A1.sto.sub r1.ip h1, kit_ty h3, t _ _ _ _ _ A1 (Le.refl _ _ _) (.pur (.bl _))⟩
    · exact o1.elim
end
end Ev
end

section
set_option Elab.async false
set_option linter.all false
set_option maxRecDepth 100000
set_option maxHeartbeats 4000000
/-! EvSnd3: calls, fields, argument lists, and/or. -/
namespace Ev
open PySem PySem.Spec L2
open PyProof.Rows hiding St

section
variable {Ω : Wd} {Γ : Cfg} {T : Tab} {Z : Fr} {W : WX} {X : Cx} {k : Nat} {N : List Str} {sc : Scope} {pos : Pos} {a b c : Expr} {xs : List Expr} {f g f3 : S → R D} {fs : S → R (List D)}
theorem pe_callB' {x : Str} {p : Pos} {e : Expr} {es : List Expr} {t : TA} {id : String} {r : List V → Hp → VK → Prop} (hc : CallR X (.builtin id) r) (hg : Gl X x ∧ okn x = true) (hm : X.mg x = none) (hv : bootBuiltins x = some (.builtin id)) (hn : (e :: es).all nst = true) (ha : PA X (e :: es) t) : PE X (.Call (.Name x p) (e :: es) [] pos) (tCB r t) := by
  rw [List.all_cons, Bool.and_eq_true] at hn
  exact pe_callB hc hg.1 hm hv ha (okn_1 hg.2).2.2 (okn_1 hg.2).1 (star_ne hn.1) (star_any hn.2)
theorem pe_callTy' {x : Str} {p : Pos} {e : Expr} {es : List Expr} {t : TA} {id : String} {r : List V → Hp → VK → Prop} (hc : CallR X (.type id) r) (hg : Gl X x ∧ okn x = true) (hm : X.mg x = none) (hv : bootBuiltins x = some (.type id)) (hn : (e :: es).all nst = true) (ha : PA X (e :: es) t) : PE X (.Call (.Name x p) (e :: es) [] pos) (tCB r t) := by
  rw [List.all_cons, Bool.and_eq_true] at hn
  exact pe_callTy hc hg.1 hm hv ha (okn_1 hg.2).2.2 (okn_1 hg.2).1 (star_ne hn.1) (star_any hn.2)
/-! isinstance with several types -/
theorem tys_all {ts : List Ty} : ∀ {ys : List Expr}, tysB T sc ts ys = true → ∃ tts : List String, (∀ (p : P) (b : Bool) (tp : String) , tyStr p = some tp → isTys p ts = some b → PySem.W.kitAny Ω.K (.type tp) (tts.map Value.type) = some b) ∧ ys.all nst = true ∧ tts.length = ys.length ∧ ∀ {X : Cx}, Facts Ω Γ T k → Good Ω k N sc W X → PA X ys (fun _ H Q => Q (tts.map V.ty) H) := by
  induction ts with
  | nil =>
    intro ys h
    cases ys with
    | nil => exact ⟨[], fun p b tp _ e => by simp [isTys] at e; subst e; exact kitAny_nil, rfl, rfl, fun F gd => pa_nil⟩
    | cons _ _ => simp [tysB] at h
  | cons t ts ih =>
    intro ys h
    cases ys with
    | nil => simp [tysB] at h
    | cons y ys =>
      cases y with
      | Name x pp =>
        simp only [tysB, Bool.and_eq_true, decide_eq_true_eq] at h
        obtain ⟨⟨⟨rfl, hg⟩, hcl⟩, hr⟩ := h
        obtain ⟨tts, h1, h2, h4, h3⟩ := ih hr
        obtain ⟨tt, ht⟩ : ∃ tt, tyS t = some tt := by cases t <;> first | exact ⟨_, rfl⟩ | cases hcl
        refine ⟨tt :: tts, fun p b tp hp e => ?_, by rw [List.all_cons, h2]; rfl, by simp [h4], fun F gd => ?_⟩
        · simp only [isTys] at e
          rw [List.map_cons]
          split at e
          · rename_i e1
            obtain ⟨tp', tt', q1, q2, q3⟩ := isTy_of e1
            rw [hp] at q1; cases q1
            rw [ht] at q2; cases q2
            cases e
            exact kitAny_cons (kit_ty q3) (fun z => by cases z) fun _ => rfl
          · rename_i e1
            obtain ⟨tp', tt', q1, q2, q3⟩ := isTy_of e1
            rw [hp] at q1; cases q1
            rw [ht] at q2; cases q2
            exact kitAny_cons (kit_ty q3) (fun _ => h1 p b tp hp e) fun z => by cases z
          · cases e
        · exact pa_by fun σ H Q q => ⟨_, pa_cons' rfl (pe_ty F gd ht hg) (h3 F gd), q⟩
      | _ => simp [tysB] at h
theorem tyStr_of {p : P} {ts : List Ty} {b : Bool} (h0 : ts ≠ []) (h : isTys p ts = some b) : ∃ tp, tyStr p = some tp := by
  cases ts with
  | nil => exact absurd rfl h0
  | cons t ts =>
    simp only [isTys] at h
    cases e : isTy p t with
    | none => rw [e] at h; cases h
    | some b' =>
      obtain ⟨tp, _, h1, _⟩ := isTy_of e
      exact ⟨tp, h1⟩
theorem pair_ty : ∀ tts : List String, Paired ClsV (tts.map V.ty) (tts.map Value.type)
  | [] => .nil
  | t :: ts => .cons (.ty t) (pair_ty ts)
theorem s_isT {ts : List Ty} {ys : List Expr} {j : Nat} {p q : Pos} (F : Facts Ω Γ T k) (gd : Good Ω k N sc W X) (hg : glo sc "isinstance" = true) (ht : tysB T sc ts ys = true) (h0 : 0 < ys.length) (hsz : ys.length ≤ 100) (hn : nst a = true) (ha : ∀ Z, PE X a (tE Ω Z W f)) :
    PE X (.Call (.Name "isinstance" p) [a, .Tuple ys j q] [] pos) (tE Ω Z W fun s => (f s).bind fun x s => match x with
      | .pur p => R.pure ((isTys p ts).map fun k => .pur (.bl k)) s
      | _ => .st) := by
  obtain ⟨tts, h1, h2, h4, h3⟩ := tys_all (Ω := Ω) (Γ := Γ) (k := k) (N := N) (W := W) ht
  have hlen : ts ≠ [] := by
    intro z
    subst z
    cases ys with
    | nil => exact absurd h0 (Nat.lt_irrefl _)
    | cons _ _ => simp [tysB] at ht
  refine pe_by fun σ H Q ⟨s, G, as, ls, A, o⟩ => ⟨_, pe_callB' call_isiT (glo_of gd hg) (mg_blt F gd (by decide +kernel)) (by decide +kernel) (by rw [List.all_cons, hn]; rfl) (pa_cons' hn (ha Z) (pa_cons' rfl (pe_tup (h3 F gd)) pa_nil)), one A o fun d s1 x H1 G1 as1 ls1 A1 le1 r1 o1 => ?_⟩
  split at o1
  · obtain ⟨r, er, t⟩ := Out.pure A1 o1
    obtain ⟨bb, eb, rfl⟩ := map_some er
    obtain ⟨tp, etp⟩ := tyStr_of hlen eb
    refine ⟨by rw [List.length_map, h4, sizeLine_eq]; omega, fun pp hp => ?_⟩
    have A2 : Abs Ω Z s1 G1 as1 ls1 σ (upd H1 pp (.tup (tts.map V.ty))) := A1.other fun b hb => upd_ne fun z => by
      subst z
      rcases hb with h | h | h | h
      · exact h (same_none A1.sto.sub hp)
      · exact A1.nas hp h
      · exact A1.nls hp h
      · exact h (A1.unew hp)
    exact ⟨_, pp, _, .type tp, _, bb, rfl, upd_same, pair_ty tts, ty_of gd A2.sto.sub r1.ip etp, by rw [gd.K]; exact h1 _ bb tp etp eb, t _ _ _ _ _ A2 (Le.refl _ _ _) (.pur (.bl _))⟩
  · exact o1.elim
end
end Ev
end

section
set_option Elab.async false
set_option linter.all false
set_option maxRecDepth 100000
set_option maxHeartbeats 4000000
/-! EvSnd4: built-ins by name, methods, fields, calls. -/
namespace Ev
open PySem PySem.Spec L2
open PyProof.Rows hiding St

section
variable {Ω : Wd} {Γ : Cfg} {T : Tab} {Z : Fr} {W : WX} {X : Cx} {k : Nat} {N : List Str} {sc : Scope} {pos : Pos} {a b c : Expr} {xs : List Expr} {f g f3 : S → R D} {fs : S → R (List D)}
  {s : S} {G H : Hp} {as ls : List Addr} {σ : St} {Q : VK}
def bval : B → Value
  | .len => .builtin "len" | .sum => .builtin "sum" | .all => .builtin "all" | .max => .builtin "max" | .min => .builtin "min" | .sorted => .builtin "sorted"
  | .int => .type "int" | .list => .type "list" | .tuple => .type "tuple" | .str => .type "str"
theorem one_v {v : V} {vs : List V} {d : D} (r : RpDs Ω G as ls vs [d]) : ∃ v, vs = [v] ∧ RpD Ω G as ls v d := by
  cases r with | cons h t => cases t; exact ⟨_, rfl, h⟩
theorem one_v' {vs : List V} {d : D} (r : RpDs Ω G as ls vs [d]) : ∃ v, vs = [v] ∧ RpD Ω G as ls v d := by
  cases r with | cons h t => cases t; exact ⟨_, rfl, h⟩
theorem two_v {vs : List V} {d e : D} (r : RpDs Ω G as ls vs [d, e]) : ∃ v u, vs = [v, u] ∧ RpD Ω G as ls v d ∧ RpD Ω G as ls u e := by
  cases r with | cons h t => cases t with | cons h' t' => cases t'; exact ⟨_, _, rfl, h, h'⟩
theorem lenD_ok {d : D} {n : Nat} {v : V} (gd : Good Ω k N sc W X) (A : Abs Ω Z s G as ls σ H) (r : RpD Ω G as ls v d) (h : lenD s d = some n) : ∃ a xs, v = .ref a ∧ (SqL X.K H a xs ∨ SqT X.K H a xs) ∧ xs.length = n := by
  unfold lenD at h
  split at h
  · obtain ⟨a, xs, rfl, e, q⟩ := r.lst
    cases h
    exact ⟨a, xs, rfl, .inl (SqL.of (A.sto.sub _ _ e)), q.length⟩
  · obtain ⟨a, xs, rfl, e, q⟩ := r.tup
    cases h
    exact ⟨a, xs, rfl, .inr (by rw [gd.K]; exact sqT_mono A.sto.sub e), q.length⟩
  · split at h
    · rename_i e
      obtain ⟨a, rfl, ea⟩ := r.iloc
      cases h
      obtain ⟨_, _, vs, hv, rv⟩ := A.lat _ _ _ e ea
      exact ⟨a, vs, rfl, .inl (SqL.of hv), rv.length⟩
    · cases h
  · split at h
    · rename_i e
      obtain ⟨a, rfl, ea⟩ := r.icel
      cases h
      obtain ⟨_, vs, hv, rv⟩ := A.sto.cel _ _ _ e ea
      exact ⟨a, vs, rfl, .inl (SqL.of hv), rv.length⟩
    · cases h
  · cases h
theorem insI_perm (x : Int) : ∀ ys : List Int, (insI x ys).Perm (x :: ys)
  | [] => .refl _
  | y :: ys => by
    unfold insI
    split
    · exact .refl _
    · exact ((insI_perm x ys).cons y).trans (.swap x y ys)
theorem sortI_perm : ∀ xs : List Int, (sortI xs).Perm xs
  | [] => .refl _
  | x :: xs => (insI_perm x (sortI xs)).trans ((sortI_perm xs).cons x)
theorem insI_sorted (x : Int) : ∀ {ys : List Int}, ys.Pairwise (· ≤ ·) → (insI x ys).Pairwise (· ≤ ·)
  | [], _ => List.pairwise_singleton _ _
  | y :: ys, h => by
    have h' := List.pairwise_cons.mp h
    unfold insI
    split
    · rename_i hx
      refine List.pairwise_cons.mpr ⟨fun z hz => ?_, h⟩
      rcases List.mem_cons.mp hz with rfl | hz
      · exact hx
      · exact Int.le_trans hx (h'.1 z hz)
    · rename_i hx
      refine List.pairwise_cons.mpr ⟨fun z hz => ?_, insI_sorted x h'.2⟩
      rcases List.mem_cons.mp ((insI_perm x ys).mem_iff.mp hz) with rfl | hz
      · omega
      · exact h'.1 z hz
theorem sortI_sorted : ∀ xs : List Int, (sortI xs).Pairwise (· ≤ ·)
  | [] => .nil
  | x :: xs => insI_sorted x (sortI_sorted xs)
theorem sorted_uniq : ∀ {xs ys : List Int}, xs.Perm ys → xs.Pairwise (· ≤ ·) → ys.Pairwise (· ≤ ·) → xs = ys
  | [], ys, p, _, _ => by rw [p.nil_eq]
  | x :: xs, [], p, _, _ => by have := p.length_eq; simp at this
  | x :: xs, y :: ys, p, hx, hy => by
    have hx' := List.pairwise_cons.mp hx
    have hy' := List.pairwise_cons.mp hy
    have e : x = y := by
      have a1 : x ∈ y :: ys := p.mem_iff.mp List.mem_cons_self
      have a2 : y ∈ x :: xs := p.mem_iff.mpr List.mem_cons_self
      rcases List.mem_cons.mp a1 with h | h
      · exact h
      · rcases List.mem_cons.mp a2 with h2 | h2
        · exact h2.symm
        · have b1 := hy'.1 x h
          have b2 := hx'.1 y h2
          omega
    subst e
    rw [sorted_uniq ((List.perm_cons x).mp p) hx'.2 hy'.2]
theorem sortI_uniq {ns ns' : List Int} (hp : ns'.Perm ns) (hw : ns'.Pairwise (· ≤ ·)) : ns' = sortI ns := sorted_uniq (hp.trans (sortI_perm ns).symm) hw (sortI_sorted ns)
theorem ints_rp {G : Hp} : ∀ ns : List Int, RpPs Ω G (ns.map V.int) (ns.map P.int)
  | [] => .nil
  | n :: ns => .cons (.int n) (ints_rp ns)
theorem bifD_ok {o : B} {ds : List D} {p : P} {vs : List V} (gd : Good Ω k N sc W X) (A : Abs Ω Z s G as ls σ H) (r : RpDs Ω G as ls vs ds) (h : bifD s o ds = some p) (t : Told Ω Z s G as ls σ (.pur p) Q) : rUC X (bval o) vs H Q := by
  unfold bifD at h
  split at h
  · obtain ⟨v, rfl, r1⟩ := one_v' r
    obtain ⟨n, e, rfl⟩ := map_some h
    obtain ⟨a, xs, rfl, e2, e3⟩ := lenD_ok gd A r1 e
    exact ⟨_, call_len_seq, a, xs, rfl, e2, by rw [e3]; exact t.flat A (.int _)⟩
  · obtain ⟨v, rfl, r1⟩ := one_v' r
    obtain ⟨ns, e, rfl⟩ := map_some h
    obtain ⟨a, xs, rfl, e2, e3⟩ := r1.lst
    have e4 := ints_of e3 e
    subst e4
    exact ⟨_, cr_sum gd.calm, a, ns, rfl, SqL.of (A.sto.sub _ _ e2), t.flat A (.int _)⟩
  · obtain ⟨v, rfl, r1⟩ := one_v' r
    obtain ⟨ns, e, rfl⟩ := map_some h
    obtain ⟨a, xs, rfl, e2, e3⟩ := r1.tup
    have e4 := ints_of e3 e
    subst e4
    exact ⟨_, cr_sumT gd.calm, a, ns, rfl, by rw [gd.K]; exact sqT_mono A.sto.sub e2, t.flat A (.int _)⟩
  · obtain ⟨v, rfl, r1⟩ := one_v' r
    obtain ⟨ns, e, rfl⟩ := map_some h
    obtain ⟨a, xs, rfl, e2, e3⟩ := r1.lst
    have e4 := bls_of e3 e
    subst e4
    exact ⟨_, cr_all gd.calm, a, ns, rfl, SqL.of (A.sto.sub _ _ e2), t.flat A (.bl _)⟩
  · obtain ⟨v, rfl, r1⟩ := one_v' r
    cases h
    obtain rfl := r1.int
    exact ⟨_, call_int1, .inl ⟨_, rfl, t.flat A (.int _)⟩⟩
  · obtain ⟨v, rfl, r1⟩ := one_v' r
    obtain rfl := r1.int
    split at h
    · rename_i hl
      cases h
      exact ⟨_, call_str_int, _, rfl, hl, t.flat A (.str _)⟩
    · cases h
  · obtain ⟨v, rfl, r1⟩ := one_v' r
    obtain rfl := r1.str
    split at h
    · rename_i hl
      obtain ⟨n, en, rfl⟩ := map_some h
      exact ⟨_, call_int_str, _, n, rfl, en, hl, t.flat A (.int _)⟩
    · cases h
  · obtain ⟨v, rfl, r1⟩ := one_v' r
    cases h
    obtain rfl := r1.bl
    exact ⟨_, call_int1, .inr ⟨_, rfl, t.flat A (.int _)⟩⟩
  · obtain ⟨v, rfl, r1⟩ := one_v' r
    cases h
    obtain ⟨a, xs, rfl, e2, e3⟩ := r1.lst
    exact ⟨_, call_tuple_of, a, xs, rfl, .inl ⟨SqL.of (A.sto.sub _ _ e2), fun l hl => t.tup A e3 hl⟩⟩
  · obtain ⟨v, rfl, r1⟩ := one_v' r
    cases h
    obtain ⟨a, xs, rfl, e2, e3⟩ := r1.tup
    exact ⟨_, call_tuple_of, a, xs, rfl, .inr ⟨by rw [gd.K]; exact sqT_mono A.sto.sub e2, t.flat A (.tup e2 e3)⟩⟩
  · obtain ⟨v, rfl, r1⟩ := one_v' r
    cases h
    obtain ⟨a, xs, rfl, e2, e3⟩ := r1.lst
    exact ⟨_, call_list_of, a, xs, rfl, .inl (SqL.of (A.sto.sub _ _ e2)), fun l hl => t.lst A e3 hl⟩
  · obtain ⟨v, rfl, r1⟩ := one_v' r
    cases h
    obtain ⟨a, xs, rfl, e2, e3⟩ := r1.tup
    exact ⟨_, call_list_of, a, xs, rfl, .inr (by rw [gd.K]; exact sqT_mono A.sto.sub e2), fun l hl => t.lst A e3 hl⟩
  · obtain ⟨v, rfl, r1⟩ := one_v' r
    obtain ⟨ns, e, rfl⟩ := map_some h
    obtain ⟨a, xs, rfl, e2, e3⟩ := r1.lst
    have e4 := ints_of e3 e
    subst e4
    exact ⟨_, cr_sortedI, a, ns, rfl, SqL.of (A.sto.sub _ _ e2), fun ns' p hp hw hq => by
      rw [sortI_uniq hp hw]
      exact t.lst A (ints_rp _) hq⟩
  · obtain ⟨v, u, rfl, r1, r2⟩ := two_v r
    cases h
    obtain rfl := r1.int
    obtain rfl := r2.int
    exact ⟨_, call_max2 gd.calm, _, _, rfl, t.flat A (.int _)⟩
  · obtain ⟨v, u, rfl, r1, r2⟩ := two_v r
    cases h
    obtain rfl := r1.int
    obtain rfl := r2.int
    exact ⟨_, call_min2 gd.calm, _, _, rfl, t.flat A (.int _)⟩
  · cases h
theorem bnm_blt (o : B) : bnm o ∈ bltins ∧ bootBuiltins (bnm o) = some (bval o) := by
  cases o with
  | len => exact ⟨by decide +kernel, by decide +kernel⟩
  | sum => exact ⟨by decide +kernel, by decide +kernel⟩
  | all => exact ⟨by decide +kernel, by decide +kernel⟩
  | int => exact ⟨by decide +kernel, by decide +kernel⟩
  | list => exact ⟨by decide +kernel, by decide +kernel⟩
  | tuple => exact ⟨by decide +kernel, by decide +kernel⟩
  | max => exact ⟨by decide +kernel, by decide +kernel⟩
  | min => exact ⟨by decide +kernel, by decide +kernel⟩
  | str => exact ⟨by decide +kernel, by decide +kernel⟩
  | sorted => exact ⟨by decide +kernel, by decide +kernel⟩
theorem pe_bval {o : B} {x : Str} {p : Pos} {e : Expr} {es : List Expr} {t : TA} {r : List V → Hp → VK → Prop} (hc : CallR X (bval o) r) (hg : Gl X x ∧ okn x = true) (hm : X.mg x = none) (hv : bootBuiltins x = some (bval o)) (hn : (e :: es).all nst = true) (ha : PA X (e :: es) t) : PE X (.Call (.Name x p) (e :: es) [] pos) (tCB r t) := by
  cases o <;> first | exact pe_callB' hc hg hm hv hn ha | exact pe_callTy' hc hg hm hv hn ha
theorem s_bif {o : B} {p : Pos} {e : Expr} {es : List Expr} (F : Facts Ω Γ T k) (gd : Good Ω k N sc W X) (hg : glo sc (bnm o) = true) (hn : (e :: es).all nst = true) (ha : ∀ Z, PA X (e :: es) (tA Ω Z W fs)) :
    PE X (.Call (.Name (bnm o) p) (e :: es) [] pos) (tE Ω Z W fun s => (fs s).bind fun ds s => R.pure ((bifD s o ds).map D.pur) s) := by
  obtain ⟨h1, h2⟩ := bnm_blt o
  refine pe_by fun σ H Q ⟨s, G, as, ls, A, q⟩ => ⟨_, pe_bval call_any (glo_of gd hg) (mg_blt F gd h1) h2 hn (ha Z), oneA A q fun ds s1 vs H1 G1 as1 ls1 A1 le1 r1 o1 => ?_⟩
  obtain ⟨r, er, t⟩ := Out.pure A1 o1
  obtain ⟨pp, ep, rfl⟩ := map_some er
  exact bifD_ok gd A1 r1 ep t
theorem s_lrg {p p2 pos2 : Pos} (F : Facts Ω Γ T k) (gd : Good Ω k N sc W X) (hg : glo sc "list" = true) (hg2 : glo sc "range" = true) (hn : nst a = true) (ha : ∀ Z, PE X a (tE Ω Z W f)) :
    PE X (.Call (.Name "list" p) [.Call (.Name "range" p2) [a] [] pos2] [] pos) (tE Ω Z W fun s => (f s).bind fun x s => match x with
      | .pur (.int j) => if decide (-1000000 ≤ j) && decide (j ≤ 1000000) then .ok (.pur (.lst (rngP 0 j.toNat))) s else .st
      | _ => .st) := by
  refine pe_by fun σ H Q ⟨s, G, as, ls, A, q⟩ => ⟨_, pe_listRg gd.calm (glo_of gd hg).1 (mg_blt F gd (by decide +kernel)) (prg_1 (glo_of gd hg2).1 (mg_blt F gd (by decide +kernel)) (ha Z) (by cases a <;> first | rfl | cases hn)), one A q fun d s1 x H1 G1 as1 ls1 A1 le1 r1 o1 => ?_⟩
  split at o1
  · rename_i j
    obtain rfl := r1.int
    split at o1
    · rename_i hj
      rw [Bool.and_eq_true, decide_eq_true_eq, decide_eq_true_eq] at hj
      refine ⟨j, rfl, ⟨by omega, by omega, by omega, by omega, by omega⟩, fun q hq => Told.lst o1 A1 ?_ hq⟩
      have e1 : rgV 0 j = ((List.range j.toNat).map fun (i : Nat) => (i : Int)).map V.int := by
        unfold rgV
        rw [List.map_map, Int.sub_zero]
        exact List.map_congr_left fun i _ => by show V.int (0 + (i : Int)) = V.int (i : Int); rw [Int.zero_add]
      have e2 : rngP 0 j.toNat = ((List.range j.toNat).map fun (i : Nat) => (i : Int)).map P.int := by
        unfold rngP
        rw [List.map_map]
        exact List.map_congr_left fun i _ => by show P.int (0 + (i : Int)) = P.int (i : Int); rw [Int.zero_add]
      rw [e1, e2]
      exact ints_rp _
    · exact o1.elim
  · exact o1.elim
theorem s_listC {p : Pos} (F : Facts Ω Γ T k) (gd : Good Ω k N sc W X) (hg : glo sc "list" = true) (hn : nst a = true) (ha : ∀ Z, PE X a (tE Ω Z W f)) :
    PE X (.Call (.Name "list" p) [a] [] pos) (tE Ω Z W fun s => (f s).bind fun x s => match x with
      | .pur (.lst ps) => .ok (.cel s.m.length) { s with m := s.m ++ [.lst (ps.map D.pur)] }
      | .pur (.sq ps) => .ok (.cel s.m.length) { s with m := s.m ++ [.lst (ps.map D.pur)] }
      | _ => .st) := by
  refine pe_by fun σ H Q ⟨s, G, as, ls, A, q⟩ => ⟨_, pe_callTy' call_list_of (glo_of gd hg) (mg_blt F gd (by decide +kernel)) (by decide +kernel) (by rw [List.all_cons, hn]; rfl) (pa_cons' hn (ha Z) pa_nil), one A q fun d s1 x H1 G1 as1 ls1 A1 le1 r1 o1 => ?_⟩
  have fin : ∀ (a : Addr) (xs : List V) (ps : List P), SqL X.K H1 a xs → RpPs Ω G1 xs ps → Out Ω Z W (relD Ω) G1 as1 ls1 σ (.ok (.cel s1.m.length) { s1 with m := s1.m ++ [.lst (ps.map D.pur)] }) Q →
      ∃ p ys, [V.ref a] = [V.ref p] ∧ (SqL X.K H1 p ys ∨ SqT X.K H1 p ys) ∧ ∀ l, H1 l = none → Q (.ref l) (upd H1 l (.lst ys)) := fun a xs ps h1 h2 o => by
    refine ⟨a, xs, rfl, .inl h1, fun l hl => ?_⟩
    obtain ⟨A2, le2⟩ := A1.newC (o := .lst xs) (c := .lst (ps.map D.pur)) hl fun H' e => ⟨xs, e, RpDs.map h2⟩
    exact o _ _ _ _ _ A2 le2 (.cel (by rw [← A1.sto.len]; simp))
  split at o1
  · obtain ⟨a, xs, rfl, e2, e3⟩ := r1.lst
    exact fin a xs _ (SqL.of (A1.sto.sub _ _ e2)) e3 o1
  · obtain ⟨a, xs, rfl, e2, e3⟩ := r1.sq
    exact fin a xs _ (by rw [gd.K]; exact A1.sto.sub.seq e2) e3 o1
  · exact o1.elim
/-! methods of built-in types -/
theorem plain_base {e : Expr} {x : Str} {env : Env} {w : Sem Value} (h : base e = true) : attributeBase e x env w = w := by
  unfold attributeBase
  split
  · simp [base] at h
  · rfl
theorem kw_nil (env : Env) : (backToKw pos (keywordEach [] env)).all (fun x => x.1.isSome) = true := rfl
theorem len_star : ∀ (es : List Expr) (env : Env), (starEach es env).length = es.length
  | [], _ => rfl
  | e :: es, env => by cases e <;> (show (starEach es env).length + 1 = es.length + 1; rw [len_star es env])
theorem all_star : ∀ {es : List Expr} {env : Env}, es.all nst = true → (backTo pos (starEach es env)).all (fun x => !x.1) = true
  | [], _, _ => rfl
  | e :: es, env, h => by
    rw [List.all_cons, Bool.and_eq_true] at h
    rw [star_ne h.1]
    show (true && (backTo pos (starEach es env)).all (fun x => !x.1)) = true
    rw [all_star h.2]
    rfl
theorem pe_bmU {ap cp : Pos} {e : Expr} {es : List Expr} {to : TE} {t : TA} {Ty id : String} {r : V → List V → Hp → VK → Prop} {o : Expr} {nm : Str} (pa : PlainAttrs Ty) (slot : Slot Ty nm id) (hty : typeOf (.builtin id) = pure (.type "method_descriptor")) (hm : MtR X id r) (ho : PE X o to) (ha : PA X (e :: es) t)
    (hb : base o = true) (hl : (ap.endLine == cp.line) = true) (hn : (e :: es).all nst = true) (h20 : (e :: es).length < 20) : PE X (.Call (.Attribute o nm ap) (e :: es) [] cp) (tBM X.K Ty r to t) := by
  have hn' := hn
  rw [List.all_cons, Bool.and_eq_true] at hn'
  refine pe_bm pa slot hty hm ho ha (plain_base hb) ?_ hl (star_ne hn'.1) (star_any hn'.2)
  rw [all_star hn, kw_nil]
  simp only [Bool.true_and, decide_eq_true_eq]
  simp only [List.length_nil, List.isEmpty_nil, if_true]
  omega
theorem recv_ok {d : D} {m : M} {v : V} (A : Abs Ω Z s G as ls σ H) (r : RpD Ω G as ls v d) (h : recv s d m = true) : (m = .append ∨ m = .extend) ∧ tyV X.K "list" v H := by
  unfold recv at h
  split at h <;> first
    | (split at h
       · rename_i e
         obtain ⟨a, rfl, ea⟩ := r.iloc
         obtain ⟨_, _, vs, hv, _⟩ := A.lat _ _ _ e ea
         exact ⟨by simp, .inl ⟨rfl, vs, SqL.of hv⟩⟩
       · cases h)
    | cases h
theorem s_mth {m : M} {ap : Pos} {e : Expr} {es : List Expr} {o : Expr} (hm : mOK m = true) (gd : Good Ω k N sc W X) (ho : ∀ Z, PE X o (tE Ω Z W f)) (ha : ∀ Z, PA X (e :: es) (tA Ω Z W fs)) (hb : base o = true) (hl : (ap.endLine == pos.line) = true) (hn : (e :: es).all nst = true) (h20 : (e :: es).length < 20) :
    PE X (.Call (.Attribute o (mnm m) ap) (e :: es) [] pos) (tE Ω Z W fun s => (f s).bind fun x s => if recv s x m then (fs s).bind fun ds s => mthD s x m ds else .st) := by
  refine pe_by fun σ H Q ⟨s, G, as, ls, A, q⟩ => ?_
  have key : ∀ (id : String) (nm : Str) (h : mnm m = nm) (pa : PlainAttrs "list") (slot : Slot "list" nm id) (hty : typeOf (.builtin id) = pure (.type "method_descriptor"))
      (fin : ∀ x d s1 s2 ds vs H2 G2 as2 ls2, recv s1 d m = true → Abs Ω Z s2 G2 as2 ls2 σ H2 → RpD Ω G2 as2 ls2 x d → RpDs Ω G2 as2 ls2 vs ds → Out Ω Z W (relD Ω) G2 as2 ls2 σ (mthD s2 d m ds) Q → rUM X id x vs H2 Q),
      ∃ t', PE X (.Call (.Attribute o (mnm m) ap) (e :: es) [] pos) t' ∧ t' σ H Q := fun id nm h pa slot hty fin => by
    rw [h]
    refine ⟨_, pe_bmU pa slot hty mt_any (ho Z) (ha Z) hb hl hn h20, one A q fun d s1 x H1 G1 as1 ls1 A1 le1 r1 o1 => ?_⟩
    split at o1
    · rename_i hr
      exact ⟨(recv_ok A1 r1 hr).2, oneA A1 o1 fun ds s2 vs H2 G2 as2 ls2 A2 le2 r2 o2 => fin x d s1 s2 ds vs H2 G2 as2 ls2 hr A2 (r1.le le2) r2 o2⟩
    · exact o1.elim
  cases m with
  | append =>
    refine key "list.append" "append" rfl PySem.F.plainAttrs_list PySem.F.slot_list_append PySem.F.type_list_append fun x d s1 s2 ds vs H2 G2 as2 ls2 hr A2 r1 r2 o2 => ?_
    unfold mthD at o2
    split at o2
    · split at o2
      · rename_i ps em
        split at o2
        · rename_i hlen
          obtain ⟨a, rfl, ea⟩ := r1.iloc
          obtain ⟨_, _, ws, hv, rv⟩ := A2.lat _ _ _ em ea
          obtain ⟨v, rfl, rp⟩ := one_v' r2
          have rp := rp.ip
          refine ⟨_, mt_append, a, ws, v, rfl, rfl, hv, by rw [rv.length, ← line_eq]; exact hlen, ?_⟩
          exact o2 _ _ _ _ _ (A2.setL em ea (rv.append (.cons rp .nil))) (Le.refl _ _ _) (.pur .non)
        · exact o2.elim
      · exact o2.elim
    · contradiction
    · exact o2.elim
  | extend =>
    refine key "list.extend" "extend" rfl PySem.F.plainAttrs_list PySem.F.slot_list_extend PySem.F.type_list_extend fun x d s1 s2 ds vs H2 G2 as2 ls2 hr A2 r1 r2 o2 => ?_
    unfold mthD at o2
    split at o2
    · contradiction
    · split at o2
      · rename_i ps em
        split at o2
        · rename_i hlen
          obtain ⟨a, rfl, ea⟩ := r1.iloc
          obtain ⟨_, _, ws, hv, rv⟩ := A2.lat _ _ _ em ea
          obtain ⟨v, rfl, rp⟩ := one_v' r2
          obtain ⟨b, xs, rfl, e2, e3⟩ := rp.lst
          refine ⟨_, mt_extend, a, b, ws, xs, rfl, rfl, hv, A2.sto.sub _ _ e2, by rw [rv.length, e3.length, ← line_eq]; exact hlen, ?_⟩
          exact o2 _ _ _ _ _ (A2.setL em ea (rv.append e3)) (Le.refl _ _ _) (.pur .non)
        · exact o2.elim
      · exact o2.elim
    · exact o2.elim
  | _ => cases hm
/-! fields -/
theorem look_of {v : V} : ∀ {ns : List Str} {xs : List V} {ps : List P} {x : Str} {p : P}, ns.length = xs.length → RpPs Ω G xs ps → (ns.zip ps).lookup x = some p → ∃ v, (ns.zip xs).lookup x = some v ∧ RpP Ω G v p
  | [], _, _, _, _, _, _, h => by simp at h
  | n :: ns, [], _, _, _, h, _, _ => by simp at h
  | n :: ns, x :: xs, [], _, _, _, r, _ => by cases r
  | n :: ns, x :: xs, p :: ps, y, q, hl, r, h => by
    cases r with | cons r1 r2 =>
      rw [List.zip_cons_cons, List.lookup_cons] at h ⊢
      cases e : y == n with
      | true => rw [e] at h; cases h; exact ⟨_, rfl, r1⟩
      | false => rw [e] at h; exact look_of (v := v) (by simpa using hl) r2 h
theorem look_of2 : ∀ {fs : List (Str × D)} {xs : List V} {x : Str} {p : D}, RpDs Ω G as ls xs (fs.map (·.2)) → fs.lookup x = some p → ∃ v, ((fs.map (·.1)).zip xs).lookup x = some v ∧ RpD Ω G as ls v p
  | [], _, _, _, _, h => by simp at h
  | (n, d) :: fs, [], _, _, r, _ => by cases r
  | (n, d) :: fs, x :: xs, y, q, r, h => by
    cases r with | cons r1 r2 =>
      rw [List.lookup_cons] at h
      rw [List.map_cons, List.zip_cons_cons, List.lookup_cons]
      cases e : y == n with
      | true => rw [e] at h; cases h; exact ⟨_, rfl, r1⟩
      | false => rw [e] at h; exact look_of2 r2 h
theorem s_fld {x : Str} (F : Facts Ω Γ T k) (gd : Good Ω k N sc W X) (hb : base a = true) (ha : ∀ Z, PE X a (tE Ω Z W f)) :
    PE X (.Attribute a x pos) (tE Ω Z W fun s => (f s).bind fun v s => R.pure (fldD Γ.fa s v x) s) := by
  refine pe_by fun σ H Q ⟨s, G, as, ls, A, q⟩ => ⟨_, pe_fld (ha Z) (plain_base hb), one A q fun d s1 v H1 G1 as1 ls1 A1 le1 r1 o1 => ?_⟩
  obtain ⟨r, er, t⟩ := Out.pure A1 o1
  unfold fldD at er
  split at er
  · split at er
    · rename_i hf
      obtain ⟨p, ep, rfl⟩ := map_some er
      obtain ⟨h1, h2⟩ := F.fa _ _ hf
      have rp := r1.ip
      cases rp with | obj e1 e2 e3 =>
        obtain ⟨v, ev, rv⟩ := look_of (v := .non) e2 e3 ep
        exact ⟨_, _, _, _, v, rfl, A1.sto.sub _ _ e1, by rw [gd.K]; exact h1, by rw [gd.K]; exact h2, ev, Told.flat t A1 rv⟩
    · cases er
  · split at er
    · rename_i em
      split at er
      · rename_i hf
        obtain ⟨h1, h2⟩ := F.fa _ _ hf
        obtain ⟨a, rfl, ea⟩ := r1.icel
        obtain ⟨_, dx, vs, hv, rv⟩ := A1.sto.cel _ _ _ em ea
        obtain ⟨v, ev, rd⟩ := look_of2 rv er
        exact ⟨a, _, dx, _, v, rfl, hv, by rw [gd.K]; exact h1, by rw [gd.K]; exact h2, ev, t _ _ _ _ _ A1 (Le.refl _ _ _) (rd.mono (Same.refl _) (Pre.refl _) ⟨ls1, by simp⟩)⟩
      · cases er
    · cases er
  · cases er
end
end Ev
end

section
set_option Elab.async false
set_option linter.all false
set_option maxRecDepth 100000
set_option maxHeartbeats 4000000
/-! EvSnd5: calls of defs, making of instances, argument lists, and/or. -/
namespace Ev
open PySem PySem.Spec L2
open PyProof.Rows hiding St

section
variable {Ω : Wd} {Γ : Cfg} {T : Tab} {Z : Fr} {W : WX} {X : Cx} {k : Nat} {N : List Str} {sc : Scope} {pos : Pos} {a b c : Expr} {xs : List Expr} {f g f3 : S → R D} {fs gs : S → R (List D)}
  {s : S} {G H : Hp} {as ls : List Addr} {σ : St} {Q : VK}
theorem purs_eq : ∀ {ds : List D} {ps : List P}, purs ds = some ps → ds = ps.map D.pur
  | [], ps, e => by simp [purs] at e; subst e; rfl
  | .pur p :: ds, ps, e => by
    cases q : purs ds with
    | none => simp [purs, q] at e
    | some qs =>
      simp [purs, q] at e
      subst e
      simp [purs_eq q]
  | .cel _ :: ds, ps, e => by simp [purs] at e
  | .loc _ :: ds, ps, e => by simp [purs] at e
theorem noloc_map : ∀ (ps : List P), noloc (ps.map D.pur) = true
  | [] => rfl
  | p :: ps => noloc_map ps
theorem s_call {F : Fn} {x : Str} {p : Pos} {e : Expr} {es : List Expr} (fact : FnF Ω k x F) (gd : Good Ω k N sc W X) (hg : glo sc x = true) (hn : (e :: es).all nst = true) (ha : ∀ Z, PA X (e :: es) (tA Ω Z W fs)) :
    PE X (.Call (.Name x p) (e :: es) [] pos) (tE Ω Z W fun s => (fs s).bind fun ds s => callF F ds s) := by
  obtain ⟨a, fd, ps, hm, hk, hb, hF⟩ := fact.ex
  have hn' := hn
  rw [List.all_cons, Bool.and_eq_true] at hn'
  have hF' : FnOk X.prog X.w X.K X.mg X.base (L2.CX X.prog X.w) k a fd ps (spF Ω F) := by rw [gd.P, gd.w, gd.K, gd.mg, gd.base]; exact hF
  refine pe_by fun σ H Q ⟨s, G, as, ls, A, q⟩ => ⟨_, pe_callSD hF' (gd.room.mono (Nat.le_succ _)) (glo_of gd hg).1 (by rw [gd.mg]; exact hm) (by rw [gd.K]; exact hk) (by rw [gd.K]; exact hb) .nil (fun σ => passAt gd.tk σ) (ha Z) (okn_1 (glo_of gd hg).2).1 (star_ne hn'.1) (star_any hn'.2), oneA A q fun ds s1 vs H1 G1 as1 ls1 A1 le1 r1 o1 => ?_⟩
  rw [List.append_nil]
  unfold callF at o1
  split at o1
  · rename_i hl
    refine ⟨ds, s1.m, G1, as1, r1.anyl [] hl, hl, A1.sto, ?_⟩
    cases hr : F ds s1.m with
    | st => rw [hr] at o1; exact o1.elim
    | ok d m' =>
      rw [hr] at o1
      intro v H' G' as' T' W' r
      obtain ⟨A2, le2⟩ := A1.call T' W'
      exact o1 v H' G' as' ls1 A2 le2 (r.mono (Same.refl _) (Pre.refl _) ⟨ls1, by simp⟩)
    | ex x m' =>
      rw [hr] at o1
      intro dx H' G' as' T' W' r
      obtain ⟨A2, le2⟩ := A1.call T' W'
      exact o1 dx H' G' as' ls1 A2 le2 r
  · exact o1.elim
theorem as_nil {m : List Cell} {G H : Hp} {as : List Addr} (T : Sto Ω G as [] H) : as = [] := List.length_eq_zero_iff.mp (by rw [T.len]; rfl)
theorem s_calp {F : Fn} {x : Str} {p : Pos} {e : Expr} {es : List Expr} (fact : FnF Ω k x F) (gd : Good Ω k N sc W X) (hg : glo sc x = true) (hn : (e :: es).all nst = true) (ha : ∀ Z, PA X (e :: es) (tA Ω Z W fs)) :
    PE X (.Call (.Name x p) (e :: es) [] pos) (tE Ω Z W fun s => (fs s).bind fun ds s => calpF F ds s) := by
  obtain ⟨a, fd, ps, hm, hk, hb, hF⟩ := fact.ex
  have hn' := hn
  rw [List.all_cons, Bool.and_eq_true] at hn'
  have hF' : FnOk X.prog X.w X.K X.mg X.base (L2.CX X.prog X.w) k a fd ps (spF Ω F) := by rw [gd.P, gd.w, gd.K, gd.mg, gd.base]; exact hF
  refine pe_by fun σ H Q ⟨s, G, as, ls, A, q⟩ => ⟨_, pe_callSD hF' (gd.room.mono (Nat.le_succ _)) (glo_of gd hg).1 (by rw [gd.mg]; exact hm) (by rw [gd.K]; exact hk) (by rw [gd.K]; exact hb) .nil (fun σ => passAt gd.tk σ) (ha Z) (okn_1 (glo_of gd hg).2).1 (star_ne hn'.1) (star_any hn'.2), oneA A q fun ds s1 vs H1 G1 as1 ls1 A1 le1 r1 o1 => ?_⟩
  rw [List.append_nil]
  unfold calpF at o1
  split at o1
  · exact o1.elim
  · rename_i qs hq
    have e := purs_eq hq
    have rp := r1.purs hq
    refine ⟨ds, [], G1, [], by rw [e]; exact RpDs.map rp, by rw [e]; exact noloc_map qs, ⟨A1.sto.sub, rfl, List.nodup_nil, fun k c a h => by simp at h⟩, ?_⟩
    cases hr : F ds [] with
    | st => rw [hr] at o1; exact o1.elim
    | ok d m' =>
      rw [hr] at o1
      cases d with
      | pur p =>
        intro v H' G' as' T' W' r
        obtain ⟨A2, le2⟩ := A1.calx T'.sub W' fun b z => nomatch z
        exact o1 v H' G' as1 ls1 A2 le2 (.pur r.ip)
      | cel _ => exact o1.elim
      | loc _ => exact o1.elim
    | ex x m' =>
      rw [hr] at o1
      intro dx H' G' as' T' W' r
      obtain ⟨A2, le2⟩ := A1.calx T'.sub W' fun b z => nomatch z
      exact o1 dx H' G' as1 ls1 A2 le2 r
theorem s_calp0 {F : Fn} {x : Str} {p : Pos} (fact : FnF Ω k x F) (gd : Good Ω k N sc W X) (hg : glo sc x = true) : PE X (.Call (.Name x p) [] [] pos) (tE Ω Z W fun s => clp0F F s) := by
  obtain ⟨fa, fd, ps, hm, hk, hb, hF⟩ := fact.ex
  have hF' : FnOk X.prog X.w X.K X.mg X.base (L2.CX X.prog X.w) k fa fd ps (spF Ω F) := by rw [gd.P, gd.w, gd.K, gd.mg, gd.base]; exact hF
  refine pe_by fun σ H Q ⟨s, G, as, ls, A, o1⟩ => ⟨_, pe_call0 (E := E0) hF' (gd.room.mono (Nat.le_succ _)) (glo_of gd hg).1 (by rw [gd.mg]; exact hm) (by rw [gd.K]; exact hk) (by rw [gd.K]; exact hb) .nil passL (okn_1 (glo_of gd hg).2).1, ?_⟩
  refine ⟨[], [], G, [], .nil, rfl, ⟨A.sto.sub, rfl, List.nodup_nil, fun k c a h => by simp at h⟩, ?_⟩
  unfold clp0F at o1
  cases hr : F [] [] with
  | st => rw [hr] at o1; exact o1.elim
  | ex x m' => rw [hr] at o1; exact o1.elim
  | ok d m' =>
    rw [hr] at o1
    cases d with
    | pur p =>
      intro v H' G' as' T' W' r
      obtain ⟨A2, le2⟩ := A.calx T'.sub W' fun b z => nomatch z
      exact o1 v H' G' as ls A2 le2 (.pur r.ip)
    | cel _ => exact o1.elim
    | loc _ => exact o1.elim
theorem pfs_of : ∀ {fs : List (Str × D)} {ns : List Str} {ps : List P} {vs : List V}, pfs fs = some (ns, ps) → RpDs Ω G as ls vs (fs.map (·.2)) → fs.map (·.1) = ns ∧ RpPs Ω G vs ps
  | [], ns, ps, vs, h, r => by
    simp [pfs] at h
    obtain ⟨rfl, rfl⟩ := h
    cases r
    exact ⟨rfl, .nil⟩
  | (f, .pur p) :: fs, ns, ps, vs, h, r => by
    cases q : pfs fs with
    | none => simp [pfs, q] at h
    | some u =>
      obtain ⟨ms, qs⟩ := u
      simp [pfs, q] at h
      obtain ⟨rfl, rfl⟩ := h
      cases r with | cons r1 r2 =>
        obtain ⟨e, rp⟩ := pfs_of q r2
        exact ⟨by rw [List.map_cons, e], .cons r1.ip rp⟩
  | (f, .cel p) :: fs, ns, ps, vs, h, r => by simp [pfs] at h
  | (f, .loc p) :: fs, ns, ps, vs, h, r => by simp [pfs] at h
/-- C(..), what its __init__ raises is wished for at the caller's slots -/
def tMkS (C : Addr) (sp : Sp) (E : St → XK) (t : TA) : TE := fun σ H Q => t σ H fun vs H1 => ∀ x dx, H1 x = none → H1 dx = none → dx ≠ x → sp (.ref x :: vs) (upd (upd H1 dx (.own x)) x (.ins C dx [])) (fun v H2 => v = .non ∧ Q (.ref x) H2) (E σ)
theorem run_mkS {CX : CXT} {fI C : Addr} {fd : FuncData} {ps : List Str} {sp : Sp} {E : St → XK} {pins : List (Addr × Obj)} {σ : St} {H : Hp} {s : Shared} {Q : VK} {us : List Value} {vs : List V} (M : Mk X.K C fI) (F : FnOk X.prog X.w X.K X.mg X.base CX k fI fd ps sp) (hr : Room (k + 1) X.A) (hb : Binds X.K fd ps [])
    (hx : PassesAt CX X σ (E σ)) (I : Inv X pins σ H s) (r : Vals vs us)
    (h : ∀ x dx, H x = none → H dx = none → dx ≠ x → sp (.ref x :: vs) (upd (upd H dx (.own x)) x (.ins C dx [])) (fun v H2 => v = .non ∧ Q (.ref x) H2) (E σ)) : wpAny (model X.prog X.w) X.A (call (.ref C) us) (EP X pins σ Q) X.xe s := by
  have q := h (s.heap.objs.size + 1) s.heap.objs.size (I.hok.fresh (Nat.le_succ _)) (I.hok.fresh (Nat.le_refl _)) (Nat.ne_of_lt (Nat.lt_succ_self _))
  have J := Inv.made (C := C) I
  have rv : Vals (V.ref (s.heap.objs.size + 1) :: vs) (Value.ref (s.heap.objs.size + 1) :: us) := .cons rfl r
  have hl : (Value.ref (s.heap.objs.size + 1) :: us ++ []).length = ps.length := by
    rw [List.append_nil, ← rv.length]
    exact F.len _ _ _ _ q
  refine wpAny_call (make_map (f := fI) I.kIn M.makes M.init (beq_iff_eq.mp M.fn) (codeAny_mono (F.run _ X.stack _ _ ⟨Value.ref (s.heap.objs.size + 1) :: us, []⟩ (Value.ref (s.heap.objs.size + 1) :: us ++ []) _ _ (E σ) (hr.make C us [])
    (J.env0.make C us []) (hb _ (Value.ref (s.heap.objs.size + 1) :: us) J.kIn hl) (by rw [List.append_nil]; exact rv) q) fun r s' z => ?_))
  cases r with
  | error e => exact hx pins _ _ e s' J z
  | ok fl =>
    cases fl with
    | ret u =>
      obtain ⟨v, H', J', rv', ev, q'⟩ := J.after z
      subst ev
      exact ⟨rv', V.ref (s.heap.objs.size + 1), H', J', rfl, q'⟩
    | next => exact False.elim z
    | brk => exact False.elim z
    | cont => exact False.elim z
theorem pe_mkS {CX : CXT} {x : Str} {p : Pos} {e : Expr} {es : List Expr} {fI C : Addr} {fd : FuncData} {ps : List Str} {sp : Sp} {E : St → XK} {t : TA} (M : Mk X.K C fI) (F : FnOk X.prog X.w X.K X.mg X.base CX k fI fd ps sp) (hr : Room (k + 1) X.A) (hg : Gl X x) (hm : X.mg x = some (.ref C)) (hb : Binds X.K fd ps [])
    (hx : ∀ σ, PassesAt CX X σ (E σ)) (ha : PA X (e :: es) t) (hdb : (x == ("__debug__" : Str)) = false) (he : starEach (e :: es) X.env = (false, eval e X.env) :: starEach es X.env) (hpl : (backTo pos (starEach es X.env)).any (·.1) = false) :
    PE X (.Call (.Name x p) (e :: es) [] pos) (tMkS C sp E t) := by
  refine ⟨fun pins s σ H Q I h => ?_⟩
  refine wpAny_Call_Name_kw (ld_glob I hg hm ?_ hdb)
  refine PySem.W.callWith_K (h₀ := X.base) I.ok.mod.kin M.kp (thn (ha.run pos pins s σ H _ I h) fun us s1 ⟨vs, H1, I1, r, q⟩ => ⟨I1.kIn, ?_⟩) he hpl
  exact run_mkS M F hr hb (hx σ) I1 r q
theorem s_mkf {F : Fn} {x : Str} {p : Pos} {e : Expr} {es : List Expr} {c : Nat} (fact : MkFct Ω k x (Ω.ca c) F) (gd : Good Ω k N sc W X) (hg : glo sc x = true) (hn : (e :: es).all nst = true) (ha : ∀ Z, PA X (e :: es) (tA Ω Z W fs)) :
    PE X (.Call (.Name x p) (e :: es) [] pos) (tE Ω Z W fun s => (fs s).bind fun ds s => mkfF c F ds s) := by
  obtain ⟨fI, fd, ps, hm, hk, hb, hF⟩ := fact.ex
  have hn' := hn
  rw [List.all_cons, Bool.and_eq_true] at hn'
  have hF' : FnOk X.prog X.w X.K X.mg X.base (L2.CX X.prog X.w) k fI fd ps (spF Ω F) := by rw [gd.P, gd.w, gd.K, gd.mg, gd.base]; exact hF
  refine pe_by fun σ H Q ⟨s, G, as, ls, A, q⟩ => ⟨_, pe_mkS (by rw [gd.K]; exact hk) hF' gd.room (glo_of gd hg).1 (by rw [gd.mg]; exact hm) (by rw [gd.K]; exact hb) (fun σ => passAt gd.tk σ) (ha Z) (okn_1 (glo_of gd hg).2).1 (star_ne hn'.1) (star_any hn'.2), oneA A q fun ds s1 vs H1 G1 as1 ls1 A1 le1 r1 o1 => ?_⟩
  intro x dx hx hdx hne
  unfold mkfF at o1
  split at o1
  · exact o1.elim
  · rename_i qs hq
    have e := purs_eq hq
    have rp := r1.purs hq
    -- the heap with the new instance
    have hxd : upd H1 dx (.own x) x = none := (upd_ne hne.symm).trans hx
    have A2 : Abs Ω Z s1 G1 as1 ls1 σ (upd (upd H1 dx (.own x)) x (.ins (Ω.ca c) dx [])) := A1.other fun b hb => by
      have n1 : ∀ q, H1 q = none → b ≠ q := fun q hq z => by
        subst z
        rcases hb with h | h | h | h
        · exact h (same_none A1.sto.sub hq)
        · exact A1.nas hq h
        · exact A1.nls hq h
        · exact h (A1.unew hq)
      rw [upd_ne (n1 x hx), upd_ne (n1 dx hdx)]
    have gx : G1 x = none := same_none A1.sto.sub hx
    have T0 : Sto Ω G1 [x] [.ins c []] (upd (upd H1 dx (.own x)) x (.ins (Ω.ca c) dx [])) := ⟨A2.sto.sub, rfl, by simp, fun j cc a h1 h2 => by
      cases j with
      | zero =>
        simp at h1 h2
        subst h1 h2
        exact ⟨gx, dx, [], upd_same, .nil⟩
      | succ j => simp at h1⟩
    refine ⟨.cel 0 :: ds, [.ins c []], G1, [x], .cons (.cel rfl) (by rw [e]; exact RpDs.map rp), by rw [e]; exact noloc_map qs, T0, ?_⟩
    cases hr : F (.cel 0 :: ds) [.ins c []] with
    | st => rw [hr] at o1; exact o1.elim
    | ex xx m' =>
      rw [hr] at o1
      intro dx' H' G' as' T' W' r
      have nx : ∀ b ∈ [x], b ∉ as1 ∧ b ∉ ls1 ∧ Z.U b = none := fun b hb => by
        rw [List.mem_singleton.mp hb]
        exact ⟨A1.nas hx, A1.nls hx, A1.unew hx⟩
      obtain ⟨A3, le3⟩ := A2.calx T'.sub W' nx
      exact o1 dx' H' G' as1 ls1 A3 le3 r
    | ok d m' =>
      rw [hr] at o1
      split at o1
      · rename_i c' fs' heq
        cases heq
        split at o1
        · rename_i hc
          have hc := beq_iff_eq.mp hc
          subst hc
          split at o1
          · rename_i ns ps hp
            intro v H' G' as' T' W' r
            obtain ⟨l, hl, hl2⟩ := W'.a
            have eas : as' = [x] := by
              have z := T'.len
              rw [hl] at z
              simp at z
              rw [hl, z]
              rfl
            subst eas
            obtain ⟨gx', dx', ws, hv, rv⟩ := T'.cel 0 _ x rfl rfl
            obtain ⟨en, rpp⟩ := pfs_of hp rv
            rw [en] at hv
            have nx : ∀ b ∈ [x], b ∉ as1 ∧ b ∉ ls1 ∧ Z.U b = none := fun b hb => by
              rw [List.mem_singleton.mp hb]
              exact ⟨A1.nas hx, A1.nls hx, A1.unew hx⟩
            obtain ⟨A3, le3⟩ := A2.calx T'.sub W' nx
            obtain ⟨n1, n2, n3⟩ := nx x (by simp)
            obtain ⟨A4, le4⟩ := A3.adopt hv gx' n1 n2 n3
            refine ⟨r.non, o1 _ _ _ _ _ A4 (le3.trans le4) (.pur (.obj upd_same ?_ (RpPs.mono le4.g _ _ rpp)))⟩
            have h1 := rv.length
            rw [List.length_map] at h1
            rw [h1, ← en, List.length_map]
          · exact o1.elim
        · exact o1.elim
      · rename_i heq
        cases heq
      · exact o1.elim
/-! argument lists -/
theorem s_nil : PA X [] (tA Ω Z W fun s => .ok [] s) := pa_by fun σ H Q ⟨s, G, as, ls, A, q⟩ => ⟨_, pa_nil, q.tell A .nil⟩
theorem s_cons {e : Expr} {es : List Expr} (hn : nst e = true) (ha : ∀ Z, PE X e (tE Ω Z W f)) (hr : ∀ Z, PA X es (tA Ω Z W fs)) :
    PA X (e :: es) (tA Ω Z W fun s => (f s).bind fun d s => (fs s).bind fun ds s => .ok (d :: ds) s) := by
  refine pa_by fun σ H Q ⟨s, G, as, ls, A, q⟩ => ⟨_, pa_cons' hn (ha Z) (hr Z), one A q fun d s1 x H1 G1 as1 ls1 A1 le1 r1 o1 => oneA A1 o1 fun ds s2 vs H2 G2 as2 ls2 A2 le2 r2 o2 => ?_⟩
  exact o2.tell A2 (.cons (r1.le le2) r2)
theorem pa_star {e : Expr} {es : List Expr} {te : TE} {t : TA} {p : Pos} (he : PE X e te) (hr : PA X es t) :
    PA X (.Starred e p :: es) (fun σ H Q => te σ H fun x H1 => ∃ a ys, x = .ref a ∧ (SqL X.K H1 a ys ∨ SqT X.K H1 a ys) ∧ t σ H1 fun xs H2 => Q (ys ++ xs) H2) := by
  refine ⟨fun pos pins s σ H Q I h => ?_⟩
  show wpAny _ _ (spliced ((true, do let v ← eval e X.env; standAt pos; pure v) :: backTo pos (starEach es X.env))) _ _ s
  rw [spliced]
  refine wpAny_bind (wpAny_bind (thn (he.run pins s σ H _ I h) fun u s1 ⟨x, H1, I1, r1, q1⟩ => ?_))
  obtain ⟨a, ys, ex, hs, q⟩ := q1
  subst ex
  cases r1
  refine wpAny_bind (wpAny_standAt (wpAny_pure ?_))
  have fin : ∀ (T : String) (o : Obj) (items : List Value) (n : Nat), (T = "list" ∨ T = "tuple") → s1.heap.get? a = some o → o.cls = .type T → o.data = .seq items.toArray n → ys.length ≤ sizeLine → Vals ys items →
      (∃ id, typeLookup (.type T) "__iter__" = pure (some (.builtin id))) →
      wpAny (model X.prog X.w) X.A (do
        let here ← if true = true then do
            if ← notIterableAtAll (.ref a) then
              rule "star.not-iterable"; raiseError "TypeError" s!"Value after * must be an iterable, not {← typeNameOf (.ref a)}"
            collect (.ref a)
          else pure [.ref a]
        return here ++ (← holding here (spliced (backTo pos (starEach es X.env))))) (AP X pins σ Q) X.xe s1 := fun T o items n hT ho hc hd hl rv ⟨id, hi⟩ => by
    have rl := rv.length
    have cont : wpAny (model X.prog X.w) X.A (collect (.ref a)) (fun here s2 => wpAny (model X.prog X.w) X.A (do let rest ← holding here (spliced (backTo pos (starEach es X.env))); pure (here ++ rest)) (AP X pins σ Q) X.xe s2) X.xe s1 := by
      refine wpAny_collect_seq a hT ho hc hd (fun h' hk => ?_) (by rw [List.size_toArray]; omega)
      have I2 : Inv X pins σ H1 { s1 with heap := h' } := I1.kept (t' := s1.toks) hk
      refine wpAny_bind (wpAny_holding (thn (hr.run pos pins _ σ H1 _ I2 q) fun us s3 ⟨zs, H3, I3, r3, q3⟩ => wpAny_pure ?_))
      exact ⟨ys ++ zs, H3, I3, rv.append r3, q3⟩
    refine wpAny_bind ?_
    unfold notIterableAtAll
    refine wpAny_bind (wpAny_specialOf ⟨o, ho, hc⟩ hi ?_)
    show wpAny _ _ (pure false) _ _ _
    refine wpAny_pure ?_
    dsimp only
    rw [if_neg Bool.false_ne_true]
    exact wpAny_bind cont
  rcases hs with hs | hs
  · obtain ⟨its, rv, ⟨o, n, e1, e2, _, e3⟩, hz⟩ := I1.list hs
    exact fin "list" o its n (.inl rfl) e1 e2 e3 hz rv ⟨_, PySem.F.slot_list_iter.lookup⟩
  · obtain ⟨its, rv, ⟨o, e1, e2, n, e3⟩, hz⟩ := I1.tuple hs
    exact fin "tuple" o its n (.inr rfl) e1 e2 e3 hz rv ⟨_, PySem.F.slot_tuple_iter.lookup⟩
theorem s_star {e : Expr} {es : List Expr} {p : Pos} (gd : Good Ω k N sc W X) (ha : ∀ Z, PE X e (tE Ω Z W f)) (hr : ∀ Z, PA X es (tA Ω Z W fs)) :
    PA X (.Starred e p :: es) (tA Ω Z W fun s => (f s).bind fun d s => match d with
      | .pur (.lst ps) => (fs s).bind fun ds s => .ok (ps.map D.pur ++ ds) s
      | .pur (.tup ps) => (fs s).bind fun ds s => .ok (ps.map D.pur ++ ds) s
      | _ => .st) := by
  refine pa_by fun σ H Q ⟨s, G, as, ls, A, q⟩ => ⟨_, pa_star (ha Z) (hr Z), one A q fun d s1 x H1 G1 as1 ls1 A1 le1 r1 o1 => ?_⟩
  split at o1
  · obtain ⟨a, ys, rfl, e1, e2⟩ := r1.lst
    exact ⟨a, ys, rfl, .inl (SqL.of (A1.sto.sub _ _ e1)), oneA A1 o1 fun ds s2 vs H2 G2 as2 ls2 A2 le2 r2 o2 => o2.tell A2 ((RpDs.map (RpPs.mono le2.g _ _ e2)).append r2)⟩
  · obtain ⟨a, ys, rfl, e1, e2⟩ := r1.tup
    exact ⟨a, ys, rfl, .inr (by rw [gd.K]; exact sqT_mono A1.sto.sub e1), oneA A1 o1 fun ds s2 vs H2 G2 as2 ls2 A2 le2 r2 o2 => o2.tell A2 ((RpDs.map (RpPs.mono le2.g _ _ e2)).append r2)⟩
  · exact o1.elim
/-! and, or -/
def andF (f g : S → R D) : S → R D := fun s => (f s).bind fun d s => match d with
  | .pur (.bl true) => g s
  | .pur (.bl false) => .ok (.pur (.bl false)) s
  | _ => .st
def orF (f g : S → R D) : S → R D := fun s => (f s).bind fun d s => match d with
  | .pur (.bl false) => g s
  | .pur (.bl true) => .ok (.pur (.bl true)) s
  | _ => .st
variable {rest : List Expr}
theorem s_and (ha : ∀ Z, PE X a (tE Ω Z W f)) (hb : ∀ Z, PE X (.BoolOp .And (b :: rest) pos) (tE Ω Z W g)) : PE X (.BoolOp .And (a :: b :: rest) pos) (tE Ω Z W (andF f g)) := by
  refine pe_by fun σ H Q ⟨s, G, as, ls, A, q⟩ => ⟨_, pe_and (ha Z) (hb Z), one A q fun d s1 x H1 G1 as1 ls1 A1 le1 r1 o1 => ?_⟩
  split at o1
  · obtain rfl := r1.bl
    exact ⟨true, rfl, iteT ⟨s1, G1, as1, ls1, A1, o1⟩⟩
  · obtain rfl := r1.bl
    exact ⟨false, rfl, iteF (o1.tell A1 (.pur (.bl _)))⟩
  · exact o1.elim
theorem s_or (ha : ∀ Z, PE X a (tE Ω Z W f)) (hb : ∀ Z, PE X (.BoolOp .Or (b :: rest) pos) (tE Ω Z W g)) : PE X (.BoolOp .Or (a :: b :: rest) pos) (tE Ω Z W (orF f g)) := by
  refine pe_by fun σ H Q ⟨s, G, as, ls, A, q⟩ => ⟨_, pe_or (ha Z) (hb Z), one A q fun d s1 x H1 G1 as1 ls1 A1 le1 r1 o1 => ?_⟩
  split at o1
  · obtain rfl := r1.bl
    exact ⟨false, rfl, iteF ⟨s1, G1, as1, ls1, A1, o1⟩⟩
  · obtain rfl := r1.bl
    exact ⟨true, rfl, iteT (o1.tell A1 (.pur (.bl _)))⟩
  · exact o1.elim
theorem t_and (ha : ∀ Z, PT X a (tT Ω Z W f)) (hb : ∀ Z, PW X (.BoolOp .And (b :: rest) pos) (tT Ω Z W g)) : PW X (.BoolOp .And (a :: b :: rest) pos) (tT Ω Z W (andF f g)) := by
  refine pw_by fun σ H Q ⟨s, G, as, ls, A, q, hq⟩ => ⟨_, pw_and (ha Z) (hb Z), oneT A q (fun d s' e h => ?_) fun b s1 H1 G1 as1 ls1 e A1 le1 o1 => ?_⟩
  · split at h
    · exact ⟨_, rfl⟩
    · exact ⟨_, rfl⟩
    · exact absurd rfl h
  · cases b with
    | true =>
      refine iteT ⟨s1, G1, as1, ls1, A1, o1, fun d s' e' => hq d s' ?_⟩
      unfold andF
      rw [e]
      exact e'
    | false => exact iteF (o1.tell A1 rfl)
theorem t_or (ha : ∀ Z, PT X a (tT Ω Z W f)) (hb : ∀ Z, PW X (.BoolOp .Or (b :: rest) pos) (tT Ω Z W g)) : PW X (.BoolOp .Or (a :: b :: rest) pos) (tT Ω Z W (orF f g)) := by
  refine pw_by fun σ H Q ⟨s, G, as, ls, A, q, hq⟩ => ⟨_, pw_or (ha Z) (hb Z), oneT A q (fun d s' e h => ?_) fun b s1 H1 G1 as1 ls1 e A1 le1 o1 => ?_⟩
  · split at h
    · exact ⟨_, rfl⟩
    · exact ⟨_, rfl⟩
    · exact absurd rfl h
  · cases b with
    | false =>
      refine iteF ⟨s1, G1, as1, ls1, A1, o1, fun d s' e' => hq d s' ?_⟩
      unfold orF
      rw [e]
      exact e'
    | true => exact iteT (o1.tell A1 rfl)
end
end Ev
end

section
set_option Elab.async false
set_option linter.all false
set_option maxRecDepth 100000
set_option maxHeartbeats 2000000
/-! EvEnu: enumerate of a tuple. -/
namespace PySem
theorem meets_enumerate_new1 {v : Value} {o : Obj} {H : Heap → Prop} (B : Begins v o H) :
    Meets (Builtin.«enumerate.__new__» ⟨[.type "enumerate", v], []⟩) (fun _ R s => H s.heap ∧
      R (.ok (.ret (.ref (s.heap.push o).objs.size))) { s with heap := (s.heap.push o).push { cls := .type "enumerate", data := .fields #[.none, .bool false, .ref s.heap.objs.size, rawInt 0, .none, .none] } }) :=
  .of_wp fun prog w A R s h => by
    obtain ⟨hp, g, d, tk, os⟩ := s; obtain ⟨h1, h⟩ := h
    have hsub := sub_enumerate
    have q1 : ∀ {A' : Around} {E : Value → Shared → Prop} {Q : Value → Shared → Prop}, Q (.ref hp.objs.size) ⟨hp.push o, g, d, tk, os⟩ → wpAny (model prog w) A' (pyIter v) Q E ⟨hp, g, d, tk, os⟩ :=
      fun q => B.iter prog w _ _ ⟨hp, g, d, tk, os⟩ _ h1 q
    wp_walk using q1
    refine wpAny_stack_any fun st => wpAny_pure ?_
    split
    · rename_i c _ _ _ _ _
      cases (c == Value.type "enumerate")
      · wp_walk using q1
        exact ⟨_, rfl, h⟩
      · wp_walk using q1
        exact ⟨_, rfl, h⟩
    · wp_walk using q1
      exact ⟨_, rfl, h⟩
section
variable {prog : Program} {w : World} {A : Around} {E : Value → Shared → Prop} {s : Shared}
theorem enum_begins1 {v : Value} {o : Obj} {H : Heap → Prop} {Q : Value → Shared → Prop} (B : Begins v o H) (h1 : H s.heap)
    (h : ∀ h', IsEnum h' (s.heap.objs.size + 1) s.heap.objs.size 0 .none → h'.get? s.heap.objs.size = some o → h'.objs.size = s.heap.objs.size + 2 →
      (∀ b o, s.heap.get? b = some o → h'.get? b = some o) → Q (.ref (s.heap.objs.size + 1)) { s with heap := h' }) :
    wpAny (model prog w) A (call (.type "enumerate") [v]) Q E s := by
  refine callType_new F.called_enumerate (by decide) (F.typeCall_enumerate_1 _) (F.newCall_enumerate_1 _) (fun obj => F.args_object_init_2 obj _) F.entry_enumerate_new
    (meets_enumerate_new1 B) ⟨h1, ?_⟩
  have hz : (s.heap.push o).objs.size = s.heap.objs.size + 1 := Heap.size_push ..
  show _ ∧ _
  rw [hz]
  have he : IsEnum ((s.heap.push o).push { cls := .type "enumerate", data := .fields #[.none, .bool false, .ref s.heap.objs.size, rawInt 0, .none, .none] }) (s.heap.objs.size + 1) s.heap.objs.size 0 .none := by
    have := Heap.get?_push_size (s.heap.push o) (o := { cls := .type "enumerate", data := .fields #[.none, .bool false, .ref s.heap.objs.size, rawInt 0, .none, .none] }) rfl
    rw [hz] at this; exact this
  refine ⟨⟨_, he, rfl⟩, h _ he (Heap.get?_push_of_some _ (Heap.get?_push_size _ B.free)) (by rw [Heap.size_push, hz]) fun b o x => Heap.get?_push_of_some _ (Heap.get?_push_of_some _ x)⟩
end
end PySem
namespace L2
open PySem PySem.Spec PyProof.Rows
def Itet (K : PySem.W.Frag) (a : Addr) : It :=
  ⟨fun i H => ∃ (xs : List V) (x : V), SqT K H a xs ∧ xs[i]? = some x, fun i H v H' => ∃ T x, v = .ref T ∧ H T = none ∧ H' = upd H T (.tup [.int (i : Nat), x]) ∧ ∀ xs, SqT K H a xs → xs[i]? = some x, fun i H => ∃ xs : List V, SqT K H a xs ∧ xs.length = i⟩
theorem turn_enumT {P : Program} {w : World} {K : PySem.W.Frag} {elts : List Expr} {kk : Nat} {tpos : Pos} (a e it : Addr) :
    Turn P w K (.Tuple elts kk tpos) (Itet K a) [e, it] e (fun i h => (∃ old, IsEnum h e it ((i : Nat) : Int) old) ∧ h.IsTupleIter it a i ∧ e ≠ it) where
  mem := by simp
  obj := fun i h st b hb => by
    obtain ⟨⟨old, he⟩, ⟨o, ho, hc, hd⟩, _⟩ := st
    have e' : b = e ∨ b = it := by simpa using hb
    rcases e' with z | z
    · rw [z]; exact ⟨_, he, fun v q => nomatch q⟩
    · rw [z]; exact ⟨o, ho, fun v q => by rw [hd] at q; cases q⟩
  keep := fun i h h' st k => let ⟨⟨old, he⟩, hi, hne⟩ := st; ⟨⟨old, k e (by simp) _ he⟩, hi.at fun o q => k it (by simp) o q, hne⟩
  item := by
    intro X hP hw hK hc i pins s σ H E I hf st hg
    subst hP hw hK
    obtain ⟨⟨old, he⟩, hit, hne⟩ := st
    obtain ⟨xs, x, hq, hx⟩ := hg
    obtain ⟨its, rv, p, hz⟩ := I.tuple hq
    obtain ⟨u, hu, ru⟩ := rv.get hx
    have hel : e < s.heap.objs.size := Heap.lt_size he
    have hil : it < s.heap.objs.size := by obtain ⟨_, q, _⟩ := hit; exact Heap.lt_size q
    have eit : e ≠ a := fun z => by
      obtain ⟨o, ho, hc, _⟩ := id p
      rw [← z] at ho
      have he' : s.heap.get? e = some _ := he
      rw [he'] at ho
      cases ho
      have hc : Value.type "enumerate" = Value.type "tuple" := hc
      exact absurd hc (by decide)
    have ait : a ≠ it := fun z => by
      obtain ⟨o, ho, hc, _⟩ := id p
      obtain ⟨o2, ho2, hc2, _⟩ := id hit
      rw [z, ho2] at ho
      cases ho
      rw [hc2] at hc
      exact absurd hc (by decide)
    have hil2 : i < its.toArray.size := by
      have := (List.getElem?_eq_some_iff.mp hu).1
      simpa using this
    refine wpAny_pyNext_enum_itemD (Draws.tuple (prog := X.prog) (w := X.w) (A := X.A.in1) (show X.A.in1.handled = none from I.ok.hd hc) it a ait its.toArray) he ⟨hit, p⟩ hil2 hne (by simp [hne, eit]) fun y h' tk hPy ho hs' hT hsz hk => ?_
    have ey : y = u := by
      have h1 : its[i]? = some y := by simpa using hPy
      rw [hu] at h1
      exact (Option.some.inj h1).symm
    subst ey
    obtain ⟨hit', _⟩ := hs'
    refine ⟨_, rfl, wpAny_letOwnedTupleGo_enum (s := { s with heap := h', toks := tk + 1 }) ho fun h'' he' sb => ?_⟩
    have hT2 : h''.get? s.heap.objs.size = some { cls := .type "tuple", data := .seq #[.int i tk, y] } := (sb.2 _ (Nat.ne_of_gt hel)).trans hT
    have new : ObjOk X.prog X.w (upd H s.heap.objs.size (.tup [.int (i : Nat), x])) h'' s.heap.objs.size (.tup [.int (i : Nat), x]) :=
      ⟨by show 2 ≤ sizeLine; decide, [.int i tk, y], .cons ⟨_, rfl⟩ (.cons ru .nil), ⟨_, hT2, rfl, _, rfl⟩⟩
    have I1 : Inv X pins σ (upd H s.heap.objs.size (.tup [.int (i : Nat), x])) { s with heap := h'', toks := tk + 1 } :=
      I.turnedNew (ch := [e, it]) (fun b ob hb q => (sb.2 b (fun z => hb (by simp [z]))).trans (hk b ob (fun z => hb (by simp [z])) (fun z => hb (by simp [z])) q)) hf (Nat.le_refl _) new
    refine ⟨.ref s.heap.objs.size, _, I1, rfl, ⟨_, x, rfl, I.hok.fresh (Nat.le_refl _), rfl, fun ys hy => by rw [I.tuple_inj hy hq]; exact hx⟩, ⟨⟨y, ?_⟩, hit'.at fun o q => (sb.2 it (Ne.symm hne)).trans q, hne⟩, fun b hb => ?_⟩
    · have e1 : ((i + 1 : Nat) : Int) = (i : Int) + 1 := by omega
      rw [e1]; exact he'
    · have hb' : b < s.heap.objs.size := by
        have e' : b = e ∨ b = it := by simpa using hb
        rcases e' with z | z
        · rw [z]; exact hel
        · rw [z]; exact hil
      rw [upd_ne (Nat.ne_of_lt hb')]
      exact (hf b hb).1
  done := by
    intro X hP hw hK hc i pins s σ H E I hf st hg
    subst hP hw hK
    obtain ⟨⟨old, he⟩, hit, hne⟩ := st
    obtain ⟨xs, hq, hx⟩ := hg
    obtain ⟨its, rv, p, hz⟩ := I.tuple hq
    obtain ⟨f0, f1, f2, f3, f4, f5⟩ := hf it (by simp)
    have hl := rv.length
    have ait : a ≠ it := fun z => by
      obtain ⟨o, ho, hc, _⟩ := id p
      obtain ⟨o2, ho2, hc2, _⟩ := id hit
      rw [z, ho2] at ho
      cases ho
      rw [hc2] at hc
      exact absurd hc (by decide)
    have hi : its.toArray.size = i := by rw [List.size_toArray, ← hl]; exact hx
    exact wpAny_pyNext_enum_endD (Draws.tuple (prog := X.prog) (w := X.w) (A := X.A.in1) (show X.A.in1.handled = none from I.ok.hd hc) it a ait its.toArray) he ⟨hi ▸ hit, p⟩ fun h' eb => ⟨rfl, I.turned (t' := s.toks) (fun b o hb q => eb b o hb q) f0 f1 f3 f4 f5⟩
  self := fun A i s Q E st h => let ⟨⟨_, he⟩, _⟩ := st; wpAny_pyIter_enum he h
def iEnumT (K : PySem.W.Frag) (ta : TA) : TI := fun σ H R => ta σ H fun vs H1 => ∃ a xs, vs = [.ref a] ∧ SqT K H1 a xs ∧ R (Itet K a) H1
theorem pi_enumT {X : Cx} {e : Expr} {ta : TA} {p pos tpos : Pos} {elts : List Expr} {kk : Nat} (hg : Gl X "enumerate") (hm : X.mg "enumerate" = none) (ha : PA X [e] ta) (hs : starEach [e] X.env = [(false, eval e X.env)] := by rfl) :
    PI X (.Tuple elts kk tpos) (.Call (.Name "enumerate" p) [e] [] pos) (iEnumT X.K ta) := by
  refine ⟨fun pins s σ H R I h => ?_⟩
  refine Call_ (ld_blt I hg hm boot_enumerate (PyProof.Rows.callWith_type1 (thn (ha.run pos pins s σ H _ I h) fun us s1 ⟨vs, H1, I1, r1, q1⟩ => ?_) hs rfl))
  obtain ⟨a, xs, ex, hq, q⟩ := q1
  subst ex
  cases r1 with
  | cons r rr =>
    cases rr
    cases r
    obtain ⟨its, rv, p', hz⟩ := I1.tuple hq
    refine enum_begins1 (begins_tuple a its.toArray) p' fun h' he hit hsz hk => wpAny_pyIter_enum he ?_
    have I2 : Inv X pins σ H1 { s1 with heap := h' } := I1.kept (t' := s1.toks) hk
    refine ⟨s1.heap.objs.size + 1, [s1.heap.objs.size + 1, s1.heap.objs.size], _, _, H1, rfl, I2, turn_enumT a (s1.heap.objs.size + 1) s1.heap.objs.size, ⟨⟨.none, he⟩, ⟨_, hit, rfl, rfl⟩, Nat.succ_ne_self _⟩, fun b hb => ?_, q⟩
    have e' : b = s1.heap.objs.size + 1 ∨ b = s1.heap.objs.size := by simpa using hb
    have hle : s1.heap.objs.size ≤ b := by
      rcases e' with z | z
      · rw [z]; exact Nat.le_add_right _ _
      · rw [z]; exact Nat.le_refl _
    exact I1.fpOk hle (I1.hok.fresh hle)
end L2
end

section
set_option Elab.async false
set_option linter.all false
set_option maxRecDepth 100000
set_option maxHeartbeats 4000000
/-! EvSnd6: what is walked, targets, comprehensions. -/
namespace Ev
open PySem PySem.Spec L2
open PyProof.Rows hiding St

structure WalkJ (Ω : Wd) (J : It) (G : Hp) (ps : List P) : Prop where
  go : ∀ i H, Same G H → i < ps.length → J.go i H
  yld : ∀ i H x H' p, Same G H → ps[i]? = some p → J.yld i H x H' → (H' = H ∧ RpP Ω G x p) ∨ ∃ T o, H T = none ∧ H' = upd H T o ∧ ∀ G', Same G G' → G' T = none → RpP Ω (upd G' T o) x p
  stop : ∀ H, Same G H → J.stop ps.length H
theorem WalkJ.mono {Ω : Wd} {J : It} {G G' : Hp} {ps : List P} (w : WalkJ Ω J G ps) (e : Same G G') : WalkJ Ω J G' ps :=
  ⟨fun i H h => w.go i H (e.trans h), fun i H x H' p h e1 y => by
    rcases w.yld i H x H' p (e.trans h) e1 y with ⟨h1, h2⟩ | ⟨T, o, h1, h2, h3⟩
    · exact .inl ⟨h1, RpP.mono e _ _ h2⟩
    · exact .inr ⟨T, o, h1, h2, fun G'' g => h3 G'' (e.trans g)⟩, fun H h => w.stop H (e.trans h)⟩
def relI (Ω : Wd) (G : Hp) (as ls : List Addr) (J : It) (ps : List P) : Prop := WalkJ Ω J G ps
def tI (Ω : Wd) (Z : Fr) (W : WX) (f : S → R (List P)) : TI := fun σ H Q => ∃ s G as ls, Abs Ω Z s G as ls σ H ∧ Out Ω Z W (relI Ω) G as ls σ (f s) Q
section
variable {Ω : Wd} {Γ : Cfg} {T : Tab} {Z : Fr} {W : WX} {X : Cx} {k : Nat} {N : List Str} {sc : Scope} {pos : Pos} {tg a b c : Expr} {f g f3 : S → R D}
  {s : S} {G H : Hp} {as ls : List Addr} {σ : St} {Q : VK}
theorem pi_by {tg e : Expr} {t : TI} (h : ∀ σ H Q, t σ H Q → ∃ t', PI X tg e t' ∧ t' σ H Q) : PI X tg e t := ⟨fun pins s σ H Q I q =>
  let ⟨_, p, q'⟩ := h σ H Q q
  p.run pins s σ H Q I q'⟩
theorem walk_list {K : PySem.W.Frag} {a : Addr} {xs : List V} {ps : List P} (e : SqL K G a xs) (r : RpPs Ω G xs ps) : WalkJ Ω (Itl K a) G ps := by
  refine ⟨fun i H h hi => ?_, fun i H x H' p h e1 y => ?_, fun H h => ⟨xs, h.seq e, by rw [r.length]; exact Nat.le_refl _⟩⟩
  · have hi' : i < xs.length := by rw [r.length]; exact hi
    exact ⟨xs, xs[i], h.seq e, by simp [hi']⟩
  · obtain ⟨v, e2, rv⟩ := r.get e1
    have e3 := y.2 xs (h.seq e)
    rw [e2] at e3
    cases e3
    exact .inl ⟨y.1, rv⟩
theorem walk_tup {K : PySem.W.Frag} {a : Addr} {xs : List V} {ps : List P} (e : SqT K G a xs) (r : RpPs Ω G xs ps) : WalkJ Ω (Itt K a) G ps := by
  refine ⟨fun i H h hi => ?_, fun i H x H' p h e1 y => ?_, fun H h => ⟨xs, sqT_mono h e, by rw [r.length]; exact Nat.le_refl _⟩⟩
  · have hi' : i < xs.length := by rw [r.length]; exact hi
    exact ⟨xs, xs[i], sqT_mono h e, by simp [hi']⟩
  · obtain ⟨v, e2, rv⟩ := r.get e1
    have e3 := y.2 xs (sqT_mono h e)
    rw [e2] at e3
    cases e3
    exact .inl ⟨y.1, rv⟩
theorem rng_get {lo : Int} {n i : Nat} {p : P} (h : (rngP lo n)[i]? = some p) : i < n ∧ p = .int (lo + (i : Int)) := by
  unfold rngP at h
  rw [List.getElem?_map] at h
  cases e : (List.range n)[i]? with
  | none => rw [e] at h; cases h
  | some j =>
    rw [e] at h
    have hi := (List.getElem?_eq_some_iff.mp e).1
    rw [List.length_range] at hi
    rw [List.getElem?_range hi] at e
    cases e
    exact ⟨hi, (Option.some.inj h).symm⟩
theorem walk_rng {lo : Int} {n : Nat} : WalkJ Ω (Itr lo n) G (rngP lo n) := by
  have hl : (rngP lo n).length = n := by unfold rngP; rw [List.length_map, List.length_range]
  refine ⟨fun i H h hi => by rw [hl] at hi; exact hi, fun i H x H' p h e1 y => ?_, fun H h => by rw [hl]; exact Nat.le_refl n⟩
  obtain ⟨hi, rfl⟩ := rng_get e1
  obtain ⟨e2, e3⟩ := y
  subst e3
  exact .inl ⟨e2, .int _⟩
theorem enu_len : ∀ (ps : List P) (k : Int), (enuP k ps).length = ps.length
  | [], _ => rfl
  | p :: ps, k => by show (enuP (k + 1) ps).length + 1 = ps.length + 1; rw [enu_len ps]
theorem enu_get : ∀ {ps : List P} {k : Int} {i : Nat} {q : P}, (enuP k ps)[i]? = some q → ∃ p, ps[i]? = some p ∧ q = .tup [.int (k + (i : Int)), p]
  | [], _, _, _, h => by simp [enuP] at h
  | p :: ps, k, 0, q, h => by simp [enuP] at h; exact ⟨p, rfl, by simp [← h]⟩
  | p :: ps, k, i + 1, q, h => by
    simp only [enuP, List.getElem?_cons_succ] at h
    obtain ⟨p', e1, e2⟩ := enu_get h
    refine ⟨p', by simpa using e1, ?_⟩
    rw [e2]
    have : k + 1 + (i : Int) = k + ((i + 1 : Nat) : Int) := by omega
    rw [this]
theorem rp_pair {T : Addr} {i : Nat} {v : V} {p : P} {G' : Hp} (h : RpP Ω G v p) (e : Same G G') (n : G' T = none) : RpP Ω (upd G' T (.tup [.int (i : Nat), v])) (.ref T) (.tup [.int (0 + (i : Int)), p]) := by
  rw [Int.zero_add]
  exact .tup (SqT.of upd_same) (.cons (.int _) (.cons (RpP.mono (e.trans (same_new n)) _ _ h) .nil))
theorem walk_enuL {K : PySem.W.Frag} {a : Addr} {xs : List V} {ps : List P} (e : SqL K G a xs) (r : RpPs Ω G xs ps) : WalkJ Ω (Ite K a) G (enuP 0 ps) := by
  refine ⟨fun i H h hi => ?_, fun i H x H' p h e1 y => ?_, fun H h => ⟨xs, h.seq e, by rw [r.length, enu_len]; exact Nat.le_refl _⟩⟩
  · have hi' : i < xs.length := by rw [r.length, ← enu_len ps 0]; exact hi
    exact ⟨xs, xs[i], h.seq e, by simp [hi']⟩
  · obtain ⟨p', e2, rfl⟩ := enu_get e1
    obtain ⟨v, e3, rv⟩ := r.get e2
    obtain ⟨T, x', rfl, h1, h2, h3⟩ := y
    have e4 := h3 xs (h.seq e)
    rw [e3] at e4
    cases e4
    exact .inr ⟨T, _, h1, h2, fun G' g n => rp_pair rv g n⟩
theorem walk_enuT {K : PySem.W.Frag} {a : Addr} {xs : List V} {ps : List P} (e : SqT K G a xs) (r : RpPs Ω G xs ps) : WalkJ Ω (Itet K a) G (enuP 0 ps) := by
  refine ⟨fun i H h hi => ?_, fun i H x H' p h e1 y => ?_, fun H h => ⟨xs, sqT_mono h e, by rw [r.length, enu_len]⟩⟩
  · have hi' : i < xs.length := by rw [r.length, ← enu_len ps 0]; exact hi
    exact ⟨xs, xs[i], sqT_mono h e, by simp [hi']⟩
  · obtain ⟨p', e2, rfl⟩ := enu_get e1
    obtain ⟨v, e3, rv⟩ := r.get e2
    obtain ⟨T, x', rfl, h1, h2, h3⟩ := y
    have e4 := h3 xs (sqT_mono h e)
    rw [e3] at e4
    cases e4
    exact .inr ⟨T, _, h1, h2, fun G' g n => rp_pair rv g n⟩
def seqF (f : S → R D) : S → R (List P) := fun s => (f s).bind fun d s => match d with
    | .pur p => R.pure (seqP p) s
    | _ => .st
theorem s_seq (gd : Good Ω k N sc W X) (ha : ∀ Z, PE X a (tE Ω Z W f)) : PI X tg a (tI Ω Z W (seqF f)) := by
  refine pi_by fun σ H Q ⟨s, G, as, ls, A, q⟩ => ?_
  have viaL : (∀ d s1, f s = .ok d s1 → (∃ ps, d = .pur (.lst ps)) ∨ (∃ ps, d = .pur (.sq ps)) ∨ (∀ p, d = .pur p → seqP p = none)) → ∃ t', PI X tg a t' ∧ t' σ H Q := fun hd => by
    refine ⟨_, pi_list (ha Z), s, G, as, ls, A, Out.then q fun d s1 x H1 G1 as1 ls1 e A1 le1 r1 o1 => ?_⟩
    rcases hd d s1 e with ⟨ps, rfl⟩ | ⟨ps, rfl⟩ | hn
    · obtain ⟨a, xs, rfl, e1, e2⟩ := RpD.lst r1
      have e1' : SqL X.K G1 a xs := SqL.of e1
      exact ⟨a, rfl, ⟨xs, A1.sto.sub.seq e1'⟩, o1 _ _ _ _ _ A1 (Le.refl _ _ _) (walk_list e1' e2)⟩
    · obtain ⟨a, xs, rfl, e1, e2⟩ := RpD.sq r1
      have e1' : SqL X.K G1 a xs := by rw [gd.K]; exact e1
      exact ⟨a, rfl, ⟨xs, A1.sto.sub.seq e1'⟩, o1 _ _ _ _ _ A1 (Le.refl _ _ _) (walk_list e1' e2)⟩
    · cases d with
      | pur p =>
        have o1 : Out Ω Z W (relI Ω) G1 as1 ls1 σ (R.pure (seqP p) s1) Q := o1
        rw [hn p rfl] at o1
        exact o1.elim
      | cel _ => exact (show False from o1).elim
      | loc _ => exact (show False from o1).elim
  cases ef : f s with
  | st => exact viaL fun d s1 e => by rw [ef] at e; cases e
  | ex x s' => exact viaL fun d s1 e => by rw [ef] at e; cases e
  | ok d s1 =>
    cases d with
    | cel _ => exact viaL fun d s1 e => by rw [ef] at e; cases e; exact .inr (.inr fun p h => nomatch h)
    | loc _ => exact viaL fun d s1 e => by rw [ef] at e; cases e; exact .inr (.inr fun p h => nomatch h)
    | pur p =>
      cases p with
      | tup ps =>
        refine ⟨_, pi_tup (ha Z), s, G, as, ls, A, Out.then q fun d s1 x H1 G1 as1 ls1 e A1 le1 r1 o1 => ?_⟩
        rw [ef] at e
        cases e
        obtain ⟨a, xs, rfl, e1, e2⟩ := RpD.tup r1
        have e1' : SqT X.K G1 a xs := by rw [gd.K]; exact e1
        exact ⟨a, rfl, ⟨xs, sqT_mono A1.sto.sub e1'⟩, o1 _ _ _ _ _ A1 (Le.refl _ _ _) (walk_tup e1' e2)⟩
      | lst ps => exact viaL fun d s1 e => by rw [ef] at e; cases e; exact .inl ⟨_, rfl⟩
      | sq ps => exact viaL fun d s1 e => by rw [ef] at e; cases e; exact .inr (.inl ⟨_, rfl⟩)
      | _ => exact viaL fun d s1 e => by rw [ef] at e; cases e; exact .inr (.inr fun p h => by cases h; rfl)
theorem star_1 {e : Expr} {env : Env} (h : nst e = true) : starEach [e] env = [(false, eval e env)] := star_ne h
theorem p62_eq : p62 = 2 ^ 62 := by decide
theorem s_rng1 {p : Pos} (F : Facts Ω Γ T k) (gd : Good Ω k N sc W X) (hg : glo sc "range" = true) (hn : nst a = true) (ha : ∀ Z, PE X a (tE Ω Z W f)) :
    PI X tg (.Call (.Name "range" p) [a] [] pos) (tI Ω Z W fun s => (f s).bind fun d s => match d with
      | .pur (.int j) => if decide (-p62 ≤ j) && decide (j < p62) then .ok (rngP 0 j.toNat) s else .st
      | _ => .st) := by
  refine pi_by fun σ H Q ⟨s, G, as, ls, A, q⟩ => ⟨_, pi_range1 (glo_of gd hg).1 (mg_blt F gd (by decide +kernel)) (pa_cons' hn (ha Z) pa_nil) (star_1 hn), one A q fun d s1 x H1 G1 as1 ls1 A1 le1 r1 o1 => ?_⟩
  split at o1
  · split at o1
    · rename_i h
      rw [Bool.and_eq_true, decide_eq_true_eq, decide_eq_true_eq, p62_eq] at h
      obtain rfl := r1.int
      exact ⟨_, rfl, h.1, h.2, o1 _ _ _ _ _ A1 (Le.refl _ _ _) walk_rng⟩
    · exact o1.elim
  · exact o1.elim
theorem s_rng2 {p : Pos} (F : Facts Ω Γ T k) (gd : Good Ω k N sc W X) (hg : glo sc "range" = true) (hn : nst a = true) (hn2 : nst b = true) (ha : ∀ Z, PE X a (tE Ω Z W f)) (hb : ∀ Z, PE X b (tE Ω Z W g)) :
    PI X tg (.Call (.Name "range" p) [a, b] [] pos) (tI Ω Z W fun s => (f s).bind fun d s => (g s).bind fun d' s => match d, d' with
      | .pur (.int i), .pur (.int j) => .ok (rngP i (j - i).toNat) s
      | _, _ => .st) := by
  refine pi_by fun σ H Q ⟨s, G, as, ls, A, q⟩ => ⟨_, pi_range2L (glo_of gd hg).1 (mg_blt F gd (by decide +kernel)) (pa_cons' hn (ha Z) (pa_cons' hn2 (hb Z) pa_nil)) (by rw [star_ne hn, star_1 hn2]) (star_1 hn2), one A q fun d s1 x H1 G1 as1 ls1 A1 le1 r1 o1 => one A1 o1 fun e s2 y H2 G2 as2 ls2 A2 le2 r2 o2 => ?_⟩
  split at o2
  · obtain rfl := r1.int
    obtain rfl := r2.int
    exact ⟨_, _, rfl, o2 _ _ _ _ _ A2 (Le.refl _ _ _) walk_rng⟩
  · exact o2.elim
def enuF (f : S → R D) : S → R (List P) := fun s => (f s).bind fun d s => match d with
    | .pur p => R.pure ((seqP p).map (enuP 0)) s
    | _ => .st
theorem s_enu {p tpos : Pos} {elts : List Expr} {kk : Nat} (F : Facts Ω Γ T k) (gd : Good Ω k N sc W X) (hg : glo sc "enumerate" = true) (hn : nst a = true) (ha : ∀ Z, PE X a (tE Ω Z W f)) : PI X (.Tuple elts kk tpos) (.Call (.Name "enumerate" p) [a] [] pos) (tI Ω Z W (enuF f)) := by
  refine pi_by fun σ H Q ⟨s, G, as, ls, A, q⟩ => ?_
  have viaL : (∀ d s1, f s = .ok d s1 → (∃ ps, d = .pur (.lst ps)) ∨ (∃ ps, d = .pur (.sq ps)) ∨ (∀ p, d = .pur p → seqP p = none)) → ∃ t', PI X (.Tuple elts kk tpos) (.Call (.Name "enumerate" p) [a] [] pos) t' ∧ t' σ H Q := fun hd => by
    refine ⟨_, pi_enum (glo_of gd hg).1 (mg_blt F gd (by decide +kernel)) (pa_cons' hn (ha Z) pa_nil) (star_1 hn), s, G, as, ls, A, Out.then q fun d s1 x H1 G1 as1 ls1 e A1 le1 r1 o1 => ?_⟩
    rcases hd d s1 e with ⟨ps, rfl⟩ | ⟨ps, rfl⟩ | hn
    · obtain ⟨a, xs, rfl, e1, e2⟩ := RpD.lst r1
      have e1' : SqL X.K G1 a xs := SqL.of e1
      exact ⟨a, xs, rfl, A1.sto.sub.seq e1', o1 _ _ _ _ _ A1 (Le.refl _ _ _) (walk_enuL e1' e2)⟩
    · obtain ⟨a, xs, rfl, e1, e2⟩ := RpD.sq r1
      have e1' : SqL X.K G1 a xs := by rw [gd.K]; exact e1
      exact ⟨a, xs, rfl, A1.sto.sub.seq e1', o1 _ _ _ _ _ A1 (Le.refl _ _ _) (walk_enuL e1' e2)⟩
    · cases d with
      | pur p =>
        have o1 : Out Ω Z W (relI Ω) G1 as1 ls1 σ (R.pure ((seqP p).map (enuP 0)) s1) Q := o1
        rw [hn p rfl] at o1
        exact o1.elim
      | cel _ => exact (show False from o1).elim
      | loc _ => exact (show False from o1).elim
  cases ef : f s with
  | st => exact viaL fun d s1 e => by rw [ef] at e; cases e
  | ex x s' => exact viaL fun d s1 e => by rw [ef] at e; cases e
  | ok d s1 =>
    cases d with
    | cel _ => exact viaL fun d s1 e => by rw [ef] at e; cases e; exact .inr (.inr fun p h => nomatch h)
    | loc _ => exact viaL fun d s1 e => by rw [ef] at e; cases e; exact .inr (.inr fun p h => nomatch h)
    | pur p =>
      cases p with
      | tup ps =>
        refine ⟨_, pi_enumT (glo_of gd hg).1 (mg_blt F gd (by decide +kernel)) (pa_cons' hn (ha Z) pa_nil) (star_1 hn), s, G, as, ls, A, Out.then q fun d s1 x H1 G1 as1 ls1 e A1 le1 r1 o1 => ?_⟩
        rw [ef] at e
        cases e
        obtain ⟨a, xs, rfl, e1, e2⟩ := RpD.tup r1
        have e1' : SqT X.K G1 a xs := by rw [gd.K]; exact e1
        exact ⟨a, xs, rfl, sqT_mono A1.sto.sub e1', o1 _ _ _ _ _ A1 (Le.refl _ _ _) (walk_enuT e1' e2)⟩
      | lst ps => exact viaL fun d s1 e => by rw [ef] at e; cases e; exact .inl ⟨_, rfl⟩
      | sq ps => exact viaL fun d s1 e => by rw [ef] at e; cases e; exact .inr (.inl ⟨_, rfl⟩)
      | _ => exact viaL fun d s1 e => by rw [ef] at e; cases e; exact .inr (.inr fun p h => by cases h; rfl)
end
end Ev
end

section
set_option Elab.async false
set_option linter.all false
set_option maxRecDepth 100000
set_option maxHeartbeats 4000000
/-! EvSnd7: targets, comprehensions. -/
namespace Ev
open PySem PySem.Spec L2
open PyProof.Rows hiding St

/-! ### slots -/
theorem w_wipe {α : Type} [Inhabited α] : True := trivial
theorem wipe_len (r : List (Option D)) : ∀ vs : List Nat, (Ev.wipe r vs).length = r.length
  | [] => rfl
  | v :: vs => by unfold Ev.wipe; rw [List.length_set, wipe_len r vs]
theorem wipe_get {r : List (Option D)} {i : Nat} {d : D} : ∀ {vs : List Nat}, (Ev.wipe r vs)[i]? = some (some d) → r[i]? = some (some d) ∧ i ∉ vs
  | [], h => ⟨h, by simp⟩
  | v :: vs, h => by
    unfold Ev.wipe at h
    by_cases hi : v = i
    · subst hi
      by_cases hv : v < (Ev.wipe r vs).length
      · rw [List.getElem?_set_self hv] at h; cases h
      · rw [List.getElem?_eq_none (by simpa using hv)] at h; cases h
    · rw [List.getElem?_set_ne hi] at h
      obtain ⟨h1, h2⟩ := wipe_get h
      exact ⟨h1, by simp only [List.mem_cons, not_or]; exact ⟨fun e => hi e.symm, h2⟩⟩
theorem wipeσ_at {σ : St} {i : Nat} : ∀ {vs : List Nat}, i ∈ vs → (L2.wipe σ vs)[i]? = if i < σ.length then some none else none
  | [], h => by cases h
  | v :: vs, h => by
    unfold L2.wipe
    by_cases hi : v = i
    · subst hi
      by_cases hv : v < σ.length
      · rw [List.getElem?_set_self (by rw [L2.wipe_length]; exact hv), if_pos hv]
      · rw [if_neg hv, List.getElem?_eq_none (by rw [List.length_set, L2.wipe_length]; exact Nat.le_of_not_lt hv)]
    · rw [List.getElem?_set_ne hi]
      exact wipeσ_at ((List.mem_cons.mp h).resolve_left fun e => hi e.symm)
theorem wipeσ_set {σ : St} {i : Nat} {x : Option V} {vs : List Nat} (h : i ∈ vs) : L2.wipe (σ.set i x) vs = L2.wipe σ vs := by
  apply List.ext_getElem?
  intro j
  by_cases hj : j ∈ vs
  · rw [wipeσ_at hj, wipeσ_at hj, List.length_set]
  · rw [L2.wipe_out hj, L2.wipe_out hj, List.getElem?_set_ne (fun e : i = j => hj (e ▸ h))]
theorem wipeσ_wipe {σ : St} {vs : List Nat} : L2.wipe (L2.wipe σ vs) vs = L2.wipe σ vs := by
  apply List.ext_getElem?
  intro j
  by_cases hj : j ∈ vs
  · rw [wipeσ_at hj, wipeσ_at hj, L2.wipe_length]
  · rw [L2.wipe_out hj]
/-! ### targets -/
def gNs : List Nat → TGs
  | [] => gNil
  | i :: is => gCons (gName i) (gNs is)
def gT (K : PySem.W.Frag) : T → TG
  | .nm i => gName i
  | .tp is => gTup K is.length (gNs is)
def setσ (σ : St) : List Nat → List V → St
  | i :: is, v :: vs => setσ (σ.set i (some v)) is vs
  | _, _ => σ
section
variable {Ω : Wd} {Γ : Cfg} {T : Tab} {Z : Fr} {W : WX} {X : Cx} {k : Nat} {N : List Str} {sc : Scope} {pos : Pos} {tg a b c : Expr} {f g f3 : S → R D}
  {s : S} {G H : Hp} {as ls : List Addr} {σ : St} {Q : VK}
theorem gNs_run : ∀ {is : List Nat} {vs : List V} {σ : St} {H : Hp} {Q : St → Hp → Prop}, is.length = vs.length → Q (setσ σ is vs) H → gNs is vs σ H Q
  | [], [], σ, H, Q, _, h => ⟨rfl, h⟩
  | [], _ :: _, _, _, _, e, _ => by simp at e
  | _ :: _, [], _, _, _, e, _ => by simp at e
  | i :: is, v :: vs, σ, H, Q, e, h => ⟨v, vs, rfl, gNs_run (by simpa using e) h⟩
theorem Abs.slots : ∀ {is : List Nat} {ds : List D} {vs : List V} {s : S} {σ : St} {r' : List (Option D)}, Abs Ω Z s G as ls σ H → RpDs Ω G as ls vs ds → setN s.r is ds = some r' → Abs Ω Z { s with r := r' } G as ls (setσ σ is vs) H ∧ is.length = vs.length ∧ ∀ own, (∀ i ∈ is, i ∈ own) → L2.wipe (setσ σ is vs) own = L2.wipe σ own
  | [], [], vs, s, σ, r', A, r, e => by
    cases r
    simp [setN] at e
    subst e
    exact ⟨A, rfl, fun _ _ => rfl⟩
  | [], _ :: _, vs, s, σ, r', A, r, e => by simp [setN] at e
  | _ :: _, [], vs, s, σ, r', A, r, e => by simp [setN] at e
  | i :: is, d :: ds, vs, s, σ, r', A, r, e => by
    cases r with | cons r1 r2 =>
      simp only [setN] at e
      obtain ⟨A', h1, h2⟩ := Abs.slots (A.slot (i := i) r1) r2 e
      exact ⟨A', by simp [h1], fun own ho => (h2 own fun j hj => ho j (List.mem_cons_of_mem _ hj)).trans (wipeσ_set (ho i List.mem_cons_self))⟩
def okT (own : List Nat) : Ev.T → Prop
  | .nm i => i ∈ own
  | .tp is => ∀ i ∈ is, i ∈ own
/-- a target takes an item -/
theorem gT_run {t : Ev.T} {p : P} {v : V} {s' : S} {R : St → Hp → Prop} (gd : X.K = Ω.K) (A : Abs Ω Z s G as ls σ H) (r : RpP Ω G v p) (e : asgT t (.pur p) s = some s') (h : ∀ σ', Abs Ω Z s' G as ls σ' H → (∀ own, okT own t → L2.wipe σ' own = L2.wipe σ own) → R σ' H) : gT X.K t v σ H R := by
  cases t with
  | nm i =>
    simp only [asgT] at e
    cases e
    exact h _ (A.slot (.pur r)) fun own ho => wipeσ_set ho
  | tp is =>
    cases p with
    | tup ps =>
      simp only [asgT] at e
      obtain ⟨r', e1, rfl⟩ := map_some e
      cases r with | tup h1 h2 =>
        rename_i a xs
        obtain ⟨A', h3, h4⟩ := Abs.slots A (RpDs.map h2) e1
        exact ⟨a, xs, rfl, by rw [gd]; exact sqT_mono A.sto.sub h1, h3.symm, gNs_run h3 (h _ A' h4)⟩
    | _ => simp [asgT] at e
theorem pgs_of {st : Str → Bool} (hN : X.N = N) (nd : N.Nodup) (hst : ∀ x, st x = true → Loc X.env.scope x ∧ (X.fn x = true ∨ X.env.scope.names.lookup x = some .local)) : ∀ {is : List Nat} {es : List Expr}, chkNs N st is es = true → PGs X es (gNs is) ∧ (assignEach es X.env).length = is.length ∧ (assignEach es X.env).findIdx? (·.1) = none
  | [], [], _ => ⟨pgs_nil, rfl, rfl⟩
  | [], _ :: _, h => by simp [chkNs] at h
  | _ :: _, [], h => by simp [chkNs] at h
  | i :: is, e :: es, h => by
    cases e with
    | Name x p =>
      simp only [chkNs, Bool.and_eq_true, decide_eq_true_eq] at h
      obtain ⟨⟨h1, h2⟩, h3⟩ := h
      obtain ⟨p1, p2, p3⟩ := pgs_of hN nd hst h3
      obtain ⟨q1, q2⟩ := hst x h2
      refine ⟨pgs_cons (pg_name (i := i) (by rw [hN]; exact nd) (by rw [hN]; exact h1) q1 q2) p1 rfl, ?_, ?_⟩
      · show (assignEach es X.env).length + 1 = is.length + 1
        rw [p2]
      · show List.findIdx? (·.1) ((false, assign (Expr.Name x p) X.env) :: assignEach es X.env) = none
        rw [List.findIdx?_cons]
        simp [p3]
    | _ => simp [chkNs] at h
theorem pg_of {st : Str → Bool} {t : Ev.T} (hN : X.N = N) (nd : N.Nodup) (hc : X.calm = true) (hst : ∀ x, st x = true → Loc X.env.scope x ∧ (X.fn x = true ∨ X.env.scope.names.lookup x = some .local)) (h : chkT N st t tg = true) : PG X tg (gT X.K t) := by
  cases t with
  | nm i =>
    cases tg with
    | Name x p =>
      simp only [chkT, Bool.and_eq_true, decide_eq_true_eq] at h
      obtain ⟨q1, q2⟩ := hst x h.2
      exact pg_name (i := i) (by rw [hN]; exact nd) (by rw [hN]; exact h.1) q1 q2
    | _ => simp [chkT] at h
  | tp is =>
    cases tg with
    | Tuple es j p =>
      simp only [chkT] at h
      obtain ⟨p1, p2, p3⟩ := pgs_of hN nd hst h
      exact pg_tup hc p1 p2 p3
    | _ => simp [chkT] at h
/-! ### comprehensions -/
def tEU (Ω : Wd) (W : WX) (f : S → R D) : TE := fun σ H Q => ∃ Z, tE Ω Z W f σ H Q
def tTU (Ω : Wd) (W : WX) (f : S → R Bool) : TT := fun σ H Q => ∃ (Z : Fr) (s : S) (G : Hp) (as ls : List Addr), Abs Ω Z s G as ls σ H ∧ Out Ω Z W (fun _ _ _ v d => v = d) G as ls σ (f s) Q
theorem comp_len {t : Ev.T} {own : List Nat} {r0 : List (Option D)} {c : S → R Bool} {f : S → R D} : ∀ {ps : List P} {s : S} {qs : List P} {s' : S}, compF t own r0 c f ps s = .ok qs s' → s'.r = r0
  | [], s, qs, s', h => by simp [compF] at h; rw [← h.2]
  | p :: ps, s, qs, s', h => by
    simp only [compF] at h
    split at h
    · cases h
    · split at h
      · exact comp_len h
      · split at h
        · split at h
          · rename_i e
            cases h
            exact comp_len e
          · cases h
        · cases h
      · cases h
theorem s_lc {elt tgt iter : Expr} {ifs : List Expr} {scope : Scope} {own : List Nat} {t : Ev.T} {it : S → R (List P)} {cF : S → R Bool} {fE : S → R D} (gd : Good Ω k N sc W X)
    (hb : BlkOk X.N X.env.scope scope (ownP N own)) (hf : ∀ x, foldedSetIterable iter X.env x = pure x) (ht : okT own t)
    (hi : ∀ Z, PI X tgt iter (tI Ω Z W it))
    (hg : ∀ (s : Shared) (H : Hp) (C : Addr) (cl : List (Str × Addr)) (fp : List Addr), PG (X.blk s H scope (compEnvC scope cl C X.env) fp) tgt (gT X.K t))
    (hc : ∀ (s : Shared) (H : Hp) (C : Addr) (cl : List (Str × Addr)) (fp : List Addr), PTs (X.blk s H scope (compEnvC scope cl C X.env) fp) ifs (tTU Ω W0 cF))
    (he : ∀ (s : Shared) (H : Hp) (C : Addr) (cl : List (Str × Addr)) (fp : List Addr), PE (X.blk s H scope (compEnvC scope cl C X.env) fp) elt (tEU Ω W0 fE)) :
    ∀ Z, ∃ wi tt, PI X tgt iter wi ∧ True ∧ (∀ σ H Q, tE Ω Z W (fun s => (it s).bind fun items s => match compF t own s.r cF fE items s with
      | .ok ps s1 => if ps.length ≤ line then .ok (.pur (.lst ps)) s1 else .st
      | _ => .st) σ H Q → tLc wi (gT X.K t) tt (tEU Ω W0 fE) ((ownP N own).map (·.2)) σ H Q) ∧ tt = tTU Ω W0 cF := by
  intro Z
  refine ⟨_, _, hi Z, trivial, fun σ H Q ⟨s, G, as, ls, A, q⟩ => ?_, rfl⟩
  have hown : (ownP N own).map (·.2) = own := by unfold ownP; rw [List.map_map]; exact List.map_id own
  rw [hown]
  refine ⟨s, G, as, ls, A, Out.then q fun items s1 J H1 G1 as1 ls1 ei A1 le1 wj o1 => ?_⟩
  intro Dd hD
  cases ec : compF t own s1.r cF fE items s1 with
  | st => rw [ec] at o1; exact o1.elim
  | ex x s' => rw [ec] at o1; exact o1.elim
  | ok total sfin =>
    rw [ec] at o1
    dsimp only at o1
    split at o1
    · rename_i hlen
      have g1D : G1 Dd = none := same_none A1.sto.sub hD
      have g0D : Z.G0 Dd = none := same_none A1.g0 g1D
      have uD : Z.U Dd = none := A1.unew hD
      -- the loop's invariant
      refine ⟨fun i m H => m = items.length - i ∧ i ≤ items.length ∧ ∃ (si : S) (Gi : Hp) (asi lsi : List Addr) (vs : List V) (qs rs : List P), si.r = s1.r ∧
          Abs Ω { Z with U := upd Z.U Dd (.lst vs) } si Gi asi lsi σ H ∧ Le G1 as1 ls1 Gi asi lsi ∧ RpPs Ω Gi vs qs ∧ compF t own s1.r cF fE (items.drop i) si = .ok rs sfin ∧ qs ++ rs = total, ⟨items.length, by simp, Nat.zero_le _, s1, G1, as1, ls1, [], [], total, rfl, ?_, Le.refl _ _ _, .nil, ec, rfl⟩, ?_⟩
      · have A2 : Abs Ω Z s1 G1 as1 ls1 σ (upd H1 Dd (.lst [])) := A1.other fun b hb => upd_ne fun z => by
          subst z
          rcases hb with h | h | h | h
          · exact h g1D
          · exact A1.nas hD h
          · exact A1.nls hD h
          · exact h uD
        exact A2.more upd_same g1D (A1.nas hD) (A1.nls hD)
      · rintro i m H ⟨rfl, hi', si, Gi, asi, lsi, vs, qs, rs, er, Ai, lei, rq, ecomp, etot⟩
        have gI : Same G1 Gi := lei.g
        by_cases hlt : i < items.length
        · right
          have eitem : items[i]? = some items[i] := by simp [hlt]
          have edrop : items.drop i = items[i] :: items.drop (i + 1) := List.drop_eq_getElem_cons hlt
          rw [edrop] at ecomp
          refine ⟨wj.go i H (gI.trans Ai.sto.sub) hlt, fun H => i + 1 ≤ items.length ∧ ∃ (si : S) (Gi : Hp) (asi lsi : List Addr) (vs : List V) (qs rs : List P), si.r = s1.r ∧
              Abs Ω { Z with U := upd Z.U Dd (.lst vs) } si Gi asi lsi σ H ∧ Le G1 as1 ls1 Gi asi lsi ∧ RpPs Ω Gi vs qs ∧ compF t own s1.r cF fE (items.drop (i + 1)) si = .ok rs sfin ∧ qs ++ rs = total,
            fun H' h => ⟨items.length - (i + 1), by omega, rfl, h.1, h.2⟩, fun x H' y => ?_⟩
          -- the item has come
          have key : ∀ (Gx : Hp), Abs Ω { Z with U := upd Z.U Dd (.lst vs) } si Gx asi lsi σ H' → Le Gi asi lsi Gx asi lsi → RpP Ω Gx x items[i] →
              gT X.K t x (L2.wipe σ own) H' fun σ2 H2 => L2.wipe σ2 own = L2.wipe σ own ∧ tTU Ω W0 cF σ2 H2 fun b H3 =>
                if b = true then tEU Ω W0 fE σ2 H3 fun y H4 => ∃ acc, H4 Dd = some (.lst acc) ∧ acc.length < sizeLine ∧ (i + 1 ≤ items.length ∧ ∃ (si : S) (Gi : Hp) (asi lsi : List Addr) (vs : List V) (qs rs : List P), si.r = s1.r ∧
              Abs Ω { Z with U := upd Z.U Dd (.lst vs) } si Gi asi lsi σ (upd H4 Dd (.lst (acc ++ [y]))) ∧ Le G1 as1 ls1 Gi asi lsi ∧ RpPs Ω Gi vs qs ∧ compF t own s1.r cF fE (items.drop (i + 1)) si = .ok rs sfin ∧ qs ++ rs = total) else (i + 1 ≤ items.length ∧ ∃ (si : S) (Gi : Hp) (asi lsi : List Addr) (vs : List V) (qs rs : List P), si.r = s1.r ∧
              Abs Ω { Z with U := upd Z.U Dd (.lst vs) } si Gi asi lsi σ H3 ∧ Le G1 as1 ls1 Gi asi lsi ∧ RpPs Ω Gi vs qs ∧ compF t own s1.r cF fE (items.drop (i + 1)) si = .ok rs sfin ∧ qs ++ rs = total) := by
            intro Gx Ax lex rx
            simp only [compF] at ecomp
            have Aw : Abs Ω { Z with U := upd Z.U Dd (.lst vs) } { si with r := Ev.wipe s1.r own } Gx asi lsi (L2.wipe σ own) H' := Ax.env' (fun j d e => by
              obtain ⟨e1, e2⟩ := wipe_get e
              rw [← er] at e1
              obtain ⟨v, e3, rv⟩ := Ax.env j d e1
              exact ⟨v, by rw [L2.wipe_out e2]; exact e3, rv⟩) (by rw [wipe_len, L2.wipe_length, ← er]; exact Ax.slen)
            cases ea : asgT t (.pur items[i]) { si with r := Ev.wipe s1.r own } with
            | none => rw [ea] at ecomp; cases ecomp
            | some s2 =>
              rw [ea] at ecomp
              dsimp only at ecomp
              refine gT_run gd.K Aw rx ea fun σ2 A2 hw => ⟨(hw own ht).trans wipeσ_wipe, ?_⟩
              -- back at the slots of the def
              have back : ∀ {s' : S} {G' H'' : Hp} {as' ls' : List Addr} {us : List V}, Abs Ω { Z with U := upd Z.U Dd (.lst us) } s' G' as' ls' σ2 H'' → Le Gx asi lsi G' as' ls' → Abs Ω { Z with U := upd Z.U Dd (.lst us) } { s' with r := s1.r } G' as' ls' σ H'' := fun {s' G' H'' as' ls' us} B le => B.env' (fun j d e => by
                rw [← er] at e
                obtain ⟨v, e3, rv⟩ := Ax.env j d e
                exact ⟨v, e3, rv.le le⟩) (by rw [← er]; exact Ax.slen)
              cases ecnd : cF s2 with
              | st => rw [ecnd] at ecomp; cases ecomp
              | ex x s' => rw [ecnd] at ecomp; cases ecomp
              | ok bb s3 =>
                rw [ecnd] at ecomp
                refine ⟨_, s2, Gx, asi, lsi, A2, ?_⟩
                rw [ecnd]
                intro b' H3 G3 as3 ls3 A3 le3 eb
                subst eb
                cases b' with
                | false =>
                  rw [if_neg Bool.false_ne_true]
                  dsimp only at ecomp
                  have ecomp' : compF t own s1.r cF fE (items.drop (i + 1)) { s3 with r := s1.r } = .ok rs sfin := by
                    cases ed : items.drop (i + 1) with
                    | nil => rw [ed] at ecomp; simpa [compF] using ecomp
                    | cons p ps => rw [ed] at ecomp; simpa [compF] using ecomp
                  exact ⟨hlt, { s3 with r := s1.r }, G3, as3, ls3, vs, qs, rs, rfl, back A3 le3, (lei.trans lex).trans le3, RpPs.mono (lex.g.trans le3.g) _ _ rq, ecomp', etot⟩
                | true =>
                  rw [if_pos rfl]
                  dsimp only at ecomp
                  cases eelt : fE s3 with
                  | st => rw [eelt] at ecomp; cases ecomp
                  | ex x s' => rw [eelt] at ecomp; cases ecomp
                  | ok d s4 =>
                    rw [eelt] at ecomp
                    cases d with
                    | cel _ => cases ecomp
                    | loc _ => cases ecomp
                    | pur p =>
                      dsimp only at ecomp
                      cases erest : compF t own s1.r cF fE (items.drop (i + 1)) s4 with
                      | st => rw [erest] at ecomp; cases ecomp
                      | ex x s' => rw [erest] at ecomp; cases ecomp
                      | ok ps s5 =>
                        rw [erest] at ecomp
                        dsimp only at ecomp
                        cases ecomp
                        refine ⟨_, s3, G3, as3, ls3, A3, ?_⟩
                        rw [eelt]
                        intro y H4 G4 as4 ls4 A4 le4 ry
                        have hDa : H4 Dd = some (.lst vs) := A4.u Dd _ upd_same
                        have rq4 : RpPs Ω G4 vs qs := RpPs.mono ((lex.g.trans le3.g).trans le4.g) _ _ rq
                        have hlen2 : qs.length < line := by
                          have : total.length = qs.length + (ps.length + 1) := by rw [← etot]; simp
                          omega
                        refine ⟨vs, hDa, by rw [rq4.length, ← line_eq]; exact hlen2, hlt, { s4 with r := s1.r }, G4, as4, ls4, vs ++ [y], qs ++ [p], ps, rfl, ?_, ((lei.trans lex).trans le3).trans le4, rq4.append (.cons ry.ip .nil), ?_, by rw [← etot]; simp⟩
                        · have B := back A4 (le3.trans le4)
                          have n1 : Dd ∉ as4 := fun z => by
                            have this : upd Z.U Dd (.lst vs) Dd = none := B.uas Dd z
                            rw [upd_same] at this
                            cases this
                          have n2 : Dd ∉ ls4 := fun z => by
                            have this : upd Z.U Dd (.lst vs) Dd = none := B.uls Dd z
                            rw [upd_same] at this
                            cases this
                          have n3 : G4 Dd = none := by
                            cases eg : G4 Dd with
                            | none => rfl
                            | some o =>
                              rcases B.ug Dd o eg with z | z
                              · have z : Z.G0 Dd = some o := z
                                rw [g0D] at z; cases z
                              · have z : upd Z.U Dd (.lst vs) Dd = none := z
                                rw [upd_same] at z; cases z
                          have B0 : Abs Ω Z { s4 with r := s1.r } G4 as4 ls4 σ H4 := B.less (fun b o e => by
                            have : b ≠ Dd := ne_of_none e uD
                            exact (upd_ne this).trans e) rfl rfl
                          have B1 : Abs Ω Z { s4 with r := s1.r } G4 as4 ls4 σ (upd H4 Dd (.lst (vs ++ [y]))) := B0.other fun b hb => upd_ne fun z => by
                            subst z
                            rcases hb with h | h | h | h
                            · exact h n3
                            · exact n1 h
                            · exact n2 h
                            · exact h uD
                          exact B1.more upd_same n3 n1 n2
                        · cases ed : items.drop (i + 1) with
                          | nil => rw [ed] at erest; simpa [compF] using erest
                          | cons p ps => rw [ed] at erest; simpa [compF] using erest
          rcases wj.yld i H x H' items[i] (gI.trans Ai.sto.sub) eitem y with ⟨rfl, rx⟩ | ⟨TT, o, hT, rfl, rx⟩
          · exact key Gi Ai (Le.refl _ _ _) (RpP.mono gI _ _ rx)
          · obtain ⟨Ax, lex⟩ := Ai.newG (o := o) hT
            exact key _ Ax lex (rx Gi gI (same_none Ai.sto.sub hT))
        · left
          have e : i = items.length := by omega
          subst e
          refine ⟨wj.stop H (gI.trans Ai.sto.sub), ?_⟩
          rw [List.drop_length] at ecomp
          simp only [compF] at ecomp
          cases ecomp
          rw [List.append_nil] at etot
          subst etot
          have hDa : H Dd = some (.lst vs) := Ai.u Dd _ upd_same
          have n1 : Dd ∉ asi := fun z => by
            have this : upd Z.U Dd (.lst vs) Dd = none := Ai.uas Dd z
            rw [upd_same] at this
            cases this
          have n2 : Dd ∉ lsi := fun z => by
            have this : upd Z.U Dd (.lst vs) Dd = none := Ai.uls Dd z
            rw [upd_same] at this
            cases this
          have n3 : Gi Dd = none := by
            cases eg : Gi Dd with
            | none => rfl
            | some o =>
              rcases Ai.ug Dd o eg with z | z
              · have z : Z.G0 Dd = some o := z
                rw [g0D] at z; cases z
              · have z : upd Z.U Dd (.lst vs) Dd = none := z
                rw [upd_same] at z; cases z
          have B0 : Abs Ω Z si Gi asi lsi σ H := Ai.less (fun b o e => by
            have : b ≠ Dd := ne_of_none e uD
            exact (upd_ne this).trans e) rfl rfl
          obtain ⟨B1, le⟩ := B0.adopt hDa n3 n1 n2 uD
          have esr : ({ si with r := s1.r } : S) = si := by rw [← er]
          rw [esr] at o1
          exact o1 _ _ _ _ _ B1 (lei.trans le) (.pur (.lst upd_same (RpPs.mono le.g _ _ rq)))
    · exact o1.elim
end
end Ev
end

section
set_option Elab.async false
set_option linter.all false
set_option maxRecDepth 100000
set_option maxHeartbeats 4000000
/-! EvSnd8: a dict display that is asked at once. -/
namespace Ev
open PySem PySem.Spec L2
open PyProof.Rows hiding St

section
variable {Ω : Wd} {Γ : Cfg} {T : Tab} {Z : Fr} {W : WX} {X : Cx} {k : Nat} {N : List Str} {sc : Scope} {pos : Pos} {a b c : Expr} {f g f3 : S → R D}
  {s : S} {G H : Hp} {as ls : List Addr} {σ : St} {Q : VK}
theorem Out.under {Z' : Fr} {α α' β β' : Type} {rl : Hp → List Addr → List Addr → β → α → Prop} {rl' : Hp → List Addr → List Addr → β' → α' → Prop} {r : R α} {K : α → S → R α'} {Q : β' → Hp → Prop} {R : β → Hp → Prop}
    (hz : ∀ s G as ls σ H, Abs Ω Z' s G as ls σ H → Abs Ω Z s G as ls σ H) (o : Out Ω Z W rl' G as ls σ (r.bind K) Q)
    (fin : ∀ d s1 x H1 G1 as1 ls1, r = .ok d s1 → Abs Ω Z' s1 G1 as1 ls1 σ H1 → Le G as ls G1 as1 ls1 → rl G1 as1 ls1 x d → Out Ω Z W rl' G1 as1 ls1 σ (K d s1) Q → R x H1) : Out Ω Z' W rl G as ls σ r R := by
  cases r with
  | st => exact o
  | ex x s' => exact fun dx H' G' as' ls' A le e => o dx H' G' as' ls' (hz _ _ _ _ _ _ A) le e
  | ok d s1 => exact fun v H1 G1 as1 ls1 A1 le1 r1 => fin d s1 v H1 G1 as1 ls1 rfl A1 le1 r1 (Out.rebase o le1)
def trs (Ω : Wd) (Γ : Cfg) (W : WX) : List Str → Es → List (TE × TE)
  | k :: ks, .cons e es => (tC (.str k), tEU Ω W (evE Γ e)) :: trs Ω Γ W ks es
  | _, _ => []
theorem trs_run {Z' : Fr} {α' β' : Type} {rl' : Hp → List Addr → List Addr → β' → α' → Prop} {Q : β' → Hp → Prop}
    (hz : ∀ s G as ls σ H, Abs Ω Z' s G as ls σ H → Abs Ω Z s G as ls σ H) : ∀ {ks : List Str} {es : Es} {kk : List (Option Expr)} {xs : List Expr} {N : List Str} {T : Tab} {sc : Scope} {K : List D → S → R α'} {R : List (V × V) → Hp → Prop} {s : S} {G H : Hp} {as ls : List Addr}, keysB ks kk = true → kk.length = xs.length → chkEs T N sc es xs = true → nostar es = true →
    Abs Ω Z' s G as ls σ H → Out Ω Z W rl' G as ls σ ((evEs Γ es s).bind K) Q → (∀ ds s1 vs H1 G1 as1 ls1, evEs Γ es s = .ok ds s1 → Abs Ω Z' s1 G1 as1 ls1 σ H1 → Le G as ls G1 as1 ls1 → RpDs Ω G1 as1 ls1 vs ds → ds.length = ks.length → Out Ω Z W rl' G1 as1 ls1 σ (K ds s1) Q → R ((ks.map V.str).zip vs) H1) →
    tPairs (trs Ω Γ W ks es) σ H R
  | [], .nil, kk, xs, N, T, sc, K, R, s, G, H, as, ls, h1, h2, h3, h4, A, o, fin => by
    unfold evEs at o
    exact fin [] s [] H G as ls (by unfold evEs; rfl) A (Le.refl _ _ _) .nil rfl o
  | [], .cons e es, kk, xs, N, T, sc, K, R, s, G, H, as, ls, h1, h2, h3, h4, A, o, fin => by
    cases kk with
    | nil =>
      cases xs with
      | nil => simp [chkEs] at h3
      | cons x xs => simp at h2
    | cons _ _ => simp [keysB] at h1
  | _, .star e es, kk, xs, N, T, sc, K, R, s, G, H, as, ls, h1, h2, h3, h4, A, o, fin => by simp [nostar] at h4
  | k :: ks, .nil, kk, xs, N, T, sc, K, R, s, G, H, as, ls, h1, h2, h3, h4, A, o, fin => by
    cases kk with
    | nil => simp [keysB] at h1
    | cons _ _ =>
      cases xs with
      | nil => simp at h2
      | cons x xs => simp [chkEs] at h3
  | k :: ks, .cons e es, kk, xs, N, T, sc, K, R, s, G, H, as, ls, h1, h2, h3, h4, A, o, fin => by
    cases kk with
    | nil => simp [keysB] at h1
    | cons u kk =>
      have h1' : keysB ks kk = true := by
        unfold keysB at h1
        split at h1
        · rename_i h _; cases h
        · rename_i e1 e2
          cases e1; cases e2
          rw [Bool.and_eq_true] at h1
          exact h1.2
        · cases h1
      cases xs with
      | nil => simp at h2
      | cons x xs =>
        have h3' : chkEs T N sc es xs = true := by
          unfold chkEs at h3
          split at h3
          · cases h3
          · rename_i e1
            cases e1
            rw [Bool.and_eq_true] at h3
            exact h3.2
          · cases h3
        show tEU Ω W (evE Γ e) σ H _
        have ee : evEs Γ (.cons e es) s = (evE Γ e s).bind fun d s => (evEs Γ es s).bind fun ds s => .ok (d :: ds) s := by rw [evEs]
        rw [ee] at o
        have eb : ((evE Γ e s).bind fun d s => (evEs Γ es s).bind fun ds s => .ok (d :: ds) s).bind K = (evE Γ e s).bind fun d s => (evEs Γ es s).bind fun ds s => K (d :: ds) s := by
          cases evE Γ e s with
          | st => rfl
          | ex x s' => rfl
          | ok d s1 =>
            show ((evEs Γ es s1).bind fun ds s => Ev.R.ok (d :: ds) s).bind K = (evEs Γ es s1).bind fun ds s => K (d :: ds) s
            cases evEs Γ es s1 <;> rfl
        rw [eb] at o
        refine ⟨Z', s, G, as, ls, A, Out.under hz o fun d s1 v H1 G1 as1 ls1 e1 A1 le1 r1 o1 => ?_⟩
        refine trs_run hz h1' (by simpa using h2) h3' (by simpa [nostar] using h4) A1 o1 fun ds s2 vs H2 G2 as2 ls2 e2 A2 le2 r2 hl o2 => ?_
        refine fin (d :: ds) s2 (v :: vs) H2 G2 as2 ls2 ?_ A2 (le1.trans le2) (.cons (r1.le le2) r2) (by simp [hl]) o2
        rw [ee, e1]
        show (evEs Γ es s1).bind _ = _
        rw [e2]
        rfl
theorem valV_mergeK (j : Key) : ∀ (more kvs : List (Key × V)), (more.map (·.1)).Nodup → valV (mergeK kvs more) j = match valV more j with | some v => some v | none => valV kvs j
  | [], kvs, _ => rfl
  | p :: r, kvs, h => by
    rw [List.map_cons, List.nodup_cons] at h
    show valV (mergeK (putK kvs p.1 p.2) r) j = _
    rw [valV_mergeK j r _ h.2, valV_put]
    by_cases e : p.1 = j
    · rw [valV_pos e, if_pos e.symm]
      have : valV r j = none := by
        cases q : valV r j with
        | none => rfl
        | some v =>
          exfalso
          have q2 := valV_any j r
          rw [q] at q2
          obtain ⟨x, hx, hx2⟩ := List.any_eq_true.mp q2
          exact h.1 (List.mem_map.mpr ⟨x, hx, (of_decide_eq_true hx2).trans e.symm⟩)
      rw [this]
    · rw [valV_neg e, if_neg (fun z => e z.symm)]
theorem dsel_val : ∀ {ks : List Str} {ps : List P} {vs : List V} {x : Str} {p : P}, RpPs Ω G vs ps → dselP ks ps (.str x) = some p → ∃ v, valV ((ks.map fun k => (Sum.inr k : Key)).zip vs) (.inr x) = some v ∧ RpP Ω G v p
  | [], ps, vs, x, p, r, h => by simp [dselP] at h
  | k :: ks, [], vs, x, p, r, h => by simp [dselP] at h
  | k :: ks, q :: ps, vs, x, p, r, h => by
    cases r with | cons r1 r2 =>
      simp only [dselP] at h
      split at h
      · rename_i e
        cases h
        have e := beq_iff_eq.mp e
        subst e
        exact ⟨_, valV_pos (p := (Sum.inr x, _)) rfl, r1⟩
      · rename_i e
        obtain ⟨v, e1, e2⟩ := dsel_val r2 h
        refine ⟨v, ?_, e2⟩
        rw [List.map_cons, List.zip_cons_cons, valV_neg (fun z => e (beq_iff_eq.mpr (Sum.inr.inj z).symm))]
        exact e1
theorem map_zip_key : ∀ (ks : List Str) (vs : List V), (ks.map V.str).zip vs = ((ks.map fun k => (Sum.inr k : Key)).zip vs).map fun kv => (kV kv.1, kv.2)
  | [], _ => rfl
  | _ :: _, [] => rfl
  | k :: ks, v :: vs => by
    rw [List.map_cons, List.zip_cons_cons, List.map_cons, List.zip_cons_cons, List.map_cons, map_zip_key ks vs]
    rfl
theorem keys_all : ∀ {ks : List Str} {kk : List (Option Expr)}, keysB ks kk = true → kk.all (·.isSome) = true ∧ kk.length = ks.length
  | [], [], _ => ⟨rfl, rfl⟩
  | [], _ :: _, h => by simp [keysB] at h
  | _ :: _, [], h => by simp [keysB] at h
  | k :: ks, u :: kk, h => by
    unfold keysB at h
    split at h
    · contradiction
    · rename_i e1 e2
      cases e1; cases e2
      rw [Bool.and_eq_true] at h
      obtain ⟨h1, h2⟩ := keys_all h.2
      exact ⟨by rw [List.all_cons, h1]; rfl, by simp [h2]⟩
    · cases h
theorem s_dsel {ks : List Str} {es : Es} {kk : List (Option Expr)} {xs : List Expr} {dpos : Pos} (gd : Good Ω k N sc W X) (h1 : keysB ks kk = true) (h2 : kk.length = xs.length) (h3 : chkEs T N sc es xs = true) (h4 : nostar es = true)
    (h0 : 0 < kk.length) (h15 : kk.length ≤ 15) (hnd : ks.Nodup) (hs : notSl b = true) (hp : PPs X dpos kk xs (trs Ω Γ W ks es)) (hb : ∀ Z, PE X b (tE Ω Z W g)) :
    PE X (.Subscript (.Dict kk xs dpos) b pos) (tE Ω Z W fun s => (evEs Γ es s).bind fun ds s => (g s).bind fun y s => match purs ds, y with
    | some ps, .pur p => R.pure ((dselP ks ps p).map D.pur) s
    | _, _ => .st) := by
  obtain ⟨hk1, hk2⟩ := keys_all h1
  have hbU : PE X b (tEU Ω W g) := pe_by fun σ H Q ⟨Z, q⟩ => ⟨_, hb Z, q⟩
  refine pe_by fun σ H Q ⟨s, G, as, ls, A, q⟩ => ⟨_, pe_dget (by have := gd.room.units; omega) (pe_disp hp hk1 h2 (fun z => by rw [z] at h0; cases h0) h15) hbU (plain_ix hs), ?_⟩
  intro p hp0
  have gp : G p = none := same_none A.sto.sub hp0
  have up : Z.U p = none := A.unew hp0
  have zu : ∀ (o : HO) s G as ls σ H, Abs Ω { Z with U := upd Z.U p o } s G as ls σ H → Abs Ω Z s G as ls σ H := fun o s G as ls σ H A => A.less (fun b u e => (upd_ne (ne_of_none e up)).trans e) rfl rfl
  have A0 : Abs Ω Z s G as ls σ (upd H p (.dK [])) := A.other fun b hb => upd_ne fun z => by
    subst z
    rcases hb with h | h | h | h
    · exact h gp
    · exact A.nas hp0 h
    · exact A.nls hp0 h
    · exact h up
  have A1 : Abs Ω { Z with U := upd Z.U p (.dK []) } s G as ls σ (upd H p (.dK [])) := A0.more upd_same gp (A.nas hp0) (A.nls hp0)
  refine trs_run (zu _) h1 h2 h3 h4 A1 q fun ds s1 vs H1 G1 as1 ls1 e1 B le1 r1 hl o1 => ?_
  refine ⟨B.u p _ upd_same, (ks.map fun k => (Sum.inr k : Key)).zip vs, map_zip_key ks vs, ?_, ?_⟩
  · rw [List.length_zip, List.length_map]
    exact Nat.le_trans (Nat.min_le_left _ _) (by omega)
  have n1 : p ∉ as1 := fun z => by
    have this : upd Z.U p (.dK []) p = none := B.uas p z
    rw [upd_same] at this
    cases this
  have n2 : p ∉ ls1 := fun z => by
    have this : upd Z.U p (.dK []) p = none := B.uls p z
    rw [upd_same] at this
    cases this
  have n3 : G1 p = none := by
    cases eg : G1 p with
    | none => rfl
    | some o =>
      rcases B.ug p o eg with z | z
      · have z : Z.G0 p = some o := z
        rw [same_none A.g0 gp] at z; cases z
      · have z : upd Z.U p (.dK []) p = none := z
        rw [upd_same] at z; cases z
  have B0 : Abs Ω Z s1 G1 as1 ls1 σ H1 := zu _ _ _ _ _ _ _ B
  have B1 : Abs Ω Z s1 G1 as1 ls1 σ (upd H1 p (.dK (mergeK [] ((ks.map fun k => (Sum.inr k : Key)).zip vs)))) := B0.other fun b hb => upd_ne fun z => by
    subst z
    rcases hb with h | h | h | h
    · exact h n3
    · exact n1 h
    · exact n2 h
    · exact h up
  have B2 := B1.more (o := .dK (mergeK [] ((ks.map fun k => (Sum.inr k : Key)).zip vs))) upd_same n3 n1 n2
  refine ⟨_, s1, G1, as1, ls1, B2, Out.under (zu _) o1 fun y s2 v H2 G2 as2 ls2 e2 B3 le2 r2 o2 => ?_⟩
  split at o2
  · rename_i ps p' eps
    obtain ⟨r, er, t⟩ := Out.pure (zu _ _ _ _ _ _ _ B3) o2
    obtain ⟨pp, epp, rfl⟩ := map_some er
    cases p' with
    | str x =>
      obtain rfl := r2.str
      obtain ⟨v', ev, rv⟩ := dsel_val (RpPs.mono le2.g _ _ (r1.purs eps)) epp
      have hd : H2 p = some (.dK (mergeK [] ((ks.map fun k => (Sum.inr k : Key)).zip vs))) := B3.u p _ upd_same
      have hdg := DGet.k (k := (Sum.inr x : Key)) hd
      rw [valV_mergeK, ev] at hdg
      · exact ⟨p, v', rfl, hdg, t v' H2 G2 as2 ls2 (zu _ _ _ _ _ _ _ B3) (Le.refl _ _ _) (.pur rv)⟩
      · have hlen : vs.length = ks.length := by rw [r1.length, hl]
        rw [List.map_fst_zip (by rw [List.length_map, hlen]; exact Nat.le_refl _)]
        exact List.Pairwise.map _ (fun a b h z => h (Sum.inr.inj z)) hnd
    | _ => cases ks <;> cases ps <;> simp [dselP] at epp
  · exact o2.elim
end
end Ev
end

section
set_option Elab.async false
set_option linter.all false
set_option maxRecDepth 100000
set_option maxHeartbeats 4000000
/-! EvMth: methods, properties, own operators of instances. -/
namespace Ev
open PySem PySem.Spec L2
open PyProof.Rows hiding St

/-! ### o.m(..) of an instance, what is raised is wished for at the caller's slots -/
theorem methForm {prog : Program} {w : World} {A : Around} {E : Value → Shared → Prop} {o : Expr} {name : Str} {apos pos : Pos} {args : List Expr} {env : Env} {Q : Value → Shared → Prop} {s : Shared}
    (hbase : attributeBase o name env (eval o env) = eval o env) (hn : args.all nst = true) (h20 : args.length < 20) (hline : (apos.endLine == pos.line) = true)
    (h : wpAny (model prog w) A (eval o env) (fun ov s₁ => wpAny (model prog w) A (getMethod ov name (do return (← importBound o env).getD true)) (fun fx s₂ => wpAny (model prog w) A (callWith pos fx.1 fx.2 (backTo pos (starEach args env)) (backToKw pos (keywordEach [] env))) Q E s₂) E s₁) E s) :
    wpAny (model prog w) A (eval (.Call (.Attribute o name apos) args [] pos) env) Q E s := by
  rw [arm_eval_Call, hbase]
  refine wpAny_bind (wpAny_mono h (fun ov s₁ h₁ => ?_) fun _ _ e => e)
  refine wpAny_bind (wpAny_standAt ?_)
  have hform : methodCallForm (args.length + ([] : List Keyword).length) (backTo pos (starEach args env)) (backToKw pos (keywordEach [] env)) = true := by
    unfold methodCallForm
    rw [all_star hn, kw_nil]
    simp only [Bool.true_and, decide_eq_true_eq]
    simp only [List.length_nil]
    show args.length + 0 + 0 < 30
    omega
  have hpos : methodCallPos true o env apos pos = pure pos := by unfold methodCallPos; simp [hline]
  unfold methodCall
  rw [hform]
  refine wpAny_bind (wpAny_holding (wpAny_mono h₁ (fun fx s₂ h₂ => ?_) fun _ _ e => e))
  obtain ⟨fv, first⟩ := fx
  exact wpAny_bind (wpAny_of_eq hpos h₂)
def tMethS (C : Addr) (m : Str) (sp : Sp) (E : St → XK) (ta : TE) (t : TA) : TE := fun σ H Q => ta σ H fun x H1 => ∃ a dx fs, x = .ref a ∧ H1 a = some (.ins C dx fs) ∧ fs.lookup m = none ∧
  t σ H1 fun vs H2 => sp (x :: vs) H2 Q (E σ)
section
variable {X : Cx} {CX : CXT} {k : Nat} {f C : Addr} {fd : FuncData} {ps : List Str} {sp : Sp} {E : St → XK} {m : Str} {pos apos : Pos} {e o : Expr} {es : List Expr} {ta : TE} {t : TA}
theorem pe_methS (he : PE X o ta) (c : Cls X.K C) (hm : Meth X.K C m f) (F : FnOk X.prog X.w X.K X.mg X.base CX k f fd ps sp) (hr : Room k X.A) (hb : Binds X.K fd ps []) (hx : ∀ σ, PassesAt CX X σ (E σ)) (ha : PA X (e :: es) t)
    (hbs : base o = true) (hn : (e :: es).all nst = true) (h20 : (e :: es).length < 20) (hl : (apos.endLine == pos.line) = true) : PE X (.Call (.Attribute o m apos) (e :: es) [] pos) (tMethS C m sp E ta t) := by
  have hn' := hn
  rw [List.all_cons, Bool.and_eq_true] at hn'
  refine ⟨fun pins s σ H Q I h => ?_⟩
  refine methForm (plain_base hbs) hn h20 hl (thn (he.run pins s σ H _ I h) fun u s1 ⟨x, H1, I1, rx, a, dx, fs, ex, ea, l, q⟩ => ?_)
  subst ex
  obtain rfl : u = Value.ref a := rx
  refine getmeth_ok I1 ea c hm l ?_
  refine PySem.W.callWith_K (first := [.ref a]) (h₀ := X.base) I.ok.mod.kin hm.kp (thn (ha.run pos pins s1 σ H1 _ I1 q) fun us s2 ⟨vs, H2, I2, r, q2⟩ => ⟨I2.kIn, ?_⟩) (star_ne hn'.1) (star_any hn'.2)
  exact run_fnS (us := .ref a :: us) (vs := .ref a :: vs) F hr hb (hx σ) I2 (.cons rfl r) q2
theorem pe_methS0 (he : PE X o ta) (c : Cls X.K C) (hm : Meth X.K C m f) (F : FnOk X.prog X.w X.K X.mg X.base CX k f fd ps sp) (hr : Room k X.A) (hb : Binds X.K fd ps []) (hx : ∀ σ, PassesAt CX X σ (E σ))
    (hbs : base o = true) (hl : (apos.endLine == pos.line) = true) : PE X (.Call (.Attribute o m apos) [] [] pos) (tMethS C m sp E ta tNil) := by
  refine ⟨fun pins s σ H Q I h => ?_⟩
  refine methForm (plain_base hbs) rfl (by decide) hl (thn (he.run pins s σ H _ I h) fun u s1 ⟨x, H1, I1, rx, a, dx, fs, ex, ea, l, q⟩ => ?_)
  subst ex
  obtain rfl : u = Value.ref a := rx
  refine getmeth_ok I1 ea c hm l ?_
  exact PySem.W.callWith_K0 (first := [.ref a]) I1.kIn hm.kp (run_fnS (us := [.ref a]) (vs := [.ref a]) F hr hb (hx σ) I1 (.cons rfl .nil) q)
/-- x == y, x an instance of the class at C, y one too or a tuple -/
def rOwnC (K : PySem.W.Frag) (C : Addr) (sp : Sp) : R2 := fun x y H Q => ∃ a dx fs b, x = .ref a ∧ y = .ref b ∧ H a = some (.ins C dx fs) ∧ ((∃ dy gs, H b = some (.ins C dy gs)) ∨ (∃ ys, SqT K H b ys)) ∧ sp [x, y] H Q E0
theorem sub_tup {K : PySem.W.Frag} {C : Addr} : PySem.W.subIn K (.type "tuple") (.ref C) = some false := by
  show (fastBuiltinMro "tuple").map (·.contains (.ref C)) = some false
  rfl
theorem op_eqI (m : Meth X.K C "__eq__" f) (F : FnOk X.prog X.w X.K X.mg X.base (L2.CX X.prog X.w) k f fd ps sp) (hr : Room k X.A) (hb : Binds X.K fd ps []) : OpR X (compareOp .Eq) (rOwnC X.K C sp) := by
  intro pins s σ H x y v u Q I rx ry h
  obtain ⟨a, dx, fs, b, rfl, rfl, ha, hb', q⟩ := h
  cases (show v = Value.ref a from rx)
  cases (show u = Value.ref b from ry)
  obtain ⟨mA, O, _, _, _⟩ := ins_get I.hok ha
  obtain ⟨od, J, _⟩ := O.look
  obtain ⟨mm, hF⟩ := I.fr
  have key : ∃ tb, PySem.W.Looks (model X.prog X.w) s.heap (typeOf (.ref b)) tb ∧ PySem.W.notFirst X.K C tb = true := by
    rcases hb' with ⟨dy, gs, hb'⟩ | ⟨ys, hT⟩
    · obtain ⟨mA', O', _, _, _⟩ := ins_get I.hok hb'
      obtain ⟨od', J', _⟩ := O'.look
      exact ⟨.ref C, J'.type, by unfold PySem.W.notFirst; simp⟩
    · obtain ⟨its, r, ⟨⟨cls, dd, data, sl⟩, ho, hc, n, hd⟩, hs⟩ := I.tuple hT
      simp only at hc
      exact ⟨.type "tuple", (PySem.W.Looks.ld ho).andThen (by rw [hc]; exact .now), by unfold PySem.W.notFirst; rw [sub_tup]; simp⟩
  obtain ⟨tb, L, nf⟩ := key
  show wpAny _ _ (richCompare .Eq (.ref a) (.ref b)) _ _ _
  refine PySem.W.cmp_K (op := .Eq) (tb := tb) hr.units0 hF I.ok.mod.kin J L nf m.at_ m.fn ?_
  refine wpAny_mono (run_fn (us := [.ref a, .ref b]) (vs := [.ref a, .ref b]) F hr hb .nil passL I (.cons rfl (.cons rfl .nil)) q) (fun w s' z => ?_) fun _ _ x => x
  obtain ⟨z', H', I', rz, qz⟩ := z
  exact SlX.cmpback rz ⟨z', H', I', rz, qz⟩
/-- x + y of two instances of the class at C; what is raised is wished for at the caller's slots -/
def tOwnI (C : Addr) (sp : Sp) (E : St → XK) (ta tb : TE) : TE := fun σ H Q => ta σ H fun x H1 => tb σ H1 fun y H2 => ∃ a dx fs b dy gs, x = .ref a ∧ y = .ref b ∧ H2 a = some (.ins C dx fs) ∧ H2 b = some (.ins C dy gs) ∧ sp [x, y] H2 Q (E σ)
theorem pe_addI {e2 : Expr} {tb : TE} (m : Meth X.K C "__add__" f) (sf : PySem.W.selfFirst X.K C = true) (F : FnOk X.prog X.w X.K X.mg X.base CX k f fd ps sp) (hr : Room k X.A) (hb : Binds X.K fd ps []) (hx : ∀ σ, PassesAt CX X σ (E σ)) (h1 : PE X e ta) (h2 : PE X e2 tb) :
    PE X (.BinOp e .Add e2 pos) (tOwnI C sp E ta tb) := by
  refine ⟨fun pins s0 σ H0 Q I0 h => ?_⟩
  refine wpAny_BinOp (binT h1 h2 I0 h fun v u s x y H I rx ry h => ?_)
  obtain ⟨a, dx, fs, b, dy, gs, rfl, rfl, ha, hb', q⟩ := h
  cases (show v = Value.ref a from rx)
  cases (show u = Value.ref b from ry)
  obtain ⟨mA, O, _, _, _⟩ := ins_get I.hok ha
  obtain ⟨od, J, _⟩ := O.look
  obtain ⟨mA', O', _, _, _⟩ := ins_get I.hok hb'
  obtain ⟨od', J', _⟩ := O'.look
  obtain ⟨mm, hF⟩ := I.fr
  refine PySem.W.binop_K (op := .Add) hF I.ok.mod.kin J J'.type sf m.at_ m.fn ?_
  refine wpAny_mono (run_fnS (us := [.ref a, .ref b]) (vs := [.ref a, .ref b]) F hr hb (hx σ) I (.cons rfl (.cons rfl .nil)) q) (fun w s' z => ?_) fun _ _ x => x
  obtain ⟨z', H', I', rz, qz⟩ := z
  exact SlX.cmpback rz ⟨z', H', I', rz, qz⟩
/-- len(x) of an instance -/
def rLenO (C : Addr) (sp : Sp) : List V → Hp → VK → Prop := fun xs H Q => ∃ a dx fs, xs = [V.ref a] ∧ H a = some (.ins C dx fs) ∧ sp [.ref a] H (fun v H' => ∃ n : Int, v = .int n ∧ 0 ≤ n ∧ n < 4611686018427387904 ∧ Q (.int n) H') E0
theorem call_lenO (m : Meth X.K C "__len__" f) (F : FnOk X.prog X.w X.K X.mg X.base (L2.CX X.prog X.w) k f fd ps sp) (hr : Room (k + 1) X.A) (hb : Binds X.K fd ps []) : CallR X (.builtin "len") (rLenO C sp) := by
  intro pins s σ H xs us Q I r h
  obtain ⟨a, dx, fs, rfl, ha, q⟩ := h
  obtain ⟨u, rfl, ru⟩ := r.one
  cases (show u = Value.ref a from ru)
  obtain ⟨mA, O, _, _, _⟩ := ins_get I.hok ha
  obtain ⟨od, J, _⟩ := O.look
  have FR := F.raw hb .nil
  refine Calls.call_function_entry kind_len plain_len entry_len (args_len1 _) ?_
  unfold Builtin.«len»
  refine wpAny_bind (m := oneArg "len" _) (wpAny_pure ?_)
  refine wpAny_bind (m := callSpecial? (.ref a) (PySem.Str.ofString "__len__")) (PySem.W.special_fn I.kIn J m.at_ (beq_iff_eq.mp m.fn) (wpAny_mono (wpAny_call (SlX.run_at (us := [.ref a]) (ws := [.ref a]) FR hr.in1 I.env0.in1 passL I (.cons rfl .nil) q)) (fun w s' z => ?_) fun _ _ x => x))
  obtain ⟨z', H', I', rz, n, ez, n0, n1, qz⟩ := z
  subst ez
  obtain ⟨t, e⟩ := (show ∃ t, w = Value.int n t from rz)
  cases e
  refine wpAny_bind (wpAny_holding (wpAny_pure ?_))
  refine wpAny_bind (wpAny_letGo ?_)
  show wpAny _ _ (if n < 0 then _ else _) _ _ _
  rw [if_neg (by omega)]
  show wpAny _ _ (if n ≥ 2 ^ 63 then _ else _) _ _ _
  rw [if_neg (by omega)]
  exact wpAny_bind (wpAny_mkInt (wpAny_pure ⟨_, rfl, .int n, H', I'.tok _, ⟨_, rfl⟩, qz⟩))
end

section
variable {Ω : Wd} {Γ : Cfg} {T : Tab} {Z : Fr} {W : WX} {X : Cx} {k : Nat} {N : List Str} {sc : Scope} {pos : Pos} {a b : Expr} {f g : S → R D} {fs : S → R (List D)}
  {s : S} {G H : Hp} {as ls : List Addr} {σ : St} {Q : VK} {F : Fn} {ds : List D} {vs : List V} {c : Nat}
/-! ### behind a call -/
theorem call_end {F : Fn} (A1 : Abs Ω Z s G as ls σ H) (r1 : RpDs Ω G as ls vs ds) (o1 : Out Ω Z W (relD Ω) G as ls σ (callF F ds s) Q) : spF Ω F vs H Q (WE W σ) := by
  unfold callF at o1
  split at o1
  · rename_i hl
    refine ⟨ds, s.m, G, as, r1.anyl [] hl, hl, A1.sto, ?_⟩
    cases hr : F ds s.m with
    | st => rw [hr] at o1; exact o1.elim
    | ok d m' =>
      rw [hr] at o1
      intro v H' G' as' T' W' r
      obtain ⟨A2, le2⟩ := A1.call T' W'
      exact o1 v H' G' as' ls A2 le2 (r.mono (Same.refl _) (Pre.refl _) ⟨ls, by simp⟩)
    | ex x m' =>
      rw [hr] at o1
      intro dx H' G' as' T' W' r
      obtain ⟨A2, le2⟩ := A1.call T' W'
      exact o1 dx H' G' as' ls A2 le2 r
  · exact o1.elim
theorem calp_end {F : Fn} (A1 : Abs Ω Z s G as ls σ H) (r1 : RpDs Ω G as ls vs ds) (o1 : Out Ω Z W (relD Ω) G as ls σ (calpF F ds s) Q) : spF Ω F vs H Q (WE W σ) := by
  unfold calpF at o1
  split at o1
  · exact o1.elim
  · rename_i qs hq
    have e := purs_eq hq
    have rp := r1.purs hq
    refine ⟨ds, [], G, [], by rw [e]; exact RpDs.map rp, by rw [e]; exact noloc_map qs, ⟨A1.sto.sub, rfl, List.nodup_nil, fun k c a h => by simp at h⟩, ?_⟩
    cases hr : F ds [] with
    | st => rw [hr] at o1; exact o1.elim
    | ok d m' =>
      rw [hr] at o1
      cases d with
      | pur p =>
        intro v H' G' as' T' W' r
        obtain ⟨A2, le2⟩ := A1.calx T'.sub W' fun b z => nomatch z
        exact o1 v H' G' as ls A2 le2 (.pur r.ip)
      | cel _ => exact o1.elim
      | loc _ => exact o1.elim
    | ex x m' =>
      rw [hr] at o1
      intro dx H' G' as' T' W' r
      obtain ⟨A2, le2⟩ := A1.calx T'.sub W' fun b z => nomatch z
      exact o1 dx H' G' as ls A2 le2 r
/-- nothing is raised, nothing but data comes back -/
theorem pure_end {F : Fn} {E : XK} {qs : List P} (A1 : Abs Ω Z s G as ls σ H) (r1 : RpDs Ω G as ls vs ds) (hq : purs ds = some qs)
    (o1 : Out Ω Z W (relD Ω) G as ls σ (match F ds [] with | .ok (.pur p) [] => .ok (.pur p) s | _ => .st) Q) : spF Ω F vs H Q E := by
  have e := purs_eq hq
  have rp := r1.purs hq
  refine ⟨ds, [], G, [], by rw [e]; exact RpDs.map rp, by rw [e]; exact noloc_map qs, ⟨A1.sto.sub, rfl, List.nodup_nil, fun k c a h => by simp at h⟩, ?_⟩
  cases hr : F ds [] with
  | st => rw [hr] at o1; exact o1.elim
  | ok d m' =>
    rw [hr] at o1
    cases d with
    | pur p =>
      cases m' with
      | nil =>
        intro v H' G' as' T' W' r
        obtain rfl := as_nil (m := []) T'
        obtain ⟨A2, le2⟩ := A1.calp T'.sub W'
        exact o1 v H' G' as ls A2 le2 (.pur r.ip)
      | cons _ _ => exact o1.elim
    | cel _ => exact o1.elim
    | loc _ => exact o1.elim
  | ex x m' =>
    rw [hr] at o1
    exact o1.elim
theorem cell_end {F : Fn} {E : XK} (A1 : Abs Ω Z s G as ls σ H) (r1 : RpDs Ω G as ls vs ds) (hl : noloc ds = true)
    (o1 : Out Ω Z W (relD Ω) G as ls σ (match F ds s.m with | .ok d m => .ok d { s with m := m } | _ => .st) Q) : spF Ω F vs H Q E := by
  refine ⟨ds, s.m, G, as, r1.anyl [] hl, hl, A1.sto, ?_⟩
  cases hr : F ds s.m with
  | st => rw [hr] at o1; exact o1.elim
  | ok d m' =>
    rw [hr] at o1
    intro v H' G' as' T' W' r
    obtain ⟨A2, le2⟩ := A1.call T' W'
    exact o1 v H' G' as' ls A2 le2 (r.mono (Same.refl _) (Pre.refl _) ⟨ls, by simp⟩)
  | ex x m' => rw [hr] at o1; exact o1.elim
/-! ### the receiver -/
theorem zip_none {m : Str} : ∀ {ns : List Str} {xs : List V}, ns.contains m = false → (ns.zip xs).lookup m = none
  | [], _, _ => rfl
  | _ :: _, [], _ => rfl
  | n :: ns, x :: xs, h => by
    rw [List.contains_cons, Bool.or_eq_false_iff] at h
    show ((n, x) :: ns.zip xs).lookup m = none
    rw [List.lookup_cons]
    have e : (m == n) = false := h.1
    rw [e]
    exact zip_none h.2
theorem fs_none {m : Str} : ∀ {fs : List (Str × D)}, fs.lookup m = none → (fs.map (·.1)).contains m = false
  | [], _ => rfl
  | (n, x) :: fs, h => by
    rw [List.lookup_cons] at h
    cases e : m == n with
    | true => rw [e] at h; cases h
    | false =>
      rw [e] at h
      rw [List.map_cons, List.contains_cons]
      show (m == n || _) = false
      rw [e]
      exact fs_none h
theorem rec_ok {m : Str} {d : D} {v : V} (A : Abs Ω Z s G as ls σ H) (r : RpD Ω G as ls v d) (h : isRec s c m d = true) : ∃ a dx fs, v = .ref a ∧ H a = some (.ins (Ω.ca c) dx fs) ∧ fs.lookup m = none := by
  unfold isRec at h
  split at h
  · rw [Bool.and_eq_true, Bool.not_eq_true'] at h
    have e := beq_iff_eq.mp h.1
    subst e
    have rp := r.ip
    cases rp with | obj e1 e2 e3 => exact ⟨_, _, _, rfl, A.sto.sub _ _ e1, zip_none h.2⟩
  · split at h
    · rename_i em
      rw [Bool.and_eq_true] at h
      have e := beq_iff_eq.mp h.1
      subst e
      obtain ⟨a, rfl, ea⟩ := r.icel
      obtain ⟨_, dx, vs, hv, rv⟩ := A.sto.cel _ _ _ em ea
      exact ⟨a, dx, _, rfl, hv, zip_none (fs_none (Option.isNone_iff_eq_none.mp h.2))⟩
    · cases h
  · cases h
theorem obj_ok {d : D} {v : V} (A : Abs Ω Z s G as ls σ H) (r : RpD Ω G as ls v d) (h : isObj s c d = true) : ∃ a dx fs, v = .ref a ∧ H a = some (.ins (Ω.ca c) dx fs) := by
  unfold isObj at h
  split at h
  · have e := beq_iff_eq.mp h
    subst e
    have rp := r.ip
    cases rp with | obj e1 e2 e3 => exact ⟨_, _, _, rfl, A.sto.sub _ _ e1⟩
  · split at h
    · rename_i em
      have e := beq_iff_eq.mp h
      subst e
      obtain ⟨a, rfl, ea⟩ := r.icel
      obtain ⟨_, dx, vs, hv, rv⟩ := A.sto.cel _ _ _ em ea
      exact ⟨a, dx, _, rfl, hv⟩
    · cases h
  · cases h
theorem calm_end {F : Fn} {x : D} {v : V} (A1 : Abs Ω Z s G as ls σ H) (rx : RpD Ω G as ls v x) (r1 : RpDs Ω G as ls vs ds) (o1 : Out Ω Z W (relD Ω) G as ls σ (calmF F x ds s) Q) : spF Ω F (v :: vs) H Q (WE W σ) := by
  unfold calmF at o1
  split at o1
  · exact calp_end A1 (.cons rx r1) o1
  · exact call_end A1 (.cons rx r1) o1
/-! ### the language's words for it -/
theorem s_meth {F : Fn} {m : Str} {ap : Pos} {e : Expr} {es : List Expr} {o : Expr} (fact : MetF Ω k (Ω.ca c) m F) (gd : Good Ω k N sc W X) (ho : ∀ Z, PE X o (tE Ω Z W f)) (ha : ∀ Z, PA X (e :: es) (tA Ω Z W fs)) (hb : base o = true) (hl : (ap.endLine == pos.line) = true) (hn : (e :: es).all nst = true) (h20 : (e :: es).length < 20) :
    PE X (.Call (.Attribute o m ap) (e :: es) [] pos) (tE Ω Z W fun s => (f s).bind fun x s => if isRec s c m x then (fs s).bind fun ds s => calmF F x ds s else .st) := by
  obtain ⟨fa, fd, ps, hm, hc, hB, hF⟩ := fact.ex
  have hF' : FnOk X.prog X.w X.K X.mg X.base (L2.CX X.prog X.w) k fa fd ps (spF Ω F) := by rw [gd.P, gd.w, gd.K, gd.mg, gd.base]; exact hF
  refine pe_by fun σ H Q ⟨s, G, as, ls, A, q⟩ => ⟨_, pe_methS (ho Z) (by rw [gd.K]; exact hc) (by rw [gd.K]; exact hm) hF' (gd.room.mono (Nat.le_succ _)) (by rw [gd.K]; exact hB) (fun σ => passAt gd.tk σ) (ha Z) hb hn h20 hl, one A q fun d s1 x H1 G1 as1 ls1 A1 le1 r1 o1 => ?_⟩
  split at o1
  · rename_i hr
    obtain ⟨a, dx, gs, rfl, ea, el⟩ := rec_ok A1 r1 hr
    exact ⟨a, dx, gs, rfl, ea, el, oneA A1 o1 fun ds s2 vs H2 G2 as2 ls2 A2 le2 r2 o2 => calm_end A2 (r1.le le2) r2 o2⟩
  · exact o1.elim
theorem s_meth0 {F : Fn} {m : Str} {ap : Pos} {o : Expr} (fact : MetF Ω k (Ω.ca c) m F) (gd : Good Ω k N sc W X) (ho : ∀ Z, PE X o (tE Ω Z W f)) (hb : base o = true) (hl : (ap.endLine == pos.line) = true) :
    PE X (.Call (.Attribute o m ap) [] [] pos) (tE Ω Z W fun s => (f s).bind fun x s => if isRec s c m x then calmF F x [] s else .st) := by
  obtain ⟨fa, fd, ps, hm, hc, hB, hF⟩ := fact.ex
  have hF' : FnOk X.prog X.w X.K X.mg X.base (L2.CX X.prog X.w) k fa fd ps (spF Ω F) := by rw [gd.P, gd.w, gd.K, gd.mg, gd.base]; exact hF
  refine pe_by fun σ H Q ⟨s, G, as, ls, A, q⟩ => ⟨_, pe_methS0 (ho Z) (by rw [gd.K]; exact hc) (by rw [gd.K]; exact hm) hF' (gd.room.mono (Nat.le_succ _)) (by rw [gd.K]; exact hB) (fun σ => passAt gd.tk σ) hb hl, one A q fun d s1 x H1 G1 as1 ls1 A1 le1 r1 o1 => ?_⟩
  split at o1
  · rename_i hr
    obtain ⟨a, dx, gs, rfl, ea, el⟩ := rec_ok A1 r1 hr
    exact ⟨a, dx, gs, rfl, ea, el, calm_end A1 r1 .nil o1⟩
  · exact o1.elim
theorem s_prop {F : Fn} {m : Str} {o : Expr} (fact : PrpF Ω k (Ω.ca c) m F) (gd : Good Ω k N sc W X) (ho : ∀ Z, PE X o (tE Ω Z W f)) (hb : base o = true) :
    PE X (.Attribute o m pos) (tE Ω Z W fun s => (f s).bind fun x s => if isObj s c x then prpF F x s else .st) := by
  obtain ⟨pa, ga, fd, ps, hp, hc, hB, hF⟩ := fact.ex
  have hF' : FnOk X.prog X.w X.K X.mg X.base (L2.CX X.prog X.w) k ga fd ps (spF Ω F) := by rw [gd.P, gd.w, gd.K, gd.mg, gd.base]; exact hF
  refine pe_by fun σ H Q ⟨s, G, as, ls, A, q⟩ => ⟨_, pe_prop (E := E0) (ho Z) (by rw [gd.K]; exact hc) (by rw [gd.K]; exact hp) hF' gd.room (by rw [gd.K]; exact hB) .nil passL (plain_base hb), one A q fun d s1 x H1 G1 as1 ls1 A1 le1 r1 o1 => ?_⟩
  split at o1
  · rename_i hr
    obtain ⟨a, dx, gs, rfl, ea⟩ := obj_ok A1 r1 hr
    refine ⟨a, dx, gs, rfl, ea, ?_⟩
    unfold prpF at o1
    split at o1
    · exact pure_end A1 (.cons r1 .nil) rfl o1
    · split at o1
      · rename_i hl
        exact cell_end A1 (.cons r1 .nil) hl o1
      · exact o1.elim
  · exact o1.elim
theorem ownP_end {F : Fn} {E : XK} {qs : List P} (A1 : Abs Ω Z s G as ls σ H) (r1 : RpDs Ω G as ls vs ds) (hq : purs ds = some qs) (o1 : Out Ω Z W (relD Ω) G as ls σ (ownRes (F ds []) s) Q) : spF Ω F vs H Q E := pure_end A1 r1 hq o1
theorem own_end {F : Fn} {x y : D} {v u : V} (gd : Good Ω k N sc W X) (A1 : Abs Ω Z s G as ls σ H) (rx : RpD Ω G as ls v x) (ry : RpD Ω G as ls u y) (o1 : Out Ω Z W (relD Ω) G as ls σ (ownC F c x y s) Q) : rOwnC X.K (Ω.ca c) (spF Ω F) v u H Q := by
  unfold ownC at o1
  split at o1
  · split at o1
    · rename_i h
      rw [Bool.and_eq_true] at h
      have e1 := beq_iff_eq.mp h.1
      have e2 := beq_iff_eq.mp h.2
      subst e1
      subst e2
      have rp := rx.ip
      have rq := ry.ip
      cases rp with | obj e1 e2 e3 =>
        cases rq with | obj e4 e5 e6 =>
          exact ⟨_, _, _, _, rfl, rfl, A1.sto.sub _ _ e1, .inl ⟨_, _, A1.sto.sub _ _ e4⟩, ownP_end A1 (.cons rx (.cons ry .nil)) rfl o1⟩
    · exact o1.elim
  · split at o1
    · rename_i h
      have e1 := beq_iff_eq.mp h
      subst e1
      have rp := rx.ip
      have rq := ry.ip
      cases rp with | obj e1 e2 e3 =>
        cases rq with | tup e4 e5 =>
          exact ⟨_, _, _, _, rfl, rfl, A1.sto.sub _ _ e1, .inr ⟨_, by rw [gd.K]; exact sqT_mono A1.sto.sub e4⟩, ownP_end A1 (.cons rx (.cons ry .nil)) rfl o1⟩
    · exact o1.elim
  · exact o1.elim
theorem addI_end {F : Fn} {x y : D} {v u : V} (A1 : Abs Ω Z s G as ls σ H) (rx : RpD Ω G as ls v x) (ry : RpD Ω G as ls u y) (o1 : Out Ω Z W (relD Ω) G as ls σ (ownF F c x y s) Q) :
    ∃ a dx fs b dy gs, v = .ref a ∧ u = .ref b ∧ H a = some (.ins (Ω.ca c) dx fs) ∧ H b = some (.ins (Ω.ca c) dy gs) ∧ spF Ω F [v, u] H Q (WE W σ) := by
  unfold ownF at o1
  split at o1
  · split at o1
    · rename_i h
      rw [Bool.and_eq_true] at h
      have e1 := beq_iff_eq.mp h.1
      have e2 := beq_iff_eq.mp h.2
      subst e1
      subst e2
      have rp := rx.ip
      have rq := ry.ip
      cases rp with | obj e1 e2 e3 =>
        cases rq with | obj e4 e5 e6 =>
          exact ⟨_, _, _, _, _, _, rfl, rfl, A1.sto.sub _ _ e1, A1.sto.sub _ _ e4, calp_end A1 (.cons rx (.cons ry .nil)) o1⟩
    · exact o1.elim
  · exact o1.elim
theorem s_opc {F : Fn} {o : CmpOp} {m : Str} (ho : cmpNm o = some m) (fact : MetF Ω k (Ω.ca c) m F) (gd : Good Ω k N sc W X) (hm : behindInMarks o b = false) (ha : ∀ Z, PE X a (tE Ω Z W f)) (hb : ∀ Z, PE X b (tE Ω Z W g)) :
    PE X (.Compare a [o] [b] pos) (tE Ω Z W fun s => (f s).bind fun x s => (g s).bind fun y s => ownC F c x y s) := by
  obtain ⟨fa, fd, ps, hM, hc, hB, hF⟩ := fact.ex
  have hF' : FnOk X.prog X.w X.K X.mg X.base (L2.CX X.prog X.w) k fa fd ps (spF Ω F) := by rw [gd.P, gd.w, gd.K, gd.mg, gd.base]; exact hF
  cases o <;> first | (cases ho; done) | skip
  cases ho
  exact pe_by fun σ H Q ⟨s, G, as, ls, A, q⟩ => ⟨_, pe_cmpR (op_eqI (by rw [gd.K]; exact hM) hF' (gd.room.mono (Nat.le_succ _)) (by rw [gd.K]; exact hB)) (ha Z) (hb Z) hm, one A q fun d s1 x H1 G1 as1 ls1 A1 le1 r1 o1 => one A1 o1 fun e s2 y H2 G2 as2 ls2 A2 le2 r2 o2 => own_end gd A2 (r1.le le2) r2 o2⟩
theorem t_opc {F : Fn} {o : CmpOp} {m : Str} (ho : cmpNm o = some m) (fact : MetF Ω k (Ω.ca c) m F) (gd : Good Ω k N sc W X) (hm : behindInMarks o b = false) (ha : ∀ Z, PE X a (tE Ω Z W f)) (hb : ∀ Z, PE X b (tE Ω Z W g)) :
    PT X (.Compare a [o] [b] pos) (tT Ω Z W fun s => (f s).bind fun x s => (g s).bind fun y s => ownC F c x y s) := by
  obtain ⟨fa, fd, ps, hM, hc, hB, hF⟩ := fact.ex
  have hF' : FnOk X.prog X.w X.K X.mg X.base (L2.CX X.prog X.w) k fa fd ps (spF Ω F) := by rw [gd.P, gd.w, gd.K, gd.mg, gd.base]; exact hF
  cases o <;> first | (cases ho; done) | skip
  cases ho
  refine pt_by fun σ H Q ⟨s, G, as, ls, A, q, hq⟩ => ⟨_, pt_cmpR (op_eqI (by rw [gd.K]; exact hM) hF' (gd.room.mono (Nat.le_succ _)) (by rw [gd.K]; exact hB)) (ha Z) (hb Z) hm, ?_⟩
  have q' : Out Ω Z W (relD Ω) G as ls σ ((f s).bind fun x s => (g s).bind fun y s => ownC F c x y s) (fun v H => ∃ k, v = .bl k ∧ Q k H) := by
    have q0 : Out Ω Z W relB G as ls σ ((f s).bind fun x s => (g s).bind fun y s => ownC F c x y s) Q := q
    have hq0 : ∀ d s', ((f s).bind fun x s => (g s).bind fun y s => ownC F c x y s) = .ok d s' → ∃ k, d = .pur (.bl k) := hq
    clear q hq
    revert q0 hq0
    cases ((f s).bind fun x s => (g s).bind fun y s => ownC F c x y s) with
    | st => exact fun q _ => q
    | ex x s' => exact fun q _ => q
    | ok d s' =>
      intro q hq
      obtain ⟨kk, rfl⟩ := hq d s' rfl
      exact fun v H' G' as' ls' A' le r => ⟨kk, r.bl, q kk H' G' as' ls' A' le rfl⟩
  exact one A q' fun d s1 x H1 G1 as1 ls1 A1 le1 r1 o1 => one A1 o1 fun e s2 y H2 G2 as2 ls2 A2 le2 r2 o2 => own_end gd A2 (r1.le le2) r2 o2
theorem s_opb {F : Fn} {o : Operator} {m x0 : Str} (ho : binNm o = some m) (fact : MetF Ω k (Ω.ca c) m F) (ic : InsF Ω x0 (Ω.ca c)) (gd : Good Ω k N sc W X) (ha : ∀ Z, PE X a (tE Ω Z W f)) (hb : ∀ Z, PE X b (tE Ω Z W g)) :
    PE X (.BinOp a o b pos) (tE Ω Z W fun s => (f s).bind fun x s => (g s).bind fun y s => ownF F c x y s) := by
  obtain ⟨fa, fd, ps, hM, hc, hB, hF⟩ := fact.ex
  have hF' : FnOk X.prog X.w X.K X.mg X.base (L2.CX X.prog X.w) k fa fd ps (spF Ω F) := by rw [gd.P, gd.w, gd.K, gd.mg, gd.base]; exact hF
  cases o <;> first | (cases ho; done) | skip
  cases ho
  exact pe_by fun σ H Q ⟨s, G, as, ls, A, q⟩ => ⟨_, pe_addI (by rw [gd.K]; exact hM) (by rw [gd.K]; exact ic.sf) hF' (gd.room.mono (Nat.le_succ _)) (by rw [gd.K]; exact hB) (fun σ => passAt gd.tk σ) (ha Z) (hb Z), one A q fun d s1 x H1 G1 as1 ls1 A1 le1 r1 o1 => one A1 o1 fun e s2 y H2 G2 as2 ls2 A2 le2 r2 o2 => addI_end A2 (r1.le le2) r2 o2⟩
theorem s_lenO {F : Fn} {p : Pos} (FF : Facts Ω Γ T k) (fact : MetF Ω k (Ω.ca c) "__len__" F) (gd : Good Ω k N sc W X) (hg : glo sc "len" = true) (hn : nst a = true) (ha : ∀ Z, PE X a (tE Ω Z W f)) :
    PE X (.Call (.Name "len" p) [a] [] pos) (tE Ω Z W fun s => (f s).bind fun x s => lenF F c x s) := by
  obtain ⟨fa, fd, ps, hM, hc, hB, hF⟩ := fact.ex
  have hF' : FnOk X.prog X.w X.K X.mg X.base (L2.CX X.prog X.w) k fa fd ps (spF Ω F) := by rw [gd.P, gd.w, gd.K, gd.mg, gd.base]; exact hF
  refine pe_by fun σ H Q ⟨s, G, as, ls, A, q⟩ => ⟨_, pe_callB (call_lenO (by rw [gd.K]; exact hM) hF' gd.room (by rw [gd.K]; exact hB)) (glo_of gd hg).1 (mg_blt FF gd (by decide +kernel)) (by decide +kernel) (pa_cons' hn (ha Z) pa_nil) (by decide) (by decide) (star_ne hn) (star_any rfl), one A q fun d s1 x H1 G1 as1 ls1 A1 le1 r1 o1 => ?_⟩
  unfold lenF at o1
  split at o1
  · split at o1
    · rename_i h
      have e1 := beq_iff_eq.mp h
      subst e1
      have rp := r1.ip
      cases rp with | obj e1 e2 e3 =>
        refine ⟨_, _, _, rfl, A1.sto.sub _ _ e1, pure_end (W := W) A1 (.cons r1 .nil) rfl ?_⟩
        unfold lenRes at o1
        split at o1
        · rename_i hr
          rw [hr]
          split at o1
          · rename_i hb
            rw [Bool.and_eq_true, decide_eq_true_eq, decide_eq_true_eq] at hb
            intro v H' G' as' ls' A' le r
            exact ⟨_, r.int, hb.1, hb.2, by have := o1 v H' G' as' ls' A' le r; rw [r.int] at this; exact this⟩
          · exact o1.elim
        · exact o1.elim
    · exact o1.elim
  · exact o1.elim
theorem s_isc {x0 : Str} {p q : Pos} (F : Facts Ω Γ T k) (ic : InsF Ω x0 (Ω.ca c)) (gd : Good Ω k N sc W X) (hg : glo sc "isinstance" = true) (hg2 : glo sc x0 = true) (hn : nst a = true) (ha : ∀ Z, PE X a (tE Ω Z W f)) :
    PE X (.Call (.Name "isinstance" p) [a, .Name x0 q] [] pos) (tE Ω Z W fun s => (f s).bind fun x s => match x with
      | .pur (.obj c' _ _) => if c' == c then .ok (.pur (.bl true)) s else .st
      | .pur (.tup _) => .ok (.pur (.bl false)) s
      | _ => .st) := by
  have hC : C8.InsC X.K (Ω.ca c) := by rw [gd.K]; exact ic.ic
  refine pe_by fun σ H Q ⟨s, G, as, ls, A, q⟩ => ⟨_, pe_callB (call_any (f := .builtin "isinstance")) (glo_of gd hg).1 (mg_blt F gd (by decide +kernel)) (by decide +kernel) (pa_cons' hn (ha Z) (pa_cons' rfl (C8.pe_gc (v := .ref (Ω.ca c)) (glo_of gd hg2).1 ⟨_, by rw [gd.mg]; exact ic.mg, rfl⟩ (okn_1 (glo_of gd hg2).2).1) pa_nil)) (by decide) (by decide) (star_ne hn) (star_any rfl), one A q fun d s1 x H1 G1 as1 ls1 A1 le1 r1 o1 => ?_⟩
  split at o1
  · split at o1
    · rename_i h
      have e := beq_iff_eq.mp h
      subst e
      have rp := r1.ip
      cases rp with | obj e1 e2 e3 =>
        exact ⟨_, C8.call_isC hC, _, _, _, rfl, A1.sto.sub _ _ e1, o1 _ _ _ _ _ A1 (Le.refl _ _ _) (.pur (.bl _))⟩
    · exact o1.elim
  · exact ⟨_, call_isi, x, .ref (Ω.ca c), .type "tuple", .ref (Ω.ca c), false, rfl, .own _, ty_of gd A1.sto.sub r1.ip rfl, by rw [gd.K]; exact ic.nt, o1 _ _ _ _ _ A1 (Le.refl _ _ _) (.pur (.bl _))⟩
  · exact o1.elim
end
end Ev
end

section
set_option Elab.async false
set_option linter.all false
set_option maxRecDepth 100000
set_option maxHeartbeats 4000000
/-! EvTxt: split, join; a class made as a cell. -/
namespace Ev
open PySem PySem.Spec L2
open PyProof.Rows hiding St

section
variable {Ω : Wd} {Γ : Cfg} {T : Tab} {Z : Fr} {W : WX} {X : Cx} {k : Nat} {N : List Str} {sc : Scope} {pos : Pos} {a b : Expr} {f g : S → R D} {fs : S → R (List D)}
  {s : S} {G H : Hp} {as ls : List Addr} {σ : St} {Q : VK} {F : Fn} {ds : List D} {vs : List V} {c : Nat}
theorem strs_rp : ∀ (ys : List Str) {G : Hp}, RpPs Ω G (ys.map V.str) (ys.map P.str)
  | [], _ => .nil
  | y :: ys, _ => .cons (.str y) (strs_rp ys)
theorem strs_of : ∀ {ps : List P} {ys : List Str} {vs : List V}, RpPs Ω G vs ps → strsP ps = some ys → vs = ys.map V.str
  | [], ys, vs, r, e => by
    simp [strsP] at e
    subst e
    cases r
    rfl
  | p :: ps, ys, vs, r, e => by
    cases p <;> simp [strsP] at e
    obtain ⟨zs, e1, rfl⟩ := e
    cases r with | cons r1 r2 =>
      cases r1
      rw [strs_of r2 e1]
      rfl
theorem s_spl {ap : Pos} (gd : Good Ω k N sc W X) (ho : ∀ Z, PE X a (tE Ω Z W f)) (he : ∀ Z, PE X b (tE Ω Z W g)) (hb : base a = true) (hl : (ap.endLine == pos.line) = true) (hn : nst b = true) :
    PE X (.Call (.Attribute a "split" ap) [b] [] pos) (tE Ω Z W fun s => (f s).bind fun x s => match x with
      | .pur (.str z) => (g s).bind fun y s => R.pure ((splD z y).map D.pur) s
      | _ => .st) := by
  refine pe_by fun σ H Q ⟨s, G, as, ls, A, q⟩ => ⟨_, pe_split (ho Z) (he Z) (star_1 hn) (plain_base hb) hl, one A q fun d s1 x H1 G1 as1 ls1 A1 le1 r1 o1 => ?_⟩
  split at o1
  · obtain rfl := r1.str
    refine ⟨⟨_, rfl⟩, one A1 o1 fun e s2 y H2 G2 as2 ls2 A2 le2 r2 o2 => ?_⟩
    obtain ⟨r, er, t⟩ := Out.pure A2 o2
    obtain ⟨p, ep, rfl⟩ := map_some er
    have t : Told Ω Z s2 G2 as2 ls2 σ (.pur p) Q := t
    unfold splD at ep
    split at ep
    · split at ep
      · rename_i h
        cases ep
        rw [Bool.and_eq_true, Bool.not_eq_true', decide_eq_true_eq, line_eq] at h
        obtain rfl := r2.str
        exact ⟨_, _, rfl, rfl, h.1, h.2, fun p hp => t.lst A2 (strs_rp _) hp⟩
      · cases ep
    · cases ep
  · exact o1.elim
theorem s_joi {ap : Pos} (gd : Good Ω k N sc W X) (ho : ∀ Z, PE X a (tE Ω Z W f)) (he : ∀ Z, PE X b (tE Ω Z W g)) (hb : base a = true) (hl : (ap.endLine == pos.line) = true) (hn : nst b = true) :
    PE X (.Call (.Attribute a "join" ap) [b] [] pos) (tE Ω Z W fun s => (f s).bind fun x s => match x with
      | .pur (.str z) => (g s).bind fun y s => R.pure ((joiD z y).map D.pur) s
      | _ => .st) := by
  refine pe_by fun σ H Q ⟨s, G, as, ls, A, q⟩ => ⟨_, pe_join (ho Z) (he Z) (star_1 hn) (plain_base hb) hl, one A q fun d s1 x H1 G1 as1 ls1 A1 le1 r1 o1 => ?_⟩
  split at o1
  · obtain rfl := r1.str
    refine ⟨⟨_, rfl⟩, one A1 o1 fun e s2 y H2 G2 as2 ls2 A2 le2 r2 o2 => ?_⟩
    obtain ⟨r, er, t⟩ := Out.pure A2 o2
    obtain ⟨p, ep, rfl⟩ := map_some er
    have t : Told Ω Z s2 G2 as2 ls2 σ (.pur p) Q := t
    unfold joiD at ep
    split at ep
    · cases hs : strsP _ with
      | none => rw [hs] at ep; cases ep
      | some ys =>
        rw [hs] at ep
        obtain ⟨a', xs, rfl, e1, e2⟩ := r2.lst
        have e3 := strs_of e2 hs
        subst e3
        have ep : (if (ys.map (·.length)).sum + ys.length * _ ≤ line then some (P.str (Txt.join _ ys)) else none) = some p := ep
        split at ep
        · rename_i h
          cases ep
          exact ⟨_, a', ys, rfl, rfl, .inl (SqL.of (A2.sto.sub _ _ e1)), h, t.flat A2 (.str _)⟩
        · cases ep
    · cases hs : strsP _ with
      | none => rw [hs] at ep; cases ep
      | some ys =>
        rw [hs] at ep
        obtain ⟨a', xs, rfl, e1, e2⟩ := r2.tup
        have e3 := strs_of e2 hs
        subst e3
        have ep : (if (ys.map (·.length)).sum + ys.length * _ ≤ line then some (P.str (Txt.join _ ys)) else none) = some p := ep
        split at ep
        · rename_i h
          cases ep
          exact ⟨_, a', ys, rfl, rfl, .inr (by rw [gd.K]; exact sqT_mono A2.sto.sub e1), h, t.flat A2 (.str _)⟩
        · cases ep
    · cases ep
  · exact o1.elim
theorem s_mkc {F : Fn} {x : Str} {p : Pos} {e : Expr} {es : List Expr} {c : Nat} (fact : MkFct Ω k x (Ω.ca c) F) (gd : Good Ω k N sc W X) (hg : glo sc x = true) (hn : (e :: es).all nst = true) (ha : ∀ Z, PA X (e :: es) (tA Ω Z W fs)) :
    PE X (.Call (.Name x p) (e :: es) [] pos) (tE Ω Z W fun s => (fs s).bind fun ds s => mkcF c F ds s) := by
  obtain ⟨fI, fd, ps, hm, hk, hb, hF⟩ := fact.ex
  have hn' := hn
  rw [List.all_cons, Bool.and_eq_true] at hn'
  have hF' : FnOk X.prog X.w X.K X.mg X.base (L2.CX X.prog X.w) k fI fd ps (spF Ω F) := by rw [gd.P, gd.w, gd.K, gd.mg, gd.base]; exact hF
  refine pe_by fun σ H Q ⟨s, G, as, ls, A, q⟩ => ⟨_, pe_make (E := E0) (by rw [gd.K]; exact hk) hF' gd.room (glo_of gd hg).1 (by rw [gd.mg]; exact hm) (by rw [gd.K]; exact hb) .nil passL (ha Z) (okn_1 (glo_of gd hg).2).1 (star_ne hn'.1) (star_any hn'.2), oneA A q fun ds s1 vs H1 G1 as1 ls1 A1 le1 r1 o1 => ?_⟩
  rw [List.append_nil]
  intro x dx hx hdx hne
  unfold mkcF at o1
  split at o1
  · rename_i hl
    have A2 : Abs Ω Z s1 G1 as1 ls1 σ (upd H1 dx (.own x)) := A1.other fun b hb => by
      have n1 : ∀ q, H1 q = none → b ≠ q := fun q hq z => by
        subst z
        rcases hb with h | h | h | h
        · exact h (same_none A1.sto.sub hq)
        · exact A1.nas hq h
        · exact A1.nls hq h
        · exact h (A1.unew hq)
      exact upd_ne (n1 dx hdx)
    have hx2 : upd H1 dx (.own x) x = none := (upd_ne hne.symm).trans hx
    obtain ⟨A3, le3⟩ := A2.newC (o := .ins (Ω.ca c) dx []) (c := .ins c []) hx2 fun H' e => ⟨dx, [], e, .nil⟩
    have hlen : as1.length = s1.m.length := A1.sto.len
    have rx : RpD Ω G1 (as1 ++ [x]) ls1 (.ref x) (.cel s1.m.length) := .cel (by rw [← hlen]; simp)
    have r3 : RpDs Ω G1 (as1 ++ [x]) [] (.ref x :: vs) (.cel s1.m.length :: ds) := (RpDs.cons rx (r1.mono le3.g le3.a le3.l)).anyl [] hl
    refine ⟨.cel s1.m.length :: ds, s1.m ++ [.ins c []], G1, as1 ++ [x], r3, hl, A3.sto, ?_⟩
    cases hr : F (.cel s1.m.length :: ds) (s1.m ++ [.ins c []]) with
    | st => rw [hr] at o1; exact o1.elim
    | ex x m' => rw [hr] at o1; exact o1.elim
    | ok d m' =>
      rw [hr] at o1
      intro v H' G' as' T' W' r
      obtain ⟨A4, le4⟩ := A3.call T' W'
      cases d with
      | pur p =>
        cases p with
        | non => exact ⟨r.non, o1 _ _ _ _ _ A4 (le3.trans le4) (rx.le le4)⟩
        | _ => exact o1.elim
      | cel _ => exact o1.elim
      | loc _ => exact o1.elim
  · exact o1.elim
end
end Ev
end

section
set_option Elab.async false
set_option linter.all false
set_option maxRecDepth 100000
set_option maxHeartbeats 4000000
/-! EvExc: own exceptions whose __init__ says super().__init__("text") and stores its parameters: made, raised. -/
namespace Ev
open PySem PySem.Spec L2
open PyProof.Rows hiding St

/-! ### the stores -/
/-- the exception at e as it is being made: its dict, what is stored by now -/
def XAt (hp h : Heap) (L e C : Addr) (dv : Option Addr) (done : List (Str × Value)) : Prop :=
  (∃ t : Addr, h.get? e = some ({ cls := .ref C, dict := dv, data := .fields #[.ref t, .none, .none, .none, .bool false, .none] } : Obj)) ∧ (∀ b o, hp.get? b = some o → h.get? b = some o) ∧
  match dv with
  | none => done = []
  | some dx => done ≠ [] ∧ hp.objs.size ≤ dx ∧ dx ≠ e ∧ dx ≠ L ∧ ∃ m, h.Ns1 dx m ∧ ∀ y, m y = done.lookup y
theorem ns_keep {h h' : Heap} {L e : Addr} {m : Str → Option Value} (hn : h.Ns L m) (k : ∀ b o, b ≠ e → h.get? b = some o → h'.get? b = some o) (n : L ≠ e) : h'.Ns L m := by
  obtain ⟨o, es, ep, ho, r⟩ := hn
  exact ⟨o, es, ep, k _ _ n ho, r⟩
theorem ns_all {h h' : Heap} {a : Addr} {m : Str → Option Value} (hn : h.Ns a m) (k : ∀ b o, h.get? b = some o → h'.get? b = some o) : h'.Ns a m := by
  obtain ⟨o, es, ep, ho, r⟩ := hn
  exact ⟨o, es, ep, k _ _ ho, r⟩
theorem lookup_cons1 {α : Type} (f g : Str) (y : α) (fs : List (Str × α)) : ((f, y) :: fs).lookup g = if g = f then some y else fs.lookup g := by
  rw [List.lookup_cons]
  by_cases h : g = f
  · subst h; simp
  · have e : (g == f) = false := by simpa using h
    rw [e, if_neg h]
theorem within_look : ∀ (done : List (Str × Value)), Within (fun y => done.lookup y) (done.map (·.1))
  | [], y, h => absurd rfl h
  | (f, v) :: r, y, h => by
    have h : ((f, v) :: r).lookup y ≠ none := h
    rw [lookup_cons1] at h
    by_cases e : y = f
    · rw [e]; exact List.mem_cons_self
    · rw [if_neg e] at h
      exact List.mem_cons_of_mem _ (within_look r y h)

/-- o.m(..), o in a frame that is known -/
theorem methFormAt {prog : Program} {w : World} {A : Around} {c : Code} {E : Value → Shared → Prop} {o : Expr} {name : Str} {apos pos : Pos} {args : List Expr} {env : Env} {Q : Value → Shared → Prop} {s : Shared}
    (hn : args.all nst = true) (h20 : args.length < 20) (hline : (apos.endLine == pos.line) = true)
    (h : _root_.PySem.wpAt (model prog w) A c (attributeBase o name env (eval o env)) (fun ov s₁ => wpAny (model prog w) A (getMethod ov name (do return (← importBound o env).getD true)) (fun fx s₂ => wpAny (model prog w) A (callWith pos fx.1 fx.2 (backTo pos (starEach args env)) (backToKw pos (keywordEach [] env))) Q E s₂) E s₁) E s) :
    _root_.PySem.wpAt (model prog w) A c (eval (.Call (.Attribute o name apos) args [] pos) env) Q E s := by
  rw [arm_eval_Call]
  refine _root_.PySem.wpAt_bind (_root_.PySem.wpAt_mono h (fun ov s₁ h₁ => _root_.PySem.wpAt_of_wpAny ?_) fun _ _ e => e)
  refine wpAny_bind (wpAny_standAt ?_)
  have hform : methodCallForm (args.length + ([] : List Keyword).length) (backTo pos (starEach args env)) (backToKw pos (keywordEach [] env)) = true := by
    unfold methodCallForm
    rw [all_star hn, kw_nil]
    simp only [Bool.true_and, decide_eq_true_eq]
    simp only [List.length_nil]
    show args.length + 0 + 0 < 30
    omega
  have hpos : methodCallPos true o env apos pos = pure pos := by unfold methodCallPos; simp [hline]
  unfold methodCall
  rw [hform]
  refine wpAny_bind (wpAny_holding (wpAny_mono h₁ (fun fx s₂ h₂ => ?_) fun _ _ e => e))
  obtain ⟨fv, first⟩ := fx
  exact wpAny_bind (wpAny_of_eq hpos h₂)
section
variable {P : Program} {w : World} {K : PySem.W.Frag} {hp : Heap} {L e C f cc : Addr} {cdv : Value} {fs0 : List Str} {q : Str} {sc : Scope} {A : Around} {E : Value → Shared → Prop} {g : Array GenState} {d : Drawn} {os : OsState} {m : Str → Option Value}
theorem xc_stores (T : XcK P K C fs0) (X0 : K.In hp) (hL : hp.objs.size ≤ L) (hLe : L ≠ e) (he0 : hp.get? e = none) (hk : sc.kind = .function) (hse : sc.names.lookup ("self" : Str) = some .local) (hs : m ("self" : Str) = some (.ref e)) {Q : Flow → Shared → Prop} :
    ∀ (fs : List Str) (us : List Value) (r : List Stmt) (dv : Option Addr) (done : List (Str × Value)) (h : Heap) (tk : Nat), us.length = fs.length → xsto fs r = true →
      (∀ y ∈ fs, y ∈ fs0 ∧ sc.names.lookup y = some .local ∧ (y == ("__debug__" : Str)) = false) → (∀ (i : Nat) (y : Str) (u : Value), fs[i]? = some y → us[i]? = some u → m y = some u) →
      done.length + fs.length ≤ 200 → XAt hp h L e C dv done → h.Ns L m → (∀ h' tk' dv', XAt hp h' L e C dv' ((fs.zip us).reverse ++ done) → Q .next ⟨h', g, d, tk', os⟩) →
      wpAny (model P w) A (execs r (PySem.W.ksEnv q sc L f cdv cc)) Q E ⟨h, g, d, tk, os⟩ := by
  obtain ⟨nm, qn, N, bs, bm, sn, sub, ab, col, dd, k0, k1, k2, k3, k5, hC, hbm⟩ := T.cls
  have hcl : PySem.W.clsIn K C = some { name := nm, bases := bs, mro := .ref C :: bm, ns := N, qualname := qn, hasDict := true, slotNames := sn, subclasses := sub, abstract := ab, collection := col, hasDel := false } := by
    unfold PySem.W.clsIn
    rw [hC] <;> rfl
  intro fs
  induction fs with
  | nil =>
    intro us r dv done h tk hl hr hy hv hz x hn hq
    cases us with
    | cons _ _ => cases hl
    | nil =>
      cases r with
      | nil => exact wpAny_execs_nil (hq h tk dv x)
      | cons _ _ => simp [xsto] at hr
  | cons y fs ih =>
    intro us r dv done h tk hl hr hy hv hz x hn hq
    cases us with
    | nil => cases hl
    | cons u us =>
      unfold xsto at hr
      split at hr
      · rename_i he; cases he
      · rename_i y' fs' s' p1 g' p2 x' p3 p4 r' hfs
        cases hfs
        simp only [Bool.and_eq_true, decide_eq_true_eq] at hr
        obtain ⟨⟨⟨rfl, rfl⟩, rfl⟩, hr⟩ := hr
        obtain ⟨hy0, hyl, hyd⟩ := hy _ List.mem_cons_self
        have hu : m x' = some u := hv 0 x' u rfl rfl
        have hno := T.na _ hy0
        obtain ⟨⟨t, ho⟩, kp, hdv⟩ := x
        have KX : K.In h := X0.keeps kp
        have go : ∀ (h' : Heap) (tk' : Nat) (dv' : Option Addr), XAt hp h' L e C dv' ((x', u) :: done) → h'.Ns L m → wpAny (model P w) A (execs r' (PySem.W.ksEnv q sc L f cdv cc)) Q E ⟨h', g, d, tk', os⟩ := fun h' tk' dv' xa hn' =>
          ih us r' dv' ((x', u) :: done) h' tk' (Nat.succ.inj hl) hr (fun z hz => hy z (List.mem_cons_of_mem _ hz)) (fun i z v e1 e2 => hv (i + 1) z v (by simpa using e1) (by simpa using e2)) (by simp only [List.length_cons] at hz ⊢; omega) xa hn' fun h2 tk2 dv2 x2 => hq h2 tk2 dv2 (by
            have e : (((x' :: fs).zip (u :: us)).reverse ++ done : List (Str × Value)) = (fs.zip us).reverse ++ ((x', u) :: done) := by simp
            rw [e]; exact x2)
        refine wpAny_execs_cons (plainObj_wpAny_Assign_Attribute ?_)
        refine ESX.ldL (env := PySem.W.ksEnv q sc L f cdv cc) hn hu ?_ hk hyl hyd
        refine ESX.ldL (env := PySem.W.ksEnv q sc L f cdv cc) hn hs ?_ hk hse (by decide)
        cases dv with
        | none =>
          have hd : done = [] := hdv
          subst hd
          refine PySem.W.set_plain KX (ox := { cls := .ref C, dict := none, data := .fields #[.ref t, .none, .none, .none, .bool false, .none] }) (od := none) ⟨ho, rfl, rfl, trivial⟩ T.sa ?_
          refine PySem.HandSPX.exc_osa KX ho hcl (show PySem.HandSPX.refsVE (.ref C :: bm) = true from hbm) rfl hno (fun h' tk' dx k dn dne hx hn' => ?_)
          have hnl : dx ≠ L := fun z => absurd hn.lt (Nat.not_lt.mpr (z ▸ dn))
          have fresh : hp.objs.size ≤ dx := Nat.le_trans (Nat.le_trans hL (Nat.le_of_lt hn.lt)) dn
          refine go h' tk' (some dx) ⟨⟨t, hx⟩, fun b o z => ?_, fun z => (nomatch z), fresh, dne, hnl, _, hn', fun z => by rw [lookup_cons1]; rfl⟩ (ns_keep hn k hLe)
          by_cases hb : b = e
          · subst hb
            rw [he0] at z; cases z
          · exact k b o hb (kp b o z)
        | some dx =>
          obtain ⟨_, fresh, dne, hnl, m1, hns, hm1⟩ := hdv
          obtain ⟨oD, esD, epD, hoD, rD⟩ := id hns
          have hw : Within m1 (done.map (·.1)) := fun z hz => within_look done z (by show done.lookup z ≠ none; rw [← hm1 z]; exact hz)
          refine PySem.W.set_plain KX (ox := { cls := .ref C, dict := some dx, data := .fields #[.ref t, .none, .none, .none, .bool false, .none] }) (od := some oD) ⟨ho, rfl, rfl, hoD⟩ T.sa ?_
          refine PySem.OEX.osa_old KX ho hns hw (by rw [List.length_map]; omega) hcl (show PySem.HandSPX.refsVE (.ref C :: bm) = true from hbm) rfl hno (fun h' tk' k hn' => ?_)
          refine go h' tk' (some dx) ⟨⟨t, k _ _ dne.symm ho⟩, fun b o z => k b o (fun z2 => by rw [z2] at z; exact absurd (Heap.lt_size z) (Nat.not_lt.mpr fresh)) (kp b o z), fun z => (nomatch z), fresh, dne, hnl, _, hn', fun z => ?_⟩ (ns_keep hn k hnl.symm)
          rw [lookup_cons1, hm1]
      · cases hr

theorem xc_super {fs : List Str} {mg mb : Str → Option Value} {oc ccl cl : Value} {od cdd cld : Option Addr} {osl ccs csl : Array (Option Value)} {fd : FuncData} {vs : Array Value} {file : Str} {tf : Tok} {cda : Addr} {h : Heap} {t0 : Addr} {tk : Nat}
    {p0 p1 ap cp pos pp : Pos} {txt : Str} {j : Nat} {body : List Stmt} {Q : Flow → Shared → Prop}
    (T : XcK P K C fs) (X0 : K.In hp) (F : PyProof.Rows.Fr hp L h m) (N : PyProof.Rows.News hp L h [(e, PySem.W.excObj C t0 none .none)]) (hg : hp.Ns mainGlobals mg) (hb : hp.Ns builtinsNs mb) (hbv : ∀ x : Str, x ≠ "__name__" → mb x = bootBuiltins x)
    (hf : K.lookup f = some ⟨oc, od, .func fd, osl⟩) (hpar : xpar fd.params = true) (hs : m ("self" : Str) = some (.ref e))
    (hcode : K.lookup cda = some ⟨ccl, cdd, .fields vs, ccs⟩) (hvs : vs[2]? = some (.str file tf)) (hfile : ((P.main.file : Str) == file) = true)
    (hcell : K.lookup cc = some ⟨cl, cld, .cell (some (.ref C)), csl⟩) (htop : (P.main.scope.names.lookup ("super" : Str)).isSome = false)
    (hline : (ap.endLine == pos.line) = true) (hks : sc.names.lookup ("super" : Str) = some .globalImplicit) (hkc : sc.names.lookup ("__class__" : Str) = some .free) (hka : sc.names.lookup ("self" : Str) = some .local) (hk : sc.kind = .function)
    (h2 : ∀ h' tk', XAt hp h' L e C none [] → h'.Ns L m → Q .next ⟨h', g, d, tk', os⟩) :
    _root_.PySem.wpAt (model P w) A (.func body (PySem.W.ksEnv q sc L f (.ref cda) cc)) (exec (.Expr (.Call (.Attribute (.Call (.Name "super" p0) [] [] p1) "__init__" ap) [.Constant (.str txt) j cp] [] pos) pp) (PySem.W.ksEnv q sc L f (.ref cda) cc)) Q E ⟨h, g, d, tk, os⟩ := by
  have X : K.In h := X0.keeps F.keep
  obtain ⟨nm, qn, NN, bs, bm, sn, sub, ab, col, dd, k0, k1, k2, k3, k5, hC, hbm⟩ := T.cls
  have hcl : PySem.W.clsIn K C = some { name := nm, bases := bs, mro := .ref C :: bm, ns := NN, qualname := qn, hasDict := true, slotNames := sn, subclasses := sub, abstract := ab, collection := col, hasDel := false } := by
    unfold PySem.W.clsIn
    rw [hC] <;> rfl
  have hx := (N _ List.mem_cons_self).1
  have I : PySem.W.InstAt h e (PySem.W.excObj C t0 none .none) C none := ⟨hx, rfl, rfl, trivial⟩
  obtain ⟨ar, har, hself⟩ : ∃ ar, (fd.params.posonlyargs ++ fd.params.args).head? = some ar ∧ ar.arg = "self" := by
    unfold xpar at hpar
    split at hpar
    · exact ⟨_, by assumption, of_decide_eq_true hpar⟩
    · cases hpar
  have hxc : e ≠ C := PySem.W.ks_ne X I hcl
  refine PySem.ks_wpAt_Expr_any (methFormAt rfl (by simp) hline ?_) (by simp [interactive, hk]) (by rfl)
  refine PySem.ks_wpAt_super_base (env := PySem.W.ksEnv q sc L f (.ref cda) cc) hks hkc (by decide) rfl (X _ _ hf) rfl har rfl (X _ _ hcode) rfl hvs hfile htop ?_
  refine PySem.W.ks_loadName_global hk hks (PySem.Calls.loadGlobal_builtin (env := PySem.W.ksEnv q sc L f (.ref cda) cc) (ns_all hg F.keep) (PySem.W.mg_none_of X0 hg T.su) (ns_all hb F.keep) ((hbv _ (by decide)).trans (by decide +kernel : bootBuiltins ("super" : Str) = some (.type "super"))) ⟨rfl, ?_⟩)
  refine wpAny_loadName_free hk hkc rfl ⟨_, X _ _ hcell, rfl⟩ ?_
  rw [hself]
  refine wpAny_loadName_local hk hka F.ns hs ?_
  refine PySem.ks_wpAny_isType_cls (X _ _ hC) rfl ⟨rfl, ?_⟩
  refine PySem.ks_wpAny_call_super (X _ _ hC) rfl hx rfl (fun c z => by cases z) (PySem.W.looks_mroIn X T.mr) (fun h' e' k => ?_)
  obtain ⟨F1, N1, l1⟩ := PySem.W.ks_newsPush (s := ⟨h, g, d, tk, os⟩) F N rfl e' k
  have I1 : PySem.W.InstAt h' e (PySem.W.excObj C t0 none .none) C none := ⟨k _ _ hx, rfl, rfl, trivial⟩
  refine PySem.W.kxs_method (s := ⟨h', g, d, tk, os⟩) PySem.W.kxs_ValueError F1 X0 N1 List.mem_cons_self I1 T.op T.ki T.veC (by decide) fun u h3 F2 N2 l2 => ?_
  refine PySem.W.kxs_callWith1 N2 List.mem_cons_self (PySem.Calls.spliced_cons (wpAny_Constant_str (k := j) (pos := cp) (PySem.Calls.spliced_nil ⟨PySem.W.kxs_at N2 List.mem_cons_self, ?_⟩)))
  refine PySem.W.kxs_call (t := t0) (dv := none) (c2 := .none) F2 X0 N2 PySem.F.excBase_ValueError T.ii List.mem_cons_self (.tail ?n1 (.tail ?n2 (.head fun _ z => nomatch z))) (by rw [sizeLine_eq]; simp) fun t1 h4 F3 N3 l3 => ?_
  case n1 => exact (Nat.ne_of_lt (l2 (e, PySem.W.excObj C t0 none .none) (by simp))).symm
  case n2 => exact (Nat.ne_of_lt (l1 (e, PySem.W.excObj C t0 none .none) (by simp))).symm
  have he := (N3 (e, PySem.W.excObj C t1 none .none) (by simp)).1
  exact h2 h4 _ ⟨⟨t1, he⟩, F3.keep, rfl⟩ F3.ns
end
theorem look_mem {α : Type} {y : Str} {u : α} : ∀ {l : List (Str × α)}, (l.map (·.1)).Nodup → (y, u) ∈ l → l.lookup y = some u
  | [], _, h => nomatch h
  | (z, v) :: l, n, h => by
    rw [List.map_cons, List.nodup_cons] at n
    rw [lookup_cons1]
    rcases List.mem_cons.mp h with e | h
    · cases e; rw [if_pos rfl]
    · have e : y ≠ z := fun q => n.1 (List.mem_map.mpr ⟨_, h, q⟩)
      rw [if_neg e]
      exact look_mem n.2 h
theorem zip_fst {α : Type} : ∀ {l : List Str} {vs : List α}, vs.length = l.length → (l.zip vs).map (·.1) = l
  | [], vs, _ => by simp
  | a :: l, [], h => by cases h
  | a :: l, v :: vs, h => by rw [List.zip_cons_cons, List.map_cons, zip_fst (Nat.succ.inj h)]
theorem zip_snd {α : Type} : ∀ {l : List Str} {vs : List α}, vs.length = l.length → (l.zip vs).map (·.2) = vs
  | [], [], _ => rfl
  | [], _ :: _, h => by cases h
  | a :: l, [], h => by cases h
  | a :: l, v :: vs, h => by rw [List.zip_cons_cons, List.map_cons, zip_snd (Nat.succ.inj h)]
theorem zip_app {α : Type} {v : α} {a : Str} : ∀ {l : List Str} {vs : List α}, vs.length = l.length → (l ++ [a]).zip (vs ++ [v]) = l.zip vs ++ [(a, v)]
  | [], [], _ => rfl
  | [], _ :: _, h => by cases h
  | b :: l, [], h => by cases h
  | b :: l, u :: vs, h => by
    show (b, u) :: (l ++ [a]).zip (vs ++ [v]) = (b, u) :: (l.zip vs ++ [(a, v)])
    rw [zip_app (Nat.succ.inj h)]
theorem zip_rev {α : Type} : ∀ {l : List Str} {vs : List α}, vs.length = l.length → (l.zip vs).reverse = l.reverse.zip vs.reverse
  | [], [], _ => rfl
  | [], _ :: _, h => by cases h
  | a :: l, [], h => by cases h
  | a :: l, v :: vs, h => by
    rw [List.zip_cons_cons, List.reverse_cons, List.reverse_cons, List.reverse_cons, zip_rev (Nat.succ.inj h), zip_app (by simpa using Nat.succ.inj h)]
theorem zip_mem {α : Type} : ∀ {l : List Str} {vs : List α} {i : Nat} {y : Str} {u : α}, l[i]? = some y → vs[i]? = some u → (y, u) ∈ l.zip vs
  | [], _, _, _, _, h, _ => by simp at h
  | _ :: _, [], _, _, _, _, h => by simp at h
  | a :: l, v :: vs, 0, y, u, h1, h2 => by simp at h1 h2; subst h1 h2; simp
  | a :: l, v :: vs, i + 1, y, u, h1, h2 => by
    rw [List.zip_cons_cons]
    exact List.mem_cons_of_mem _ (zip_mem (i := i) (by simpa using h1) (by simpa using h2))
section
variable {P : Program} {w : World} {K : PySem.W.Frag} {C : Addr} {fs : List Str} {A : Around} {E : Value → Shared → Prop} {s : Shared} {mg mb : Str → Option Value}
/-- C(..) -/
theorem xc_make (T : XcK P K C fs) {us : List Value} (KX : K.In s.heap) (hg : s.heap.Ns mainGlobals mg) (hb : s.heap.Ns builtinsNs mb) (hbv : ∀ x : Str, x ≠ "__name__" → mb x = bootBuiltins x) (nl : s.heap.NoLimit) (hr : Room 1 A) (hl : us.length = fs.length) {Q : Value → Shared → Prop}
    (hq : ∀ (e : Addr) (dv : Option Addr) (L : Addr) (h' : Heap) (tk : Nat), s.heap.objs.size ≤ e → XAt s.heap h' L e C dv ((fs.zip us).reverse) → Q (.ref e) { s with heap := h', toks := tk }) : wpAny (model P w) A (call (.ref C) us) Q E s := by
  obtain ⟨nm, qn, NN, bs, bm, sn, sub, ab, col, dd, k0, k1, k2, k3, k5, hC, hbm⟩ := T.cls
  obtain ⟨fI, cc, cda, st, qual, dV, kV, doc, pm, oc, ct, ccl, cl, an, od, cdd, cld, osl, ccs, csl, vs, file, tf, i1, i2, i3, i4, i5, i6, i7, i8, i9, i10, i11⟩ := T.ini
  unfold xok at i5
  simp only [Bool.and_eq_true, decide_eq_true_eq, List.all_eq_true, Bool.not_eq_true'] at i5
  obtain ⟨⟨⟨⟨⟨b1, b2⟩, b3⟩, b4⟩, b5⟩, b6⟩ := i5
  unfold xscope at b2
  simp only [Bool.and_eq_true, decide_eq_true_eq, List.all_eq_true, Bool.not_eq_true'] at b2
  obtain ⟨⟨⟨⟨⟨⟨⟨c1, c2⟩, c3⟩, c4⟩, c5⟩, c6⟩, c7⟩, c8⟩ := b2
  have hk : (defScope st).kind = .function := by
    unfold isFun at c1
    split at c1
    · assumption
    · cases c1
  have hus : us.length ≤ sizeLine := by rw [sizeLine_eq]; omega
  obtain ⟨hp, g, d, tk, os⟩ := s
  have kk : ∀ b o, hp.get? b = some o → ((hp.push (PySem.W.kdv_tup us)).push (PySem.HandSPX.excO C hp.objs.size)).get? b = some o := fun b o e => Heap.get?_push_of_some _ (Heap.get?_push_of_some _ e)
  have hget : ((hp.push (PySem.W.kdv_tup us)).push (PySem.HandSPX.excO C hp.objs.size)).get? (hp.objs.size + 1) = some (PySem.HandSPX.excO C hp.objs.size) := by heap_get
  have he0 : hp.get? (hp.objs.size + 1) = none := Heap.get?_none_of_le (Nat.le_succ _)
  have main : codeAny (model P w) (A.under (.builtin "type.__call__" ⟨.ref C :: us, []⟩)) (.call (.ref fI) ⟨.ref (hp.objs.size + 1) :: us, []⟩)
      (fun r s' => r = .ok (.ret .none) ∧ Q (.ref (hp.objs.size + 1)) s') ⟨(hp.push (PySem.W.kdv_tup us)).push (PySem.HandSPX.excO C hp.objs.size), g, d, tk, os⟩ := by
    have nd : ((("self" : Str) :: fs)).Nodup := List.nodup_cons.mpr ⟨fun z => by
      have := (b6 _ z).2
      simp at this, b4⟩
    have hlz : (Value.ref (hp.objs.size + 1) :: us).length = (("self" : Str) :: fs).length := by simp [hl]
    have look : ∀ (i : Nat) (y : Str) (u : Value), (("self" : Str) :: fs)[i]? = some y → (Value.ref (hp.objs.size + 1) :: us)[i]? = some u → (((("self" : Str) :: fs).zip (Value.ref (hp.objs.size + 1) :: us)).reverse).lookup y = some u := fun i y u e1 e2 =>
      look_mem (by rw [List.map_reverse, zip_fst hlz]; exact (List.reverse_perm _).nodup_iff.mpr nd) (List.mem_reverse.mpr (zip_mem e1 e2))
    refine PySem.ks_codeAny_call_defAt (fd := PySem.W.ksFn "__init__" qual (defArgs st) (defBody st) (defScope st) dV kV doc pm an (.ref cda) ct cc) (body := defBody st) (binds := (("self" : Str) :: fs).zip (Value.ref (hp.objs.size + 1) :: us))
      (hr.make C us []).depth (kk _ _ (KX _ _ i3)) rfl (nl.keeps kk) (PySem.W.codeRec_of (KX.keeps kk) i4) rfl (.of_eq (i11 _ (by simp [hl]))) ?hc ?hloc (fun h₁ hns hk₁ => ?_) c2 c3 hk
    case hc =>
      intro y hy z
      have := c8 y hy
      rw [z] at this
      cases this
    case hloc =>
      intro y hy
      have hy' := (List.of_mem_zip (show (y.1, y.2) ∈ _ from hy)).1
      rcases List.mem_cons.mp hy' with e | e
      · rw [e]; exact c6
      · exact c7 _ e
    have hns' : h₁.Ns (hp.objs.size + 2) (fun x => ((("self" : Str) :: fs).zip (Value.ref (hp.objs.size + 1) :: us)).reverse.lookup x) := by
      have e : ((hp.push (PySem.W.kdv_tup us)).push (PySem.HandSPX.excO C hp.objs.size)).objs.size = hp.objs.size + 2 := by rw [Heap.size_push, Heap.size_push]
      rw [← e]
      exact hns
    have hself := look 0 "self" (.ref (hp.objs.size + 1)) rfl rfl
    have h1e := hk₁ _ _ hget
    have F : PyProof.Rows.Fr hp (hp.objs.size + 2) h₁ (fun x => ((("self" : Str) :: fs).zip (Value.ref (hp.objs.size + 1) :: us)).reverse.lookup x) := ⟨hns', fun b o z => hk₁ b o (kk b o z), by omega⟩
    have N : PyProof.Rows.News hp (hp.objs.size + 2) h₁ [(hp.objs.size + 1, PySem.W.excObj C hp.objs.size none .none)] := fun p z => by
      obtain rfl := List.mem_singleton.mp z
      exact ⟨h1e, by show hp.objs.size + 1 ≠ hp.objs.size + 2; omega, he0⟩
    unfold xbody at b1
    split at b1
    · rename_i p0 p1 ap txt j cp pos pp r hbd
      simp only [Bool.and_eq_true, decide_eq_true_eq] at b1
      obtain ⟨⟨⟨b11, rfl⟩, rfl⟩, b14⟩ := b1
      have e : ((hp.push (PySem.W.kdv_tup us)).push (PySem.HandSPX.excO C hp.objs.size)).objs.size = hp.objs.size + 2 := by rw [Heap.size_push, Heap.size_push]
      show _root_.PySem.wpAt _ _ (.func (defBody st) (PySem.W.ksEnv qual (defScope st) ((hp.push (PySem.W.kdv_tup us)).push (PySem.HandSPX.excO C hp.objs.size)).objs.size fI (.ref cda) cc)) (execs (defBody st) (PySem.W.ksEnv qual (defScope st) ((hp.push (PySem.W.kdv_tup us)).push (PySem.HandSPX.excO C hp.objs.size)).objs.size fI (.ref cda) cc)) _ _ _
      rw [e, hbd]
      refine PySem.ks_wpAt_execs_cons (xc_super T KX F N hg hb hbv i3 b3 hself i6 i7 i8 i9 i10 b11 c4 c5 c6 hk fun h' tk' x' hn' => _root_.PySem.wpAt_of_wpAny ?_)
      refine xc_stores T KX (by show hp.objs.size ≤ hp.objs.size + 2; omega) (Nat.succ_ne_self _) he0 hk c6 hself fs us r none [] h' tk' hl b14 (fun y hy => ⟨hy, c7 y hy, (b6 y hy).1⟩) (fun i y u e1 e2 => look (i + 1) y u (by simpa using e1) (by simpa using e2)) (by simp; omega) x' hn' fun h2 tk2 dv2 x2 => ⟨rfl, ?_⟩
      rw [List.append_nil] at x2
      exact hq _ _ _ _ _ (Nat.le_succ _) x2
    · cases b1
  refine wpAny_call (PySem.HandSPX.call_own PySem.F.excBase_ValueError (fun Y => PySem.HandSPX.refsVE_contains Y bm hbm) (KX _ _ hC) (PySem.W.looks_findIn KX i1) (fun self => PySem.W.bind_fn KX self i2) hus (codeAny_mono main fun r s' z => ?_))
  obtain ⟨rfl, z⟩ := z
  exact ⟨rfl, z⟩
end

/-! ### raise C(..) -/
theorem kv_zip : ∀ {fs : List Str} {vs : List V} {us : List Value}, Vals vs us → KV (fs.zip vs) (fs.zip us)
  | [], _, _, _ => by simp; exact .nil
  | _ :: _, _, _, .nil => by simp; exact .nil
  | _ :: fs, _, _, .cons r t => by
    rw [List.zip_cons_cons, List.zip_cons_cons]
    exact .cons ⟨rfl, r⟩ (kv_zip t)
theorem paired_app {α β : Type} {R : α → β → Prop} : ∀ {l₁ : List α} {l₂ : List β} {m₁ : List α} {m₂ : List β}, Paired R l₁ l₂ → Paired R m₁ m₂ → Paired R (l₁ ++ m₁) (l₂ ++ m₂)
  | _, _, _, _, .nil, k => k
  | _, _, _, _, .cons r t, k => .cons r (paired_app t k)
theorem paired_rev {α β : Type} {R : α → β → Prop} : ∀ {l₁ : List α} {l₂ : List β}, Paired R l₁ l₂ → Paired R l₁.reverse l₂.reverse
  | _, _, .nil => .nil
  | _, _, .cons r t => by
    rw [List.reverse_cons, List.reverse_cons]
    exact paired_app (paired_rev t) (.cons r .nil)
theorem kv_look {y : Str} : ∀ {l : List (Str × V)} {k : List (Str × Value)}, KV l k → RelO (l.lookup y) (k.lookup y)
  | _, _, .nil => True.intro
  | (f, v) :: l, (g, u) :: k, .cons r t => by
    obtain ⟨e, r⟩ := r
    have e : f = g := e
    subst e
    rw [lookup_cons1, lookup_cons1]
    by_cases h : y = f
    · rw [if_pos h, if_pos h]; exact r
    · rw [if_neg h, if_neg h]; exact kv_look t
def tXc (C : Addr) (fs : List Str) (t : TA) : St → Hp → XK → Prop := fun σ H Q => t σ H fun vs H1 => vs.length = fs.length ∧ (fs = [] → Q (.ref C) none H1) ∧ (fs ≠ [] → ∀ d, H1 d = none → Q (.ref C) (some d) (upd H1 d (.xd ((fs.zip vs).reverse))))
section
variable {X : Cx} {C : Addr} {fs : List Str} {x : Str} {p pos : Pos} {e : Expr} {es : List Expr} {ta : TA}
theorem mk_xc {pins : List (Addr × Obj)} {σ : St} {H1 : Hp} {Q : XK} {s1 : Shared} {us : List Value} {vs : List V} (T : XcK X.prog X.K C fs) (hr : Room 1 X.A) (I1 : Inv X pins σ H1 s1) (r1 : Vals vs us) (hl : vs.length = fs.length)
    (q0 : fs = [] → Q (.ref C) none H1) (q1 : fs ≠ [] → ∀ d, H1 d = none → Q (.ref C) (some d) (upd H1 d (.xd ((fs.zip vs).reverse)))) : wpAny (model X.prog X.w) X.A (call (.ref C) us) (MkP X pins σ Q) X.xe s1 := by
  have bs : ∀ b o, X.base.get? b = some o → s1.heap.get? b = some o := fun b o z => (I1.env0.bs b o z).1
  obtain ⟨mb, hmb, hbv⟩ := I1.ok.mod.blt
  refine xc_make T I1.kIn (ns_all I1.ok.mod.glob bs) (ns_all hmb bs) hbv (I1.ok.mod.nolimit.keeps bs) hr (by rw [← r1.length]; exact hl) fun e dv L h' tk he x => ?_
  obtain ⟨⟨t, hoe⟩, kp, hdv⟩ := x
  have hne : s1.heap.get? e = none := Heap.get?_none_of_le he
  have nH : H1 e = none := I1.hok.fresh he
  cases dv with
  | none =>
    have hfs : fs = [] := by
      have hdv : (fs.zip us).reverse = [] := hdv
      cases fs with
      | nil => rfl
      | cons f fs =>
        cases us with
        | nil => cases r1; cases hl
        | cons u us => simp at hdv
    exact ⟨e, _, _, s1, H1, .ref C, none, rfl, I1, kp, hne, hoe, ⟨rfl, rfl⟩, rfl, rfl, nH, rfl, I1.bare, raises_own T.exC T.tyC, q0 hfs⟩
  | some dx =>
    obtain ⟨hnn, hd, hde, _, m1, hns, hm⟩ := hdv
    have hfs : fs ≠ [] ∨ fs = [] := by cases fs with | nil => exact .inr rfl | cons _ _ => exact .inl (fun z => nomatch z)
    obtain ⟨G, g1, g2⟩ := restrict h' fun b => decide (b ≠ e)
    have gk : ∀ b, b ≠ e → G.get? b = h'.get? b := fun b hb => g1 b (decide_eq_true hb)
    have ge : G.get? e = none := g2 e (by simp)
    have kG : ∀ b o, s1.heap.get? b = some o → G.get? b = some o := fun b o z => (gk b (fun z2 => by rw [z2, hne] at z; cases z)).trans (kp b o z)
    have J : Inv X pins σ (upd H1 dx (.xd ((fs.zip vs).reverse))) { s1 with heap := G, toks := tk } := I1.laid kG hd ⟨m1, hns.at fun o z => (gk dx hde).trans z, fun f => by rw [hm]; exact kv_look (paired_rev (kv_zip r1))⟩
    rcases hfs with hfs | hfs
    · refine ⟨e, _, _, { s1 with heap := G, toks := tk }, _, .ref C, some dx, rfl, J, fun b o z => ?_, ge, hoe, ⟨rfl, rfl⟩, rfl, rfl, (upd_ne hde.symm).trans nH, rfl, I1.bare, raises_own T.exC T.tyC, q1 hfs dx (I1.hok.fresh hd)⟩
      by_cases hb : b = e
      · rw [hb, ge] at z; cases z
      · exact (gk b hb).symm.trans z
    · subst hfs
      exact absurd rfl hnn
theorem pmk_xc (T : XcK X.prog X.K C fs) (hr : Room 1 X.A) (hg : Gl X x) (hm : X.mg x = some (.ref C)) (ha : PA X (e :: es) ta) (hdb : (x == ("__debug__" : Str)) = false) (hn : (e :: es).all nst = true) : PMk X (.Call (.Name x p) (e :: es) [] pos) (tXc C fs ta) := by
  have hn' := hn
  rw [List.all_cons, Bool.and_eq_true] at hn'
  intro pins s σ H Q I h
  refine wpAny_Call_Name_kw (ld_glob I hg hm ?_ hdb)
  refine PySem.W.callWith_K (h₀ := X.base) I.ok.mod.kin T.kC (thn (ha.run pos pins s σ H _ I h) fun us s1 ⟨vs, H1, I1, r1, hl, q0, q1⟩ => ⟨I1.kIn, ?_⟩) (star_ne hn'.1) (star_any hn'.2)
  exact mk_xc T hr I1 r1 hl q0 q1
theorem pmk_xc0 (T : XcK X.prog X.K C fs) (hr : Room 1 X.A) (hg : Gl X x) (hm : X.mg x = some (.ref C)) (hdb : (x == ("__debug__" : Str)) = false) : PMk X (.Call (.Name x p) [] [] pos) (tXc C fs tNil) := by
  intro pins s σ H Q I ⟨hl, q0, q1⟩
  refine wpAny_Call_Name_kw (ld_glob I hg hm ?_ hdb)
  exact PySem.W.callWith_K0 I.kIn T.kC (mk_xc T hr I .nil hl q0 q1)
end
end Ev
end

section
set_option Elab.async false
set_option linter.all false
set_option maxRecDepth 100000
set_option maxHeartbeats 4000000
/-! EvTry: try .. with any except clauses, each with or without a name; isinstance of what was caught. -/
namespace Ev
open PySem PySem.Spec L2
open PyProof.Rows hiding St

def endN (D : Ends) : Option Nat → Ends
  | none => D
  | some i => { nx := fun σ' H' => D.nx (σ'.set i none) H', rt := D.rt, bk := fun σ' H' => D.bk (σ'.set i none) H', ct := fun σ' H' => D.ct (σ'.set i none) H' }
def slotN (σ : St) (a : Addr) : Option Nat → St
  | none => σ
  | some i => σ.set i (some (.ref a))
abbrev TC := Addr → Value → Option Addr → TS
/-- what the clauses wish of an exception; one that none of them takes is not wished for -/
def wAny (K : PySem.W.Frag) (D : Ends) : List (Value × Option Nat × TC) → WX
  | [] => fun _ _ _ _ => False
  | (c, o, ts) :: r => fun cls d σ H => ∃ b, PySem.W.exmOne K cls c = some b ∧ (b = true → ∀ a, H a = none → ts a cls d (endN D o) (slotN σ a o) H) ∧ (b = false → wAny K D r cls d σ H)
/-- the suite's judgement -/
def SuOk (X : Cx) (suite : List Stmt) (ts : TC) : Prop := ∀ (a : Addr) (oe : Obj) (cls : Value) (d : Option Addr) (pn : List (Addr × Obj)), Zc cls d oe → (∃ vs, oe.data = .fields vs) → PSs (X.suite a ((a, oe) :: pn)) suite (ts a cls d)
inductive HdA (X : Cx) : List ExceptHandler → List (Value × Option Nat × TC) → Prop
  | nil : HdA X [] []
  | bare {x : Str} {c : Value} {ts : TC} {b₀ : Stmt} {suite : List Stmt} {np hp : Pos} {hs : List ExceptHandler} {l : List (Value × Option Nat × TC)} (hc : Names X x c) (su : SuOk X (b₀ :: suite) ts) (r : HdA X hs l) :
      HdA X (.ExceptHandler (some (.Name x np)) none (b₀ :: suite) hp :: hs) ((c, none, ts) :: l)
  | named {x n : Str} {i : Nat} {c : Value} {ts : TC} {b₀ : Stmt} {suite : List Stmt} {np hp : Pos} {hs : List ExceptHandler} {l : List (Value × Option Nat × TC)} (hc : Names X x c) (hi : X.N[i]? = some n) (hl : X.env.kindOf n = some .local) (su : SuOk X (b₀ :: suite) ts) (r : HdA X hs l) :
      HdA X (.ExceptHandler (some (.Name x np)) (some n) (b₀ :: suite) hp :: hs) ((c, some i, ts) :: l)
section
variable {X : Cx} {body : List Stmt} {h₀ : ExceptHandler} {hs : List ExceptHandler} {l : List (Value × Option Nat × TC)} {pos : Pos} {tb : WX → TS}
theorem ps_try_any (hst : X.stack = X.env :: X.outer) (hf : X.env.frame = some X.env.locals) (hN : X.N.Nodup)
    (hb : ∀ (W : WX) (pn : List (Addr × Obj)) (xe : Value → Shared → Prop), Takes (X.tr pn xe) W → PassesOwn (model X.prog X.w) X.A X.env xe → PSs (X.tr pn xe) body (tb W))
    (hh : HdA X (h₀ :: hs) l) : PS X (.Try body (h₀ :: hs) [] [] pos) (fun D σ H => tb (wAny X.K D l) D σ H) := by
  refine ⟨fun pins s σ H D I h => ?_⟩
  have ok := I.ok
  have hfr : X.A.frames = some (X.env :: X.outer) := by rw [ok.frames, hst]
  refine wpAny_Try_except (wpAny_mono ((hb (wAny X.K D l) (X.pn ++ pins) _ (fun u s' xx => ?_) PassesOwn.looking).run [] s σ H D (I.toTry _) h) (fun f s1 hsp => ?_) fun e s1 he => he)
  · obtain ⟨a, B, sI, pins', σ', H', cls, d, rfl, J', nb, up, sky, na, os, ag, w⟩ := xx
    have J : Inv X pins σ' H' sI := J'.ofTry ok
    have sky2 : Sky B (X.env :: X.outer) a (Zc cls d) X.env.locals s'.heap := hst ▸ sky
    refine Sky.land Zc.steady hfr hf sky2 fun h3 fl up3 => ?_
    have J3 : Inv X pins σ' H' { s' with heap := h3 } := J.landed nb fl.1 (up.trans up3) os ag
    obtain ⟨oe, vs, he, hz, hd⟩ := fl.there
    have nfr : a ∉ frs (X.env :: X.outer) := fun hm => by
      obtain ⟨_, o', e', hnf⟩ := fl.2.2.1.mem hm
      rw [he] at e'
      cases e'
      exact hnf _ hd
    have nL : a ≠ X.env.locals := fun z => nfr (List.mem_filterMap.mpr ⟨X.env, List.mem_cons_self, by rw [hf, z]⟩)
    have nF : a ∉ X.fs := fun hm => by
      obtain ⟨e, h1, h2⟩ := List.mem_filterMap.mp hm
      exact nfr (List.mem_filterMap.mpr ⟨e, List.mem_cons_of_mem _ h1, h2⟩)
    have S3 := J3.suite he hd na nL nF
    -- one clause after another
    suffices go : ∀ {hs' : List ExceptHandler} {l' : List (Value × Option Nat × TC)}, HdA X hs' l' → wAny X.K D l' cls d σ' H' → wpAny (model X.prog X.w) X.A (handleBy (.ref a) X.env hs') (SP X pins D) X.xe { s' with heap := h3 } from go hh w
    intro hs' l' hk
    have test : ∀ {x : Str} {c : Value} {np : Pos} {Q : Value → Shared → Prop} {E : Value → Shared → Prop}, Names X x c → Q c { s' with heap := h3 } → wpAny (model X.prog X.w) (X.A.mark (some (.ref a))) (eval (.Name x np) X.env) Q E { s' with heap := h3 } := fun {x c np Q E} hc q => by
      obtain ⟨hg, hdbg, hm | ⟨hm, hv, hnn⟩⟩ := hc
      · exact ld_glob (X := X.suite a ((a, oe) :: (X.pn ++ pins))) S3 hg hm q hdbg
      · exact ld_blt (X := X.suite a ((a, oe) :: (X.pn ++ pins))) S3 hg hm hv q hnn hdbg
    have looks : ∀ {c : Value} {b : Bool}, PySem.W.exmOne X.K cls c = some b → _ := fun {c b} hb1 => PySem.W.exm_one (M := model X.prog X.w) (J3.kIn) (show PySem.W.Looks (model X.prog X.w) h3 (typeOf (.ref a)) cls from fun A Q E s k q => wpAny_typeOf_ref (k _ _ he) (by rw [hz.1]; exact q)) hb1
    induction hk with
    | nil => exact fun w => w.elim
    | @bare x c ts b₀ suite np hp hs2 l2 hc su r ih =>
      rintro ⟨b, hb1, hyes, hno⟩
      refine wpAny_handleBy_cons (codeAny_handlers_test (test hc ((looks hb1).here ?_))) (by intro q; cases q)
      cases b with
      | false => exact ih (hno rfl)
      | true =>
        refine codeAny_handlers_suite ?_
        refine HandSPX.lands_againZ fl fun h4 fl4 up4 => ?_
        have J4 : Inv X pins σ' H' { s' with heap := h4 } := J.landed nb fl4.1 ((up.trans up3).trans up4) os ag
        obtain ⟨oe4, vs4, he4, hz4, hd4⟩ := fl4.there
        refine wpAny_mono ((su a oe4 cls d (X.pn ++ pins) hz4 ⟨_, hd4⟩).run [] _ _ H' _ (J4.suite he4 hd4 na nL nF) (hyes rfl a na)) (fun f s6 hsp => ?_) (fun _ _ z => False.elim z)
        cases f with
        | next =>
          obtain ⟨σ6, H6, S6, q6⟩ := hsp
          exact ⟨_, _, S6.unsuite ok, q6⟩
        | brk =>
          obtain ⟨σ6, H6, S6, q6⟩ := hsp
          exact ⟨_, _, S6.unsuite ok, q6⟩
        | cont =>
          obtain ⟨σ6, H6, S6, q6⟩ := hsp
          exact ⟨_, _, S6.unsuite ok, q6⟩
        | ret u =>
          obtain ⟨v6, σ6, H6, S6, r6, q6⟩ := hsp
          exact ⟨_, _, _, S6.unsuite ok, r6, q6⟩
    | @named x n i c ts b₀ suite np hp hs2 l2 hc hi hln su r ih =>
      rintro ⟨b, hb1, hyes, hno⟩
      refine wpAny_handleBy_cons (codeAny_handlers_test (test hc ((looks hb1).here ?_))) (by intro q; cases q)
      cases b with
      | false => exact ih (hno rfl)
      | true =>
        refine codeAny_handlers_suite_as ?_
        refine HandSPX.lands_againZ fl fun h4 fl4 up4 => ?_
        have J4 : Inv X pins σ' H' { s' with heap := h4 } := J.landed nb fl4.1 ((up.trans up3).trans up4) os ag
        obtain ⟨oe4, vs4, he4, hz4, hd4⟩ := fl4.there
        refine store_ok (X := X.suite a ((a, oe4) :: (X.pn ++ pins))) (v := .ref a) (J4.suite he4 hd4 na nL nF) hN hi (.inl hln) rfl (fun s5 S5 => ?_) (.inr hln)
        refine wpAny_mono ((su a oe4 cls d (X.pn ++ pins) hz4 ⟨_, hd4⟩).run [] s5 _ H' _ S5 (hyes rfl a na)) (fun f s6 hsp => ?_) (fun _ _ z => False.elim z)
        have fin : ∀ {σ6 : St} {H6 : Hp} {Q : Shared → Prop}, Inv (X.suite a ((a, oe4) :: (X.pn ++ pins))) [] σ6 H6 s6 → (∀ s7, Inv X pins (σ6.set i none) H6 s7 → Q s7) →
            wpAny (model X.prog X.w) X.A (do bindName X.env n .none; unbindBehindTheSuite X.env n hp) (fun _ s7 => Q s7) X.xe s6 := fun {σ6 H6 Q} S6 hq => gone_ok (S6.unsuite ok) hN hi hln hq
        cases f with
        | next =>
          obtain ⟨σ6, H6, S6, q6⟩ := hsp
          exact fin S6 fun s7 J7 => ⟨_, _, J7, q6⟩
        | brk =>
          obtain ⟨σ6, H6, S6, q6⟩ := hsp
          exact fin S6 fun s7 J7 => ⟨_, _, J7, q6⟩
        | cont =>
          obtain ⟨σ6, H6, S6, q6⟩ := hsp
          exact fin S6 fun s7 J7 => ⟨_, _, J7, q6⟩
        | ret u =>
          obtain ⟨v6, σ6, H6, S6, r6, q6⟩ := hsp
          exact fin S6 fun s7 J7 => ⟨_, _, _, J7, r6, q6⟩
  · cases f with
    | next =>
      obtain ⟨σ', H', J', q⟩ := hsp
      exact wpAny_execs_nil ⟨σ', H', J'.ofTry ok, q⟩
    | brk =>
      obtain ⟨σ', H', J', q⟩ := hsp
      exact ⟨σ', H', J'.ofTry ok, q⟩
    | cont =>
      obtain ⟨σ', H', J', q⟩ := hsp
      exact ⟨σ', H', J'.ofTry ok, q⟩
    | ret u =>
      obtain ⟨v, σ', H', J', r, q⟩ := hsp
      exact ⟨v, σ', H', J'.ofTry ok, r, q⟩
end
end Ev
end

section
set_option Elab.async false
set_option linter.all false
set_option maxRecDepth 100000
set_option maxHeartbeats 4000000
/-! EvHdl: what an except clause of one row stores; try as the evaluator says. -/
namespace Ev
open PySem PySem.Spec L2
open PyProof.Rows hiding St

/-- isinstance(e, D) of what was caught -/
def rIsX (K : PySem.W.Frag) (a : Addr) (cls : Value) (d : Option Addr) : List V → Hp → VK → Prop := fun xs H Q => ∃ (C D : Addr) (b : Bool), xs = [.ref a, .ref D] ∧ cls = .ref C ∧ PySem.W.kitOne K (.ref C) (.ref D) = some b ∧ (∀ dd, d = some dd → ∃ fs, H dd = some (.xd fs)) ∧
  (∃ P fs, XcK P K C fs) ∧ Q (.bl b) H
theorem call_isX {X : Cx} {a : Addr} {oe : Obj} {cls : Value} {d : Option Addr} {pn : List (Addr × Obj)} (hz : Zc cls d oe) (hf : ∃ vs, oe.data = .fields vs) : CallR (X.suite a ((a, oe) :: pn)) (.builtin "isinstance") (rIsX X.K a cls d) := by
  intro pins s σ H xs us Q I r h
  obtain ⟨C, D, b, rfl, rfl, e, hdd, ⟨P, fs, T⟩, q⟩ := h
  obtain ⟨u1, u2, rfl, r1, r2⟩ := vals2 r
  cases (show u1 = Value.ref a from r1)
  cases (show u2 = Value.ref D from r2)
  obtain ⟨hget, _⟩ := I.pin (a, oe) (List.mem_append.mpr (.inl List.mem_cons_self))
  obtain ⟨vs, hv⟩ := hf
  obtain ⟨od, J⟩ : ∃ od, PySem.W.InstAt s.heap a oe C od := by
    obtain ⟨oc, odc, oda, osl⟩ := oe
    obtain ⟨h1, h2⟩ := hz
    dsimp only at h1 h2 hv
    subst h1 h2 hv
    cases odc with
    | none => exact ⟨none, hget, rfl, rfl, trivial⟩
    | some dd =>
      obtain ⟨fs', ed⟩ := hdd dd rfl
      obtain ⟨mA, ⟨o, es, ep, ho, _⟩, _⟩ := (show ObjOk X.prog X.w H s.heap dd (.xd fs') from I.hok dd _ ed)
      exact ⟨some o, hget, rfl, rfl, ho⟩
  obtain ⟨nm, q', N, bs, bm, sn, sub, ab, col, dd, k0, k1, k2, k3, k5, hC, hbm⟩ := T.cls
  have hcl : (PySem.W.clsIn X.K C).isSome = true := by
    unfold PySem.W.clsIn
    rw [hC] <;> rfl
  exact PySem.W.kia_one (PySem.W.kitx_exc (ox := oe) (od := od) hcl T.ga T.gg T.exC T.ha T.hn T.ht T.hm) I.kIn J e (fun z => nomatch z) fun tk => ⟨.bl b, H, I.kept (t' := tk) fun _ _ z => z, rfl, q⟩
section
variable {Ω : Wd} {Γ : Cfg} {T : Tab} {Z : Fr} {W : WX} {X : Cx} {k : Nat} {N : List Str} {sc : Scope} {pos : Pos} {e : Expr}
  {s : S} {G H : Hp} {as ls : List Addr} {σ : St} {n : Option Str} {ni : Option Nat} {a : Addr} {oe : Obj} {cls : Value} {d : Option Addr} {pn : List (Addr × Obj)}
/-- the slot of the clause's name holds the exception -/
def nmIs (σ : St) (a : Addr) : Option Nat → Prop
  | none => True
  | some i => σ[i]? = some (some (.ref a))
theorem chkA_of {f : Str} (h : chkA n f e = true) : ∃ x p q, n = some x ∧ e = .Attribute (.Name x p) f q ∧ okn x = true := by
  unfold chkA at h
  split at h
  · simp only [Bool.and_eq_true, decide_eq_true_eq] at h
    obtain ⟨⟨rfl, rfl⟩, h3⟩ := h
    exact ⟨_, _, _, rfl, rfl, h3⟩
  · cases h
/-- it.f -/
def tFl (a C : Addr) (cls : Value) (d : Option Addr) (i : Nat) (f : Str) : TE := fun σ H Q => σ[i]? = some (some (.ref a)) ∧ cls = .ref C ∧ ∃ (dd : Addr) (fs : List (Str × V)) (v : V), d = some dd ∧ H dd = some (.xd fs) ∧ fs.lookup f = some v ∧ Q v H
theorem pe_fl {C : Addr} {fs : List Str} {P : Program} {x f : Str} {i : Nat} {p q : Pos} (K : XcK P X.K C fs) (hf0 : PySem.W.findIn X.K (.ref C) f = some none) (hi : X.N[i]? = some x) (hv : Vis X.env.scope x) (hx : okn x = true) (hz : Zc cls d oe) (hf : ∃ vs, oe.data = .fields vs) :
    PE (X.suite a ((a, oe) :: pn)) (.Attribute (.Name x p) f q) (tFl a C cls d i f) := by
  refine pe_by fun σ H Q ⟨h1, h2, h3⟩ => ⟨_, pe_xf ⟨K.ga, K.gg, K.exC, K.hd⟩ hf0 hz hf (pe_var (X := X.suite a ((a, oe) :: pn)) (i := i) hi hv (okn_1 hx).1 (okn_1 hx).2.1), ?_⟩
  exact ⟨_, h1, rfl, h2, h3⟩
/-- the right side of a clause: its value -/
def tHx (Ω : Wd) (a C : Addr) (cls : Value) (d : Option Addr) (ni : Option Nat) : HTm → TE
  | .cst p => fun σ H Q => ∀ v, RpP Ω (fun _ => none) v p → Q v H
  | .fld f => fun σ H Q => ∃ i, ni = some i ∧ tFl a C cls d i f σ H Q
  | .lst f => fun σ H Q => ∃ i, ni = some i ∧ tFl a C cls d i f σ H fun v H1 => ∀ p, H1 p = none → Q (.ref p) (upd H1 p (.lst [v]))
  | .tup f g => fun σ H Q => ∃ i, ni = some i ∧ tFl a C cls d i f σ H fun v H1 => tFl a C cls d i g σ H1 fun u H2 => ∀ p, H2 p = none → Q (.ref p) (upd H2 p (.tup [v, u]))
theorem pe_ht {C : Addr} {fs : List Str} {P : Program} {t : HTm} (K : XcK P X.K C fs) (hN : X.N = N) (hsc : X.env.scope = sc) (hnm : chkNm N sc ni n = true) (hz : Zc cls d oe) (hf : ∃ vs, oe.data = .fields vs)
    (hff : ∀ f ∈ htF t, f ∈ fs) (h : chkHT n t e = true) : PE (X.suite a ((a, oe) :: pn)) e (tHx Ω a C cls d ni t) := by
  have one : ∀ {f : Str} {e : Expr}, f ∈ fs → chkA n f e = true → ∃ i, ni = some i ∧ PE (X.suite a ((a, oe) :: pn)) e (tFl a C cls d i f) ∧ nst e = true := fun {f e} hm h => by
    obtain ⟨x, p, q, rfl, rfl, hx⟩ := chkA_of h
    unfold chkNm at hnm
    split at hnm
    · rename_i h1; cases h1
    · rename_i i x' h1
      cases h1
      simp only [Bool.and_eq_true, decide_eq_true_eq] at hnm
      refine ⟨_, rfl, pe_fl K (K.na _ hm) (by rw [hN]; exact hnm.1) ?_ hx hz hf, rfl⟩
      have h2 := hnm.2
      unfold isLoc at h2
      split at h2
      · rename_i h3
        rw [hsc]
        exact .inl h3
      · cases h2
    · cases hnm
  unfold chkHT at h
  split at h
  · refine pe_by fun σ H Q hq => ?_
    unfold cst at h
    split at h
    · exact ⟨_, pe_non, hq _ .non⟩
    · have e := beq_iff_eq.mp h
      subst e
      exact ⟨_, pe_bl, hq _ (.bl _)⟩
    · have e := of_decide_eq_true h
      subst e
      exact ⟨_, pe_int, hq _ (.int _)⟩
    · have e := of_decide_eq_true h
      subst e
      exact ⟨_, pe_str, hq _ (.str _)⟩
    · cases h
  · obtain ⟨i, rfl, p, _⟩ := one (hff _ (by simp [htF])) h
    exact pe_by fun σ H Q ⟨j, e, hq⟩ => ⟨_, p, by cases e; exact hq⟩
  · obtain ⟨i, rfl, p, hn⟩ := one (hff _ (by simp [htF])) h
    refine pe_by fun σ H Q ⟨j, e, hq⟩ => ⟨_, pe_lst (pa_cons' hn p pa_nil), ?_⟩
    cases e
    obtain ⟨h1, h2, dd, fs', v, h3, h4, h5, h6⟩ := hq
    exact ⟨h1, h2, dd, fs', v, h3, h4, h5, by rw [sizeLine_eq]; simp, h6⟩
  · rw [Bool.and_eq_true] at h
    obtain ⟨i, rfl, p, hn⟩ := one (hff _ (by simp [htF])) h.1
    obtain ⟨i', e', p', hn'⟩ := one (hff _ (by simp [htF])) h.2
    cases e'
    refine pe_by fun σ H Q ⟨j, e, hq⟩ => ⟨_, pe_tup (pa_cons' hn p (pa_cons' hn' p' pa_nil)), ?_⟩
    cases e
    obtain ⟨h1, h2, dd, fs', v, h3, h4, h5, h6⟩ := hq
    obtain ⟨k1, k2, dd', fs2, u, k3, k4, k5, k6⟩ := h6
    exact ⟨h1, h2, dd, fs', v, h3, h4, h5, k1, k2, dd', fs2, u, k3, k4, k5, by rw [sizeLine_eq]; simp, k6⟩
  · cases h
/-- .. perhaps behind a question by isinstance -/
def tHX (Ω : Wd) (a C : Addr) (cls : Value) (d : Option Addr) (ni : Option Nat) (t : HTm) : Option Nat → TE
  | none => tHx Ω a C cls d ni t
  | some _ => fun σ H Q => (∃ i, ni = some i ∧ σ[i]? = some (some (.ref a))) ∧ cls = .ref C ∧ (∀ dd, d = some dd → ∃ fs, H dd = some (.xd fs)) ∧ tHx Ω a C cls d ni t σ H Q
theorem nm_of {x : Str} (hN : X.N = N) (hsc : X.env.scope = sc) (hnm : chkNm N sc ni n = true) (e : n = some x) : ∃ i, ni = some i ∧ X.N[i]? = some x ∧ X.env.scope.names.lookup x = some .local := by
  subst e
  unfold chkNm at hnm
  split at hnm
  · rename_i h1; cases h1
  · rename_i i x' h1
    cases h1
    simp only [Bool.and_eq_true, decide_eq_true_eq] at hnm
    refine ⟨i, rfl, by rw [hN]; exact hnm.1, ?_⟩
    have h2 := hnm.2
    unfold isLoc at h2
    split at h2
    · rename_i h3
      rw [hsc]
      exact h3
    · cases h2
  · cases hnm
theorem pe_hx {c : Nat} {fs : List Str} {t : HTm} {isx : Option Nat} (F : Facts Ω Γ T k) (gd : Good Ω k N sc W X) (hc : T.okx c = some fs) (hnm : chkNm N sc ni n = true) (hz : Zc cls d oe) (hf : ∃ vs, oe.data = .fields vs) (hff : ∀ f ∈ htF t, f ∈ fs)
    (h : chkHE T sc n t isx e = true) : PE (X.suite a ((a, oe) :: pn)) e (tHX Ω a (Ω.ca c) cls d ni t isx) ∧ notComp e = true := by
  have K : XcK Ω.P X.K (Ω.ca c) fs := by rw [gd.K]; exact (F.xc c fs hc).xk
  unfold chkHE at h
  split at h
  · rw [Bool.and_eq_true] at h
    exact ⟨pe_ht K gd.hN gd.sc hnm hz hf hff h.1, h.2⟩
  · rename_i b g p1 x p2 y p3 p4 e1 e2 p5
    simp only [Bool.and_eq_true, decide_eq_true_eq] at h
    obtain ⟨⟨⟨⟨⟨⟨⟨rfl, h2⟩, h3⟩, h4⟩, rfl⟩, h6⟩, h7⟩, h8⟩ := h
    refine ⟨?_, rfl⟩
    obtain ⟨i, rfl, hi, hl⟩ := nm_of gd.hN gd.sc hnm h3
    obtain ⟨hmb, hkb⟩ := F.xi b c fs h7 hc
    have pI : PE (X.suite a ((a, oe) :: pn)) (.Call (.Name "isinstance" p1) [.Name x p2, .Name (T.cl b) p3] [] p4) _ := pe_callB (X := X.suite a ((a, oe) :: pn)) (call_isX hz hf) (glo_of gd h2).1 (mg_blt F gd (by decide +kernel)) (by decide +kernel)
      (pa_cons' rfl (pe_var (X := X.suite a ((a, oe) :: pn)) (i := i) hi (.inl hl) (okn_1 h4).1 (okn_1 h4).2.1) (pa_cons' rfl (C8.pe_gc (X := X.suite a ((a, oe) :: pn)) (v := .ref (Ω.ca b)) (glo_of gd h6).1 ⟨_, by show X.mg _ = _; rw [gd.mg]; exact hmb, rfl⟩ (okn_1 (glo_of gd h6).2).1) pa_nil)) (by decide) (by decide) rfl rfl
    refine pe_by fun σ H Q ⟨⟨j, e, hj⟩, hcls, hdd, hq⟩ => ⟨_, pe_ifExp (pt_val pI fun _ => rfl) (pe_ht (Ω := Ω) K gd.hN gd.sc hnm hz hf hff h8) (tb := fun _ _ _ => False) ⟨fun _ _ _ _ _ _ h => h.elim⟩, ?_⟩
    cases e
    refine ⟨_, hj, ?_⟩
    refine ⟨Ω.ca c, Ω.ca b, true, rfl, hcls, by rw [gd.K]; exact hkb, hdd, ⟨_, _, K⟩, true, rfl, ?_⟩
    exact hq
  · cases h
end
end Ev
end

section
set_option Elab.async false
set_option linter.all false
set_option maxRecDepth 100000
set_option maxHeartbeats 4000000
/-! EvInd: the evaluator is sound on every expression that is checked. -/
namespace Ev
open PySem PySem.Spec L2
open PyProof.Rows hiding St

section
variable {Ω : Wd} {Γ : Cfg} {T : Tab} {Z : Fr} {W : WX} {X : Cx} {k : Nat} {N : List Str} {sc : Scope} {x : Expr} {xs : List Expr} {f g : S → R D} {fs gs : S → R (List D)}
theorem pe_eq (h : PE X x (tE Ω Z W f)) (e : ∀ s, g s = f s) : PE X x (tE Ω Z W g) := by
  have : g = f := funext e
  rw [this]; exact h
theorem pt_eq (h : PT X x (tT Ω Z W f)) (e : ∀ s, g s = f s) : PT X x (tT Ω Z W g) := by
  have : g = f := funext e
  rw [this]; exact h
theorem pw_eq (h : PW X x (tT Ω Z W f)) (e : ∀ s, g s = f s) : PW X x (tT Ω Z W g) := by
  have : g = f := funext e
  rw [this]; exact h
theorem pa_eq (h : PA X xs (tA Ω Z W fs)) (e : ∀ s, gs s = fs s) : PA X xs (tA Ω Z W gs) := by
  have : gs = fs := funext e
  rw [this]; exact h
theorem po_eq {x : Option Expr} {f g : S → R (Option Int)} (h : PO X x (tOI Ω Z W f)) (e : ∀ s, g s = f s) : PO X x (tOI Ω Z W g) := by
  have : g = f := funext e
  rw [this]; exact h
theorem pi_eq {tg : Expr} {f g : S → R (List P)} (h : PI X tg x (tI Ω Z W f)) (e : ∀ s, g s = f s) : PI X tg x (tI Ω Z W g) := by
  have : g = f := funext e
  rw [this]; exact h
theorem both {b : Bool} (h : ∀ Z, PE X x (tE Ω Z W f)) (he : ∀ whole, isTrue x X.env whole = (do let v ← whole; standAt x.pos; holding [v] (truthy v))) : (∀ Z, PE X x (tE Ω Z W f)) ∧ (b = true → ∀ Z, PT X x (tT Ω Z W f)) :=
  ⟨h, fun _ Z => pt_of_pe (h Z) he⟩
theorem both' {b : Bool} (h : ∀ Z, PE X x (tE Ω Z W f)) (e : ∀ s, g s = f s) (he : ∀ whole, isTrue x X.env whole = (do let v ← whole; standAt x.pos; holding [v] (truthy v))) : (∀ Z, PE X x (tE Ω Z W g)) ∧ (b = true → ∀ Z, PT X x (tT Ω Z W g)) :=
  ⟨fun Z => pe_eq (h Z) e, fun _ Z => pt_eq (pt_of_pe (h Z) he) e⟩
theorem nst_chk {e : E} (h : chkE T N sc e x = true) : nst x = true := by
  cases x with
  | Starred a p =>
    cases e <;> simp [chkE] at h
  | _ => rfl
theorem notSet_hm {o : CmpOp} {b : Expr} (h : notSet b = true) : behindInMarks o b = false := by
  cases b <;> first | rfl | cases h
theorem notSet_lm {o o2 : CmpOp} {b c : Expr} (h : notSet c = true) : lastMarks [o, o2] [b, c] = false := by
  show lastMarks [o2] [c] = false
  show behindInMarks o2 c = false
  exact notSet_hm h
theorem notSet_fs {e : Expr} {env : Env} (h : notSet e = true) : ∀ x, foldedSetIterable e env x = pure x := by
  intro v
  cases e <;> first | rfl | cases h
theorem blk_of {N : List Str} {sc scope : Scope} {own : List Nat} (h : blk N sc scope (ownP N own) = true) : BlkOk N sc scope (ownP N own) := blkOk_by h
theorem rel_keep {scope sc : Scope} {y : Str} {kd : NameKind} (h : kd ≠ .free) (e : scope.names.lookup y = some kd) : (rel scope sc).names.lookup y = some kd := lookup_relS_keep h e
theorem sto_loc {scope : Scope} {y : Str} (h : sto scope y = true) : scope.names.lookup y = some .local ∨ scope.names.lookup y = some .cell := by
  unfold sto at h
  split at h
  · exact .inl (by assumption)
  · exact .inr (by assumption)
  · cases h
theorem okT_of {t : Ev.T} {own : List Nat} (h : (match t with | .nm i => own.contains i | .tp is => is.all own.contains) = true) : okT own t := by
  cases t with
  | nm i => simpa [okT] using h
  | tp is =>
    intro i hi
    have := List.all_eq_true.mp h i hi
    simpa using this
theorem Good.blk {scope : Scope} (gd : Good Ω k N sc W X) {s : Shared} {H : Hp} {C : Addr} {cl : List (Str × Addr)} {fp : List Addr} : Good Ω k N (rel scope sc) W0 (X.blk s H scope (compEnvC scope cl C X.env) fp) :=
  ⟨gd.P, gd.w, gd.K, gd.mg, gd.base, gd.calm, gd.hN, gd.nd, by rw [← gd.sc]; rfl, gd.room, takes0⟩
end

section
variable (Ω : Wd) (Γ : Cfg) (T : Tab) (k : Nat) (N : List Str)
def IE (e : E) : Prop := ∀ (sc : Scope) (W : WX) (X : Cx) (x : Expr), Good Ω k N sc W X → chkE T N sc e x = true → (∀ Z, PE X x (tE Ω Z W (evE Γ e))) ∧ (tst e = true → ∀ Z, PT X x (tT Ω Z W (evE Γ e)))
structure IEs' (es : Es) (sc : Scope) (W : WX) (X : Cx) (xs : List Expr) : Prop where
  pa : ∀ Z, PA X xs (tA Ω Z W (evEs Γ es))
  nst : nostar es = true → xs.all nst = true
  pps : ∀ ks kk dpos, keysB ks kk = true → kk.length = xs.length → nostar es = true → PPs X dpos kk xs (trs Ω Γ W ks es)
  bop : bop' es = true → tsts es = true → ∀ o pos, (∀ Z, PE X (.BoolOp o xs pos) (tE Ω Z W (evB Γ o es))) ∧ ∀ Z, PW X (.BoolOp o xs pos) (tT Ω Z W (evB Γ o es))
  pts : xs.length ≤ 1 → nostar es = true → tsts es = true → PTs X xs (tTU Ω W (evC Γ es))
def IEs (es : Es) : Prop := ∀ (sc : Scope) (W : WX) (X : Cx) (xs : List Expr), Good Ω k N sc W X → chkEs T N sc es xs = true → IEs' Ω Γ es sc W X xs
def IO (eo : Eo) : Prop := ∀ (sc : Scope) (W : WX) (X : Cx) (x : Option Expr), Good Ω k N sc W X → chkO T N sc eo x = true → ∀ Z, PO X x (tOI Ω Z W (evO Γ eo))
def II (it : I) : Prop := ∀ (sc : Scope) (W : WX) (X : Cx) (x tg : Expr), Good Ω k N sc W X → chkI T N sc it x = true → (∀ a, it = .enu a → ∃ elts j p, tg = .Tuple elts j p) → (∀ Z, PI X tg x (tI Ω Z W (evI Γ it))) ∧ ∀ v, foldedSetIterable x X.env v = pure v
end

section
variable {Ω : Wd} {Γ : Cfg} {T : Tab} {k : Nat} {N : List Str}
theorem pts_by {X : Cx} {e : List Expr} {t : TT} (h : ∀ σ H Q, t σ H Q → ∃ t', PTs X e t' ∧ t' σ H Q) : PTs X e t := ⟨fun pins s σ H Q I q =>
  let ⟨_, p, q'⟩ := h σ H Q q
  p.run pins s σ H Q I q'⟩
theorem peU {X : Cx} {W : WX} {x : Expr} {f : S → R D} (h : ∀ Z, PE X x (tE Ω Z W f)) : PE X x (tEU Ω W f) := pe_by fun σ H Q ⟨Z, q⟩ => ⟨_, h Z, q⟩
theorem lc_both {elt tg iter : Expr} {ifs : List Expr} {scope sc : Scope} {own : List Nat} {t : Ev.T} {it : I} {cond : Es} {e : E} {W : WX} {X : Cx} (F : Facts Ω Γ T k) (gd : Good Ω k N sc W X) (hE : IE Ω Γ T k N e) (hC : IEs Ω Γ T k N cond) (hI : II Ω Γ T k N it)
    (h : (blk N sc scope (ownP N own) && chkI T N sc it iter && enuOK t it && chkT N (sto scope) t tg && chkEs T N (rel scope sc) cond ifs && nostar cond && tsts cond && decide (ifs.length ≤ 1) && chkE T N (rel scope sc) e elt
        && (match t with | .nm i => own.contains i | .tp is => is.all own.contains)) = true) :
    (∀ Z, ∃ wi tt, PI X tg iter wi ∧ True ∧ (∀ σ H Q, tE Ω Z W (evE Γ (.lc e t it cond own)) σ H Q → tLc wi (gT X.K t) tt (tEU Ω W0 (evE Γ e)) ((ownP N own).map (·.2)) σ H Q) ∧ tt = tTU Ω W0 (evC Γ cond)) ∧
    BlkOk X.N X.env.scope scope (ownP N own) ∧ (∀ x, foldedSetIterable iter X.env x = pure x) ∧
    (∀ (s : Shared) (H : Hp) (C : Addr) (cl : List (Str × Addr)) (fp : List Addr), PG (X.blk s H scope (compEnvC scope cl C X.env) fp) tg (gT X.K t)) ∧
    (∀ (s : Shared) (H : Hp) (C : Addr) (cl : List (Str × Addr)) (fp : List Addr), PTs (X.blk s H scope (compEnvC scope cl C X.env) fp) ifs (tTU Ω W0 (evC Γ cond))) ∧
    (∀ (s : Shared) (H : Hp) (C : Addr) (cl : List (Str × Addr)) (fp : List Addr), PE (X.blk s H scope (compEnvC scope cl C X.env) fp) elt (tEU Ω W0 (evE Γ e))) := by
  simp only [Bool.and_eq_true, decide_eq_true_eq] at h
  obtain ⟨⟨⟨⟨⟨⟨⟨⟨⟨h1, h2⟩, h3⟩, h4⟩, h5⟩, h6⟩, h7⟩, h8⟩, h9⟩, h10⟩ := h
  have hb : BlkOk X.N X.env.scope scope (ownP N own) := by rw [gd.hN, gd.sc]; exact blk_of h1
  obtain ⟨hi, hf⟩ := hI sc W X iter tg gd h2 fun a e => by
    subst e
    cases t with
    | nm i => simp [enuOK] at h3
    | tp is =>
      cases tg with
      | Tuple elts j p => exact ⟨_, _, _, rfl⟩
      | _ => simp [chkT] at h4
  have hg : ∀ (s : Shared) (H : Hp) (C : Addr) (cl : List (Str × Addr)) (fp : List Addr), PG (X.blk s H scope (compEnvC scope cl C X.env) fp) tg (gT X.K t) := fun s H C cl fp => by
    have gb : Good Ω k N (rel scope sc) W0 (X.blk s H scope (compEnvC scope cl C X.env) fp) := gd.blk
    refine pg_of (X := X.blk s H scope (compEnvC scope cl C X.env) fp) (N := N) gd.hN gd.nd gd.calm (fun y hy => ?_) h4
    rw [gb.sc]
    rcases sto_loc hy with e | e
    · exact ⟨.inl (rel_keep (by decide) e), .inr (rel_keep (by decide) e)⟩
    · refine ⟨.inr (rel_keep (by decide) e), .inl ?_⟩
      show (scope.names.lookup y == some .cell) = true
      rw [e]; decide
  have hc := fun (s : Shared) (H : Hp) (C : Addr) (cl : List (Str × Addr)) (fp : List Addr) => (hC _ W0 (X.blk s H scope (compEnvC scope cl C X.env) fp) ifs gd.blk h5).pts h8 h6 h7
  have he := fun (s : Shared) (H : Hp) (C : Addr) (cl : List (Str × Addr)) (fp : List Addr) => peU (Ω := Ω) (hE _ W0 (X.blk s H scope (compEnvC scope cl C X.env) fp) elt gd.blk h9).1
  refine ⟨fun Z => ?_, hb, hf, hg, hc, he⟩
  obtain ⟨wi, tt, a1, a2, a3, a4⟩ := s_lc gd hb hf (okT_of h10) hi hg hc he Z
  exact ⟨wi, tt, a1, a2, fun σ H Q q => a3 σ H Q q, a4⟩
theorem evB_and {e e2 : E} {r2 : Es} {s : S} : evB Γ .And (.cons e (.cons e2 r2)) s = andF (evE Γ e) (evB Γ .And (.cons e2 r2)) s := by
  show (evE Γ e s).bind _ = (evE Γ e s).bind _
  cases evE Γ e s with
  | st => rfl
  | ex x s' => rfl
  | ok d s' =>
    cases d with
    | pur p => cases p <;> first | rfl | (rename_i b; cases b <;> rfl)
    | cel _ => rfl
    | loc _ => rfl
theorem evB_or {e e2 : E} {r2 : Es} {s : S} : evB Γ .Or (.cons e (.cons e2 r2)) s = orF (evE Γ e) (evB Γ .Or (.cons e2 r2)) s := by
  show (evE Γ e s).bind _ = (evE Γ e s).bind _
  cases evE Γ e s with
  | st => rfl
  | ex x s' => rfl
  | ok d s' =>
    cases d with
    | pur p => cases p <;> first | rfl | (rename_i b; cases b <;> rfl)
    | cel _ => rfl
    | loc _ => rfl
mutual
theorem iE (F : Facts Ω Γ T k) : ∀ (e : E), IE Ω Γ T k N e
  | .slot i, sc, W, X, x, gd, h => by
    unfold chkE at h
    split at h
    · simp only [Bool.and_eq_true, decide_eq_true_eq] at h
      exact both' (fun Z => s_var gd h.1.1 h.1.2 h.2) (fun _ => rfl) fun _ => rfl
    · cases h
  | .frz i, sc, W, X, x, gd, h => by
    unfold chkE at h
    split at h
    · simp only [Bool.and_eq_true, decide_eq_true_eq] at h
      exact both' (fun Z => s_frz (Γ := Γ) gd h.1.1 h.1.2 h.2) (fun _ => rfl) fun _ => rfl
    · cases h
  | .cst p, sc, W, X, x, gd, h => by
    unfold chkE at h
    split at h
    · exact both' (fun Z => s_cst h) (fun _ => rfl) fun _ => rfl
    · cases h
  | .glb y, sc, W, X, x, gd, h => by
    unfold chkE at h
    split at h
    · simp only [Bool.and_eq_true, decide_eq_true_eq] at h
      obtain ⟨rfl, h⟩ := h
      exact both' (fun Z => s_glb F gd h) (fun _ => rfl) fun _ => rfl
    · cases h
  | .tup es, sc, W, X, x, gd, h => by
    unfold chkE at h
    split at h
    · exact both' (fun Z => s_tup (iEs F es sc W X _ gd h).pa) (fun _ => rfl) fun _ => rfl
    · cases h
  | .lst es, sc, W, X, x, gd, h => by
    unfold chkE at h
    split at h
    · exact both' (fun Z => s_lst (iEs F es sc W X _ gd h).pa) (fun _ => rfl) fun _ => rfl
    · cases h
  | .lstL es, sc, W, X, x, gd, h => by
    unfold chkE at h
    split at h
    · exact both' (fun Z => s_lstL (iEs F es sc W X _ gd h).pa) (fun _ => rfl) fun _ => rfl
    · cases h
  | .lstC es, sc, W, X, x, gd, h => by
    unfold chkE at h
    split at h
    · exact both' (fun Z => s_lstC (iEs F es sc W X _ gd h).pa) (fun _ => rfl) fun _ => rfl
    · cases h
  | .bin o a b, sc, W, X, x, gd, h => by
    unfold chkE at h
    split at h
    · simp only [Bool.and_eq_true, decide_eq_true_eq] at h
      obtain ⟨⟨rfl, h1⟩, h2⟩ := h
      exact both' (fun Z => s_bin gd (iE F a sc W X _ gd h1).1 (iE F b sc W X _ gd h2).1) (fun _ => rfl) fun _ => rfl
    · cases h
  | .neg a, sc, W, X, x, gd, h => by
    unfold chkE at h
    split at h
    · exact both' (fun Z => s_neg (iE F a sc W X _ gd h).1) (fun _ => rfl) fun _ => rfl
    · cases h
  | .cmp o a b, sc, W, X, x, gd, h => by
    unfold chkE at h
    split at h
    · simp only [Bool.and_eq_true, decide_eq_true_eq] at h
      obtain ⟨⟨⟨rfl, h1⟩, h2⟩, h3⟩ := h
      exact ⟨fun Z => pe_eq (s_cmp gd (notSet_hm h3) (iE F a sc W X _ gd h1).1 (iE F b sc W X _ gd h2).1) fun _ => rfl, fun _ Z => pt_eq (t_cmp gd (notSet_hm h3) (iE F a sc W X _ gd h1).1 (iE F b sc W X _ gd h2).1) fun _ => rfl⟩
    · cases h
  | .chn o o2 a b c, sc, W, X, x, gd, h => by
    unfold chkE at h
    split at h
    · simp only [Bool.and_eq_true, decide_eq_true_eq] at h
      obtain ⟨⟨⟨⟨⟨rfl, rfl⟩, h1⟩, h2⟩, h3⟩, h4⟩ := h
      exact ⟨fun Z => pe_eq (s_chn gd (notSet_lm h4) (iE F a sc W X _ gd h1).1 (iE F b sc W X _ gd h2).1 (iE F c sc W X _ gd h3).1) fun _ => rfl, fun _ Z => pt_eq (t_chn gd (notSet_lm h4) (iE F a sc W X _ gd h1).1 (iE F b sc W X _ gd h2).1 (iE F c sc W X _ gd h3).1) fun _ => rfl⟩
    · cases h
  | .bop o es, sc, W, X, x, gd, h => by
    unfold chkE at h
    split at h
    · simp only [Bool.and_eq_true, decide_eq_true_eq] at h
      obtain ⟨⟨⟨rfl, h1⟩, h2⟩, h3⟩ := h
      obtain ⟨q1, q2⟩ := (iEs F es sc W X _ gd h1).bop h2 h3 o _
      exact ⟨fun Z => pe_eq (q1 Z) fun _ => rfl, fun _ Z => pt_eq (q2 Z).pt fun _ => rfl⟩
    · cases h
  | .not a, sc, W, X, x, gd, h => by
    unfold chkE at h
    split at h
    · simp only [Bool.and_eq_true] at h
      exact ⟨fun Z => pe_eq (s_not (iE F a sc W X _ gd h.1).1) fun _ => rfl, fun _ Z => pt_eq (t_not ((iE F a sc W X _ gd h.1).2 h.2)) fun _ => rfl⟩
    · cases h
  | .ite c a b, sc, W, X, x, gd, h => by
    unfold chkE at h
    split at h
    · simp only [Bool.and_eq_true] at h
      obtain ⟨⟨⟨h1, h2⟩, h3⟩, h4⟩ := h
      exact ⟨fun Z => pe_eq (s_ite ((iE F c sc W X _ gd h1).2 h4) (iE F a sc W X _ gd h2).1 (iE F b sc W X _ gd h3).1) fun _ => rfl, fun z => (nomatch z)⟩
    · cases h
  | .idx a i, sc, W, X, x, gd, h => by
    unfold chkE at h
    split at h
    · simp only [Bool.and_eq_true] at h
      exact both' (fun Z => s_idx gd h.2 (iE F a sc W X _ gd h.1.1).1 (iE F i sc W X _ gd h.1.2).1) (fun _ => rfl) fun _ => rfl
    · cases h
  | .slc a lo hi, sc, W, X, x, gd, h => by
    unfold chkE at h
    split at h
    · simp only [Bool.and_eq_true] at h
      exact both' (fun Z => s_slc gd (iE F a sc W X _ gd h.1.1).1 (iO F lo sc W X _ gd h.1.2) (iO F hi sc W X _ gd h.2)) (fun _ => rfl) fun _ => rfl
    · cases h
  | .rev a, sc, W, X, x, gd, h => by
    unfold chkE at h
    split at h
    · simp only [Bool.and_eq_true, decide_eq_true_eq] at h
      obtain ⟨h1, rfl⟩ := h
      exact both' (fun Z => s_rev gd (iE F a sc W X _ gd h1).1) (fun _ => rfl) fun _ => rfl
    · cases h
  | .dsel ks es b, sc, W, X, x, gd, h => by
    unfold chkE at h
    split at h
    · simp only [Bool.and_eq_true, decide_eq_true_eq] at h
      obtain ⟨⟨⟨⟨⟨⟨⟨⟨h1, h2⟩, h3⟩, h4⟩, h5⟩, h6⟩, h7⟩, h8⟩, h9⟩ := h
      exact both' (fun Z => s_dsel gd h1 h6 h2 h3 h7 h8 h9 h5 ((iEs F es sc W X _ gd h2).pps _ _ _ h1 h6 h3) (iE F b sc W X _ gd h4).1) (fun _ => rfl) fun _ => rfl
    · cases h
  | .isi a t, sc, W, X, x, gd, h => by
    unfold chkE at h
    split at h
    · simp only [Bool.and_eq_true, decide_eq_true_eq] at h
      obtain ⟨⟨⟨⟨rfl, h1⟩, h2⟩, rfl⟩, h3⟩ := h
      exact both' (fun Z => s_isi F gd h1 h3 (nst_chk h2) (iE F a sc W X _ gd h2).1) (fun _ => rfl) fun _ => rfl
    · cases h
  | .isT a ts, sc, W, X, x, gd, h => by
    unfold chkE at h
    split at h
    · simp only [Bool.and_eq_true, decide_eq_true_eq] at h
      obtain ⟨⟨⟨⟨⟨rfl, h1⟩, h2⟩, h3⟩, h4⟩, h5⟩ := h
      exact both' (fun Z => s_isT F gd h1 h3 h4 h5 (nst_chk h2) (iE F a sc W X _ gd h2).1) (fun _ => rfl) fun _ => rfl
    · cases h
  | .bif o es, sc, W, X, x, gd, h => by
    unfold chkE at h
    split at h
    · rename_i ys _
      simp only [Bool.and_eq_true, decide_eq_true_eq] at h
      obtain ⟨⟨⟨⟨rfl, h1⟩, h2⟩, h3⟩, h4⟩ := h
      have q := iEs F es sc W X _ gd h2
      cases ys with
      | nil => cases es <;> simp [chkEs, nonil] at h2 h4
      | cons y ys => exact both' (fun Z => s_bif F gd h1 (q.nst h3) q.pa) (fun _ => rfl) fun _ => rfl
    · cases h
  | .listC a, sc, W, X, x, gd, h => by
    unfold chkE at h
    split at h
    · simp only [Bool.and_eq_true, decide_eq_true_eq] at h
      obtain ⟨⟨rfl, h1⟩, h2⟩ := h
      exact both' (fun Z => s_listC F gd h1 (nst_chk h2) (iE F a sc W X _ gd h2).1) (fun _ => rfl) fun _ => rfl
    · cases h
  | .lrg a, sc, W, X, x, gd, h => by
    unfold chkE at h
    split at h
    · simp only [Bool.and_eq_true, decide_eq_true_eq] at h
      obtain ⟨⟨⟨⟨rfl, h1⟩, rfl⟩, h2⟩, h3⟩ := h
      exact both' (fun Z => s_lrg F gd h1 h2 (nst_chk h3) (iE F a sc W X _ gd h3).1) (fun _ => rfl) fun _ => rfl
    · cases h
  | .mth o m es, sc, W, X, x, gd, h => by
    unfold chkE at h
    split at h
    · rename_i ys _
      simp only [Bool.and_eq_true, decide_eq_true_eq] at h
      obtain ⟨⟨⟨⟨⟨⟨⟨⟨rfl, h1⟩, h2⟩, h3⟩, h4⟩, h5⟩, h6⟩, h7⟩, h8⟩ := h
      have q := iEs F es sc W X _ gd h3
      cases ys with
      | nil => cases es <;> simp [chkEs, nonil] at h3 h6
      | cons y ys => exact both' (fun Z => s_mth h1 gd (iE F o sc W X _ gd h2).1 q.pa h4 h7 (q.nst h5) h8) (fun _ => rfl) fun _ => rfl
    · cases h
  | .meth c m i o es, sc, W, X, x, gd, h => by
    unfold chkE at h
    split at h
    · rename_i ys _
      simp only [Bool.and_eq_true, decide_eq_true_eq] at h
      obtain ⟨⟨⟨⟨⟨⟨⟨⟨rfl, h1⟩, h2⟩, h3⟩, h4⟩, h5⟩, h6⟩, h7⟩, h8⟩ := h
      have fact := F.mt _ h1
      rw [h2] at fact
      have q := iEs F es sc W X _ gd h4
      cases ys with
      | nil =>
        have e : es = .nil := by cases es <;> first | rfl | simp [chkEs] at h4
        subst e
        exact both' (fun Z => s_meth0 fact gd (iE F o sc W X _ gd h3).1 h5 h7) (fun _ => rfl) fun _ => rfl
      | cons y ys => exact both' (fun Z => s_meth fact gd (iE F o sc W X _ gd h3).1 q.pa h5 h7 (q.nst h6) h8) (fun _ => rfl) fun _ => rfl
    · cases h
  | .prop c m i o, sc, W, X, x, gd, h => by
    unfold chkE at h
    split at h
    · simp only [Bool.and_eq_true, decide_eq_true_eq] at h
      obtain ⟨⟨⟨⟨rfl, h1⟩, h2⟩, h3⟩, h4⟩ := h
      have fact := F.pr _ h1
      rw [h2] at fact
      exact both' (fun Z => s_prop fact gd (iE F o sc W X _ gd h3).1 h4) (fun _ => rfl) fun _ => rfl
    · cases h
  | .opc o c i a b, sc, W, X, x, gd, h => by
    unfold chkE at h
    split at h
    · simp only [Bool.and_eq_true, decide_eq_true_eq] at h
      obtain ⟨⟨⟨⟨⟨⟨rfl, h1⟩, h2⟩, h3⟩, h4⟩, h5⟩, h6⟩ := h
      have fact := F.mt _ h1
      rw [h3] at fact
      exact ⟨fun Z => pe_eq (s_opc h2 fact gd (notSet_hm h6) (iE F a sc W X _ gd h4).1 (iE F b sc W X _ gd h5).1) fun _ => rfl, fun _ Z => pt_eq (t_opc h2 fact gd (notSet_hm h6) (iE F a sc W X _ gd h4).1 (iE F b sc W X _ gd h5).1) fun _ => rfl⟩
    · cases h
  | .opb o c i a b, sc, W, X, x, gd, h => by
    unfold chkE at h
    split at h
    · simp only [Bool.and_eq_true, decide_eq_true_eq] at h
      obtain ⟨⟨⟨⟨⟨⟨rfl, h1⟩, h2⟩, h3⟩, h4⟩, h5⟩, h6⟩ := h
      have fact := F.mt _ h1
      rw [h4] at fact
      exact both' (fun Z => s_opb h3 fact (F.ic _ h2) gd (iE F a sc W X _ gd h5).1 (iE F b sc W X _ gd h6).1) (fun _ => rfl) fun _ => rfl
    · cases h
  | .lenO c i a, sc, W, X, x, gd, h => by
    unfold chkE at h
    split at h
    · simp only [Bool.and_eq_true, decide_eq_true_eq] at h
      obtain ⟨⟨⟨⟨rfl, h1⟩, h2⟩, h3⟩, h4⟩ := h
      have fact := F.mt _ h3
      rw [h4] at fact
      exact both' (fun Z => s_lenO F fact gd h1 (nst_chk h2) (iE F a sc W X _ gd h2).1) (fun _ => rfl) fun _ => rfl
    · cases h
  | .isc c a, sc, W, X, x, gd, h => by
    unfold chkE at h
    split at h
    · simp only [Bool.and_eq_true, decide_eq_true_eq] at h
      obtain ⟨⟨⟨⟨⟨rfl, h1⟩, h2⟩, rfl⟩, h3⟩, h4⟩ := h
      exact both' (fun Z => s_isc F (F.ic _ h4) gd h1 h3 (nst_chk h2) (iE F a sc W X _ gd h2).1) (fun _ => rfl) fun _ => rfl
    · cases h
  | .fld a y, sc, W, X, x, gd, h => by
    unfold chkE at h
    split at h
    · simp only [Bool.and_eq_true, decide_eq_true_eq] at h
      obtain ⟨⟨rfl, h1⟩, h2⟩ := h
      exact both' (fun Z => s_fld F gd h2 (iE F a sc W X _ gd h1).1) (fun _ => rfl) fun _ => rfl
    · cases h
  | .call n es, sc, W, X, x, gd, h => by
    unfold chkE at h
    split at h
    · rename_i ys _
      simp only [Bool.and_eq_true, decide_eq_true_eq] at h
      obtain ⟨⟨⟨⟨⟨h0, rfl⟩, h1⟩, h2⟩, h3⟩, h4⟩ := h
      have q := iEs F es sc W X _ gd h2
      cases ys with
      | nil => cases es <;> simp [chkEs, nonil] at h2 h4
      | cons y ys => exact both' (fun Z => s_call (F.fn n h0) gd h1 (q.nst h3) q.pa) (fun _ => rfl) fun _ => rfl
    · cases h
  | .calp n es, sc, W, X, x, gd, h => by
    unfold chkE at h
    split at h
    · rename_i ys _
      simp only [Bool.and_eq_true, decide_eq_true_eq] at h
      obtain ⟨⟨⟨⟨⟨h0, rfl⟩, h1⟩, h2⟩, h3⟩, h4⟩ := h
      have q := iEs F es sc W X _ gd h2
      cases ys with
      | nil => cases es <;> simp [chkEs, nonil] at h2 h4
      | cons y ys => exact both' (fun Z => s_calp (F.fn n h0) gd h1 (q.nst h3) q.pa) (fun _ => rfl) fun _ => rfl
    · cases h
  | .calp0 n, sc, W, X, x, gd, h => by
    unfold chkE at h
    split at h
    · simp only [Bool.and_eq_true, decide_eq_true_eq] at h
      obtain ⟨⟨h0, rfl⟩, h1⟩ := h
      exact both' (fun Z => s_calp0 (F.fn n h0) gd h1) (fun _ => rfl) fun _ => rfl
    · cases h
  | .mkc c es, sc, W, X, x, gd, h => by
    unfold chkE at h
    split at h
    · rename_i ys _
      simp only [Bool.and_eq_true, decide_eq_true_eq] at h
      obtain ⟨⟨⟨⟨⟨h0, rfl⟩, h1⟩, h2⟩, h3⟩, h4⟩ := h
      have q := iEs F es sc W X _ gd h2
      cases ys with
      | nil => cases es <;> simp [chkEs, nonil] at h2 h4
      | cons y ys => exact both' (fun Z => s_mkc (F.mkc c h0) gd h1 (q.nst h3) q.pa) (fun _ => rfl) fun _ => rfl
    · cases h
  | .spl o a, sc, W, X, x, gd, h => by
    unfold chkE at h
    split at h
    · simp only [Bool.and_eq_true, decide_eq_true_eq] at h
      obtain ⟨⟨⟨⟨⟨rfl, h1⟩, h2⟩, h3⟩, h4⟩, h5⟩ := h
      exact both' (fun Z => s_spl gd (iE F o sc W X _ gd h1).1 (iE F a sc W X _ gd h2).1 h3 h4 (nst_chk h2)) (fun _ => rfl) fun _ => rfl
    · cases h
  | .joi o a, sc, W, X, x, gd, h => by
    unfold chkE at h
    split at h
    · simp only [Bool.and_eq_true, decide_eq_true_eq] at h
      obtain ⟨⟨⟨⟨⟨rfl, h1⟩, h2⟩, h3⟩, h4⟩, h5⟩ := h
      exact both' (fun Z => s_joi gd (iE F o sc W X _ gd h1).1 (iE F a sc W X _ gd h2).1 h3 h4 (nst_chk h2)) (fun _ => rfl) fun _ => rfl
    · cases h
  | .mkf c es, sc, W, X, x, gd, h => by
    unfold chkE at h
    split at h
    · rename_i ys _
      simp only [Bool.and_eq_true, decide_eq_true_eq] at h
      obtain ⟨⟨⟨⟨⟨h0, rfl⟩, h1⟩, h2⟩, h3⟩, h4⟩ := h
      have q := iEs F es sc W X _ gd h2
      cases ys with
      | nil => cases es <;> simp [chkEs, nonil] at h2 h4
      | cons y ys => exact both' (fun Z => s_mkf (F.mkc c h0) gd h1 (q.nst h3) q.pa) (fun _ => rfl) fun _ => rfl
    · cases h
  | .lc e t it cond own, sc, W, X, x, gd, h => by
    unfold chkE at h
    split at h
    · rename_i elt tg iter ifs a scope pos
      have ha : a = 0 := by
        simp only [Bool.and_eq_true, decide_eq_true_eq] at h
        exact h.1.1.1.1.1.1.1.1.1.1
      subst ha
      rw [decide_eq_true rfl, Bool.true_and] at h
      obtain ⟨b1, b2, b3, b4, b5, b6⟩ := lc_both F gd (iE F e) (iEs F cond) (iI F it) h
      refine both (fun Z => ?_) fun _ => rfl
      refine pe_by fun σ H Q q => ?_
      obtain ⟨wi, tt, a1, _, a3, a4⟩ := b1 Z
      refine ⟨_, pe_lc gd.calm (by rw [gd.hN]; exact gd.nd) a1 b2 b4 b5 b6 b3, ?_⟩
      have := a3 σ H Q q
      rw [a4] at this
      exact this
    · cases h
theorem iEs (F : Facts Ω Γ T k) : ∀ (es : Es), IEs Ω Γ T k N es
  | .nil, sc, W, X, xs, gd, h => by
    unfold chkEs at h
    split at h
    · exact ⟨fun Z => pa_eq s_nil fun _ => rfl, fun _ => rfl, fun ks kk dpos h1 h2 _ => (by
        cases kk with
        | nil => cases ks <;> exact pps_nil
        | cons _ _ => simp at h2), fun z => (nomatch z), fun _ _ _ => pts_by fun σ H Q ⟨Z, s, G, as, ls, A, o⟩ => ⟨_, pts_nil, o _ _ _ _ _ A (Le.refl _ _ _) rfl⟩⟩
    · cases h
  | .cons e r, sc, W, X, xs, gd, h => by
    unfold chkEs at h
    split at h
    · cases h
    · rename_i x xs hns
      rw [Bool.and_eq_true] at h
      have qe := iE F e sc W X x gd h.1
      have qs := iEs F r sc W X xs gd h.2
      have hn := nst_chk h.1
      refine ⟨fun Z => pa_eq (s_cons hn qe.1 qs.pa) fun _ => rfl, fun z => ?_, fun ks kk dpos h1 h2 h3 => ?_, fun h1 h2 o pos => ?_, fun h1 h2 h3 => ?_⟩
      · rw [List.all_cons, hn, Bool.true_and]
        exact qs.nst z
      · cases kk with
        | nil => simp at h2
        | cons u kk =>
          cases ks with
          | nil => simp [keysB] at h1
          | cons y ks =>
            unfold keysB at h1
            split at h1
            · contradiction
            · rename_i e1 e2
              cases e1; cases e2
              rw [Bool.and_eq_true, decide_eq_true_eq] at h1
              obtain ⟨rfl, h1⟩ := h1
              exact pps_cons pe_str (peU qe.1) (qs.pps _ _ dpos h1 (by simpa using h2) h3)
            · cases h1
      · cases r with
        | nil =>
          have hx : xs = [] := by
            have := h.2
            unfold chkEs at this
            split at this
            · rfl
            · cases this
          subst hx
          have ht : tst e = true := by
            rw [tsts, Bool.and_eq_true] at h2
            exact h2.1
          exact ⟨fun Z => pe_eq (pe_one (qe.1 Z)) fun _ => rfl, fun Z => by
            cases o with
            | And => exact pw_eq (pw_and1 (qe.2 ht Z)) fun _ => rfl
            | Or => exact pw_eq (pw_or1 (qe.2 ht Z)) fun _ => rfl⟩
        | cons e2 r2 =>
          have ht : tst e = true ∧ tsts (.cons e2 r2) = true := by
            rw [tsts, Bool.and_eq_true] at h2
            exact h2
          have hb : bop' (.cons e2 r2) = true := h1
          have hx : ∃ y ys, xs = y :: ys := by
            cases xs with
            | nil => have := h.2; unfold chkEs at this; cases this
            | cons y ys => exact ⟨y, ys, rfl⟩
          obtain ⟨y, ys, rfl⟩ := hx
          obtain ⟨p1, p2⟩ := qs.bop hb ht.2 o pos
          cases o with
          | And => exact ⟨fun Z => pe_eq (s_and qe.1 p1) fun s => evB_and, fun Z => pw_eq (t_and (qe.2 ht.1) p2) fun s => evB_and⟩
          | Or => exact ⟨fun Z => pe_eq (s_or qe.1 p1) fun s => evB_or, fun Z => pw_eq (t_or (qe.2 ht.1) p2) fun s => evB_or⟩
        | star _ _ => simp [bop'] at h1
      · have hx : xs = [] := by
          cases xs with
          | nil => rfl
          | cons _ _ => simp at h1
        subst hx
        have hr : r = .nil := by
          cases r with
          | nil => rfl
          | cons _ _ => have := h.2; unfold chkEs at this; cases this
          | star _ _ => simp [nostar] at h2
        subst hr
        have ht : tst e = true := by
          rw [tsts, Bool.and_eq_true] at h3
          exact h3.1
        refine pts_by fun σ H Q ⟨Z, s, G, as, ls, A, o⟩ => ⟨_, pts_one (qe.2 ht Z), ?_⟩
        refine oneT A o (fun d s' e h => ?_) fun b s1 H1 G1 as1 ls1 e A1 le1 o1 => o1 _ _ _ _ _ A1 (Le.refl _ _ _) rfl
        split at h
        · exact ⟨_, rfl⟩
        · exact absurd rfl h
    · cases h
  | .star e r, sc, W, X, xs, gd, h => by
    unfold chkEs at h
    split at h
    · rw [Bool.and_eq_true] at h
      have qe := iE F e sc W X _ gd h.1
      have qs := iEs F r sc W X _ gd h.2
      exact ⟨fun Z => pa_eq (s_star gd qe.1 qs.pa) fun _ => rfl, fun z => (nomatch z), fun _ _ _ _ _ z => (nomatch z), fun z => (nomatch z), fun _ z => (nomatch z)⟩
    · cases h
theorem iO (F : Facts Ω Γ T k) : ∀ (e : Eo), IO Ω Γ T k N e
  | .none, sc, W, X, x, gd, h => by
    unfold chkO at h
    split at h
    · exact fun Z => po_eq s_oN fun _ => rfl
    · cases h
  | .some e, sc, W, X, x, gd, h => by
    unfold chkO at h
    split at h
    · exact fun Z => po_eq (s_oS (iE F e sc W X _ gd h).1) fun _ => rfl
    · cases h
theorem iI (F : Facts Ω Γ T k) : ∀ (e : I), II Ω Γ T k N e
  | .seq a, sc, W, X, x, tg, gd, h, ht => by
    unfold chkI at h
    rw [Bool.and_eq_true] at h
    exact ⟨fun Z => pi_eq (s_seq gd (iE F a sc W X _ gd h.1).1) fun _ => rfl, notSet_fs h.2⟩
  | .rng1 a, sc, W, X, x, tg, gd, h, ht => by
    unfold chkI at h
    split at h
    · simp only [Bool.and_eq_true, decide_eq_true_eq] at h
      obtain ⟨⟨⟨rfl, h1⟩, h2⟩, _⟩ := h
      exact ⟨fun Z => pi_eq (s_rng1 F gd h1 (nst_chk h2) (iE F a sc W X _ gd h2).1) fun _ => rfl, fun _ => rfl⟩
    · cases h
  | .rng2 a b, sc, W, X, x, tg, gd, h, ht => by
    unfold chkI at h
    split at h
    · simp only [Bool.and_eq_true, decide_eq_true_eq] at h
      obtain ⟨⟨⟨⟨⟨rfl, h1⟩, h2⟩, h3⟩, _⟩, _⟩ := h
      exact ⟨fun Z => pi_eq (s_rng2 F gd h1 (nst_chk h2) (nst_chk h3) (iE F a sc W X _ gd h2).1 (iE F b sc W X _ gd h3).1) fun _ => rfl, fun _ => rfl⟩
    · cases h
  | .enu a, sc, W, X, x, tg, gd, h, ht => by
    unfold chkI at h
    split at h
    · simp only [Bool.and_eq_true, decide_eq_true_eq] at h
      obtain ⟨⟨⟨rfl, h1⟩, h2⟩, _⟩ := h
      obtain ⟨elts, j, p, rfl⟩ := ht a rfl
      exact ⟨fun Z => pi_eq (s_enu F gd h1 (nst_chk h2) (iE F a sc W X _ gd h2).1) fun _ => rfl, fun _ => rfl⟩
    · cases h
end
end
end Ev
end

section
set_option Elab.async false
set_option linter.all false
set_option maxRecDepth 100000
set_option maxHeartbeats 4000000
/-! EvStm: the evaluator is sound on every statement that is checked. -/
namespace Ev
open PySem PySem.Spec L2
open PyProof.Rows hiding St

section
variable (Ω : Wd) (Z : Fr) (W : WX)
def OutS (G : Hp) (as ls : List Addr) (r : R Fl) (D : Ends) : Prop := match r with
  | .st => False
  | .ok .nx s' => ∀ σ' H' G' as' ls', Abs Ω Z s' G' as' ls' σ' H' → Le G as ls G' as' ls' → D.nx σ' H'
  | .ok .bk s' => ∀ σ' H' G' as' ls', Abs Ω Z s' G' as' ls' σ' H' → Le G as ls G' as' ls' → D.bk σ' H'
  | .ok .ct s' => ∀ σ' H' G' as' ls', Abs Ω Z s' G' as' ls' σ' H' → Le G as ls G' as' ls' → D.ct σ' H'
  | .ok (.rt d) s' => ∀ v σ' H' G' as' ls', Abs Ω Z s' G' as' ls' σ' H' → Le G as ls G' as' ls' → RpD Ω G' as' ls' v d → D.rt v H'
  | .ex x s' => ∀ dx σ' H' G' as' ls', Abs Ω Z s' G' as' ls' σ' H' → Le G as ls G' as' ls' → ExD Ω G' x dx H' → W (.ref (Ω.ca x.cls)) dx σ' H'
def tS (f : S → R Fl) : TS := fun D σ H => ∃ s G as ls, Abs Ω Z s G as ls σ H ∧ OutS Ω Z W G as ls (f s) D
end
section
variable {Ω : Wd} {Γ : Cfg} {T : Tab} {Z : Fr} {W : WX} {X : Cx} {k : Nat} {N : List Str} {sc : Scope} {pos : Pos} {x : Str} {e tg : Expr} {f g f3 : S → R D}
  {s : S} {G H : Hp} {as ls : List Addr} {σ : St} {Dn : Ends}
theorem OutS.rebase {r : R Fl} {G1 : Hp} {as1 ls1 : List Addr} (h : OutS Ω Z W G as ls r Dn) (le : Le G as ls G1 as1 ls1) : OutS Ω Z W G1 as1 ls1 r Dn := by
  cases r with
  | st => exact h
  | ex x s' => exact fun dx σ' H' G' as' ls' A le' e => h dx σ' H' G' as' ls' A (le.trans le') e
  | ok d s' =>
    cases d with
    | nx => exact fun σ' H' G' as' ls' A le' => h σ' H' G' as' ls' A (le.trans le')
    | bk => exact fun σ' H' G' as' ls' A le' => h σ' H' G' as' ls' A (le.trans le')
    | ct => exact fun σ' H' G' as' ls' A le' => h σ' H' G' as' ls' A (le.trans le')
    | rt d => exact fun v σ' H' G' as' ls' A le' => h v σ' H' G' as' ls' A (le.trans le')
theorem OutS.then {α β : Type} {rl : Hp → List Addr → List Addr → β → α → Prop} {r : R α} {K : α → S → R Fl} {R : β → Hp → Prop} (o : OutS Ω Z W G as ls (r.bind K) Dn)
    (fin : ∀ d s1 x H1 G1 as1 ls1, r = .ok d s1 → Abs Ω Z s1 G1 as1 ls1 σ H1 → Le G as ls G1 as1 ls1 → rl G1 as1 ls1 x d → OutS Ω Z W G1 as1 ls1 (K d s1) Dn → R x H1) : Out Ω Z W rl G as ls σ r R := by
  cases r with
  | st => exact o
  | ex x s' => exact fun dx H' G' as' ls' A le e => o dx σ H' G' as' ls' A le e
  | ok d s1 => exact fun v H1 G1 as1 ls1 A1 le1 r1 => fin d s1 v H1 G1 as1 ls1 rfl A1 le1 r1 (OutS.rebase o le1)
theorem OutS.seq {r : R Fl} {K : Fl → S → R Fl} {Dn' : Ends} (o : OutS Ω Z W G as ls (r.bind K) Dn)
    (hn : ∀ s1 σ1 H1 G1 as1 ls1, r = .ok .nx s1 → Abs Ω Z s1 G1 as1 ls1 σ1 H1 → Le G as ls G1 as1 ls1 → OutS Ω Z W G1 as1 ls1 (K .nx s1) Dn → Dn'.nx σ1 H1)
    (hb : ∀ s1 σ1 H1 G1 as1 ls1, r = .ok .bk s1 → Abs Ω Z s1 G1 as1 ls1 σ1 H1 → Le G as ls G1 as1 ls1 → OutS Ω Z W G1 as1 ls1 (K .bk s1) Dn → Dn'.bk σ1 H1)
    (hc : ∀ s1 σ1 H1 G1 as1 ls1, r = .ok .ct s1 → Abs Ω Z s1 G1 as1 ls1 σ1 H1 → Le G as ls G1 as1 ls1 → OutS Ω Z W G1 as1 ls1 (K .ct s1) Dn → Dn'.ct σ1 H1)
    (hr : ∀ d s1 v σ1 H1 G1 as1 ls1, r = .ok (.rt d) s1 → Abs Ω Z s1 G1 as1 ls1 σ1 H1 → Le G as ls G1 as1 ls1 → RpD Ω G1 as1 ls1 v d → OutS Ω Z W G1 as1 ls1 (K (.rt d) s1) Dn → Dn'.rt v H1) : OutS Ω Z W G as ls r Dn' := by
  cases r with
  | st => exact o
  | ex x s' => exact o
  | ok d s1 =>
    cases d with
    | nx => exact fun σ' H' G' as' ls' A le => hn _ _ _ _ _ _ rfl A le (OutS.rebase o le)
    | bk => exact fun σ' H' G' as' ls' A le => hb _ _ _ _ _ _ rfl A le (OutS.rebase o le)
    | ct => exact fun σ' H' G' as' ls' A le => hc _ _ _ _ _ _ rfl A le (OutS.rebase o le)
    | rt d => exact fun v σ' H' G' as' ls' A le r => hr _ _ _ _ _ _ _ _ rfl A le r (OutS.rebase o le)
theorem OutS.nx (A : Abs Ω Z s G as ls σ H) (o : OutS Ω Z W G as ls (.ok .nx s) Dn) : Dn.nx σ H := o _ _ _ _ _ A (Le.refl _ _ _)
theorem ps_by {st : Stmt} {t : TS} (h : ∀ D σ H, t D σ H → ∃ t', PS X st t' ∧ t' D σ H) : PS X st t := ⟨fun pins s σ H D I q =>
  let ⟨_, p, q'⟩ := h D σ H q
  p.run pins s σ H D I q'⟩
theorem pss_by {st : List Stmt} {t : TS} (h : ∀ D σ H, t D σ H → ∃ t', PSs X st t' ∧ t' D σ H) : PSs X st t := ⟨fun pins s σ H D I q =>
  let ⟨_, p, q'⟩ := h D σ H q
  p.run pins s σ H D I q'⟩
theorem oneS {f : S → R D} {K : D → S → R Fl} {R : VK} (A : Abs Ω Z s G as ls σ H) (o : OutS Ω Z W G as ls ((f s).bind K) Dn)
    (fin : ∀ d s1 x H1 G1 as1 ls1, Abs Ω Z s1 G1 as1 ls1 σ H1 → Le G as ls G1 as1 ls1 → RpD Ω G1 as1 ls1 x d → OutS Ω Z W G1 as1 ls1 (K d s1) Dn → R x H1) : tE Ω Z W f σ H R :=
  ⟨s, G, as, ls, A, OutS.then o fun d s1 x H1 G1 as1 ls1 _ => fin d s1 x H1 G1 as1 ls1⟩
theorem oneSA {f : S → R (List D)} {K : List D → S → R Fl} {R : List V → Hp → Prop} (A : Abs Ω Z s G as ls σ H) (o : OutS Ω Z W G as ls ((f s).bind K) Dn)
    (fin : ∀ d s1 x H1 G1 as1 ls1, Abs Ω Z s1 G1 as1 ls1 σ H1 → Le G as ls G1 as1 ls1 → RpDs Ω G1 as1 ls1 x d → OutS Ω Z W G1 as1 ls1 (K d s1) Dn → R x H1) : tA Ω Z W f σ H R :=
  ⟨s, G, as, ls, A, OutS.then o fun d s1 x H1 G1 as1 ls1 _ => fin d s1 x H1 G1 as1 ls1⟩
theorem oneST {f : S → R D} {K : D → S → R Fl} {R : Bool → Hp → Prop} (A : Abs Ω Z s G as ls σ H) (o : OutS Ω Z W G as ls ((f s).bind K) Dn) (hb : ∀ d s', f s = .ok d s' → K d s' ≠ .st → ∃ b, d = .pur (.bl b))
    (fin : ∀ b s1 H1 G1 as1 ls1, f s = .ok (.pur (.bl b)) s1 → Abs Ω Z s1 G1 as1 ls1 σ H1 → Le G as ls G1 as1 ls1 → OutS Ω Z W G1 as1 ls1 (K (.pur (.bl b)) s1) Dn → R b H1) : tT Ω Z W f σ H R := by
  refine ⟨s, G, as, ls, A, OutS.then o fun d s1 x H1 G1 as1 ls1 e A1 le r o1 => ?_, fun d s' e => hb d s' e fun z => ?_⟩
  · have r : d = .pur (.bl x) := r
    subst r
    exact fin x s1 H1 G1 as1 ls1 e A1 le o1
  · rw [e] at o
    have o : OutS Ω Z W G as ls (K d s') Dn := o
    rw [z] at o
    exact o
/-! what a store is told -/
theorem sw_plain (h : ∀ elt gs scope p, e ≠ .ListComp elt gs scope p) (he : notComp e = true) {t : Option Expr} {l : Nat} {env : Env} : swapsWith e t l env = pure false := by
  cases e <;> first | rfl | cases he
theorem sw_tuple {es : List Expr} {j l : Nat} {p : Pos} {env : Env} : swapsWith e (some (.Tuple es j p)) l env = pure false := by
  cases e <;> rfl
theorem sw_sub {a b : Expr} {l : Nat} {p : Pos} {env : Env} : swapsWith e (some (.Subscript a b p)) l env = pure false := by
  cases e <;> rfl
theorem sw_att {a : Expr} {b : Str} {l : Nat} {p : Pos} {env : Env} : swapsWith e (some (.Attribute a b p)) l env = pure false := by
  cases e <;> rfl
theorem sw_none {l : Nat} {env : Env} (he : notComp e = true) : swapsWith e none l env = pure false := by
  cases e <;> first | rfl | cases he
theorem swst_tup {ts : List Expr} {j : Nat} {p : Pos} {env : Env} (h : notTup e = true) : swappedStores [.Tuple ts j p] e env = pure none := by
  cases e <;> first | rfl | cases h
theorem swst_one {env : Env} (h : ∀ ts j p, tg ≠ .Tuple ts j p) (h2 : ∀ ts p, tg ≠ .List ts p) : swappedStores [tg] e env = pure none := by
  cases tg <;> first | rfl | exact absurd rfl (h _ _ _) | exact absurd rfl (h2 _ _)
/-! ### o[i] = v -/
def rUW (X : Cx) : TSet := fun o i v H Q => ∃ t : TSet, PSet X t ∧ t o i v H Q
theorem set_any : PSet X (rUW X) := fun pins s σ H o i v ov iv u Q I ro ri rv ⟨_, h, q⟩ => h pins s σ H o i v ov iv u Q I ro ri rv q
def rUG (X : Cx) : V → V → Hp → VK → Prop := fun o i H Q => ∃ t : V → V → Hp → VK → Prop, PGet X t ∧ t o i H Q
theorem get_any : PGet X (rUG X) := fun pins s σ H o i ov iv Q I ro ri ⟨_, h, q⟩ => h pins s σ H o i ov iv Q I ro ri q
def rUP (X : Cx) (op : Operator) : TIp := fun x y H Q => ∃ t : TIp, PIp X op t ∧ t x y H Q
theorem ip_any {op : Operator} : PIp X op (rUP X op) := fun pins s σ H x y v u Q I rx ry ⟨_, h, q⟩ => h pins s σ H x y v u Q I rx ry q
theorem get_list : PGet X (rIxL X.K) := by
  intro pins s σ H x y v u Q I rx ry h
  obtain ⟨p, xs, i, z, rfl, rfl, hq, he, q⟩ := h
  cases rx
  obtain ⟨t, rfl⟩ := ry
  obtain ⟨its, r, pl, hz⟩ := I.list hq
  obtain ⟨j, h1, h2, h3, h4, h5⟩ := atI_get he
  obtain ⟨w, ew, rw'⟩ := r.get h2
  have hl := r.length
  have hn := line63
  have fin : EP X pins σ Q w s := ⟨z, H, I, rw', q⟩
  by_cases h0 : 0 ≤ i
  · have hj : i.toNat = j := by
      rw [seqIndex_of h0 h5] at h1
      exact Option.some.inj h1
    exact wpAny_getItem_list pl.isList h0 (by omega) (by rw [hj]; simpa using ew) fin
  · have hj : (i + (its.toArray.size : Int)).toNat = j := by
      rw [seqIndex_neg (by omega) h4] at h1
      rw [List.size_toArray, ← hl]
      exact Option.some.inj h1
    exact wpAny_getItem_list_neg pl.isList (by omega) (by rw [List.size_toArray] <;> omega) (by omega) (by rw [hj]; simpa using ew) fin
theorem getD_ok {d e r : D} {y z : V} {Q : VK} (g : Good Ω k N sc W X) (A : Abs Ω Z s G as ls σ H) (r1 : RpD Ω G as ls z d) (r2 : RpD Ω G as ls y e) (h : idxM s d e = some r) (t : Told Ω Z s G as ls σ r Q) : rUG X z y H Q := by
  have h : idxD s d e = some r ∧ ∀ p, d ≠ .pur p := by
    cases d with
    | pur p => cases h
    | cel k => exact ⟨h, fun p z => nomatch z⟩
    | loc k => exact ⟨h, fun p z => nomatch z⟩
  obtain ⟨h, hd⟩ := h
  unfold idxD at h
  split at h
  · exact absurd rfl (hd _)
  · exact absurd rfl (hd _)
  · split at h
    · rename_i ds em
      obtain ⟨a, rfl, ea⟩ := r1.icel
      obtain rfl := r2.int
      obtain ⟨_, vs, hv, rv⟩ := A.sto.cel _ _ _ em ea
      obtain ⟨j, h1, h2⟩ := atP_of h
      obtain ⟨v, h3, rd⟩ := rv.get h2
      refine ⟨_, get_list, _, vs, _, v, rfl, rfl, SqL.of hv, atI_of (v := r) rv.length h1 h3, t v H G as ls A (Le.refl _ _ _) ?_⟩
      exact rd.mono (Same.refl _) (Pre.refl _) ⟨ls, by simp⟩
    · cases h
  · split at h
    · rename_i ps em
      obtain ⟨a, rfl, ea⟩ := r1.iloc
      obtain rfl := r2.int
      obtain ⟨_, _, vs, hv, rv⟩ := A.lat _ _ _ em ea
      obtain ⟨p, ep, rfl⟩ := map_some h
      obtain ⟨j, h1, h2⟩ := atP_of ep
      obtain ⟨v, h3, rd⟩ := rv.get h2
      exact ⟨_, get_list, _, vs, _, v, rfl, rfl, SqL.of hv, atI_of (v := p) rv.length h1 h3, t.flat A rd⟩
    · cases h
  · cases h
theorem stoD_ok {d e w : D} {s' : S} {z y v : V} {Q : Hp → Prop} (A : Abs Ω Z s G as ls σ H) (r1 : RpD Ω G as ls z d) (r2 : RpD Ω G as ls y e) (r3 : RpD Ω G as ls v w) (h : stoD s d e w = some s') (t : ∀ H', Abs Ω Z s' G as ls σ H' → Q H') : rUW X z y v H Q := by
  unfold stoD at h
  split at h
  · split at h
    · rename_i ds em hn
      obtain ⟨a, rfl, ea⟩ := r1.icel
      obtain rfl := r2.int
      obtain ⟨_, vs, hv, rv⟩ := A.sto.cel _ _ _ em ea
      obtain ⟨j, hj, rfl⟩ := map_some h
      have hj' := hj
      rw [← rv.length] at hj'
      refine ⟨_, set_list, a, vs, _, j, rfl, rfl, hv, hj', t _ ?_⟩
      refine A.setC (c' := .lst (ds.set j _)) em ea fun H' e => ⟨_, e, ?_⟩
      have rw : RpDs Ω G as [] [v] [w] := (RpDs.cons r3 .nil).anyl [] hn
      cases rw with | cons rw _ => exact RpDs.set rw j rv
    · cases h
  · split at h
    · rename_i ps em
      obtain ⟨a, rfl, ea⟩ := r1.iloc
      obtain rfl := r2.int
      obtain ⟨_, _, vs, hv, rv⟩ := A.lat _ _ _ em ea
      obtain ⟨j, hj, rfl⟩ := map_some h
      have hj' := hj
      rw [← rv.length] at hj'
      exact ⟨_, set_list, a, vs, _, j, rfl, rfl, hv, hj', t _ (A.setL em ea (RpPs.set r3.ip j rv))⟩
    · cases h
  · cases h
theorem augP_ok {op : Operator} {p q z : P} {v u : V} {Q : VK} (A : Abs Ω Z s G as ls σ H) (r1 : RpP Ω G v p) (r2 : RpP Ω G u q) (h : augP op p q = some z) (t : ∀ v', RpP Ω G v' z → Q v' H) : rUP X op v u H Q := by
  unfold augP at h
  split at h
  · cases h
    cases r1
    cases r2
    exact ⟨_, ip_add, _, _, rfl, rfl, t _ (.int _)⟩
  · cases h
    cases r1
    cases r2
    exact ⟨_, ip_sub, _, _, rfl, rfl, t _ (.int _)⟩
  · cases h
theorem putF_of {f : Str} {d : D} {v : V} (r : RpD Ω G as ls v d) : ∀ {fs : List (Str × D)} {vs : List V}, RpDs Ω G as ls vs (fs.map (·.2)) →
    ∃ vs', putF f v ((fs.map (·.1)).zip vs) = ((putFs f d fs).map (·.1)).zip vs' ∧ RpDs Ω G as ls vs' ((putFs f d fs).map (·.2))
  | [], vs, h => by
    cases h
    exact ⟨[v], rfl, .cons r .nil⟩
  | (g, e) :: fs, vs, h => by
    cases h with | cons h1 h2 =>
      rename_i u us
      unfold putFs
      by_cases hg : g = f
      · rw [if_pos hg]
        exact ⟨v :: us, by show (if g = f then _ else _) = _; rw [if_pos hg]; rfl, .cons r h2⟩
      · rw [if_neg hg]
        obtain ⟨vs', e1, e2⟩ := putF_of r h2
        refine ⟨u :: vs', ?_, .cons h1 e2⟩
        show (if g = f then _ else _) = _
        rw [if_neg hg]
        show (g, u) :: putF f v ((fs.map (·.1)).zip us) = _
        rw [e1]
        rfl
/-! how a, b = .. is stored -/
theorem swst_par {ts xs : List Expr} {j j2 : Nat} {p p2 : Pos} {env : Env} {o : Option (List Str)} (hk : env.scope.kind = .function) (h : parB ts xs env.scope = some o) : swappedStores [.Tuple ts j p] (.Tuple xs j2 p2) env = pure o := by
  have hb : env.blockKind = .function := by unfold Env.blockKind; rw [hk]; rfl
  unfold parB at h
  unfold swappedStores
  simp only [hb]
  have e1 : (ScopeKind.function != ScopeKind.function) = false := by decide
  rw [e1, Bool.or_false]
  split at h
  · rename_i h1
    refine (if_pos h1).trans ?_
    cases h; rfl
  · rename_i h1
    refine (if_neg h1).trans ?_
    split at h
    · rename_i h2
      refine (if_pos h2).trans ?_
      cases h; rfl
    · rename_i h2
      refine (if_neg h2).trans ?_
      dsimp only at h ⊢
      have ek : ∀ y : Str, env.kindOf y = env.scope.names.lookup y := fun _ => rfl
      simp only [ek]
      split at h
      · rename_i h3
        refine (if_pos h3).trans ?_
        cases h; rfl
      · rename_i h3
        refine (if_neg h3).trans ?_
        split at h
        · rename_i h4
          refine (if_pos h4).trans ?_
          cases h; rfl
        · rename_i h4
          refine (if_neg h4).trans ?_
          split at h
          · cases h
          · rename_i h5
            refine (if_neg h5).trans ?_
            cases h; rfl
end
end Ev
end

section
set_option Elab.async false
set_option linter.all false
set_option maxRecDepth 100000
set_option maxHeartbeats 4000000
/-! EvStm2: the statements. -/
namespace Ev
open PySem PySem.Spec L2
open PyProof.Rows hiding St

structure GoodS (Ω : Wd) (k : Nat) (N : List Str) (sc : Scope) (W : WX) (X : Cx) : Prop where
  gd : Good Ω k N sc W X
  kind : sc.kind = .function
  fn : ∀ x, X.fn x = true
  po : PassesOwn (model X.prog X.w) X.A X.env X.xe
  st : X.stack = X.env :: X.outer
  fr : X.env.frame = some X.env.locals
section
variable {Ω : Wd} {Γ : Cfg} {T : Tab} {Z : Fr} {W : WX} {X : Cx} {k : Nat} {N : List Str} {sc : Scope} {pos : Pos} {x : Str} {e tg : Expr} {f g f3 : S → R D}
  {s : S} {G H : Hp} {as ls : List Addr} {σ : St} {Dn : Ends}
theorem GoodS.sto (g : GoodS Ω k N sc W X) : ∀ x, sto sc x = true → Loc X.env.scope x ∧ (X.fn x = true ∨ X.env.scope.names.lookup x = some .local) := fun x h => by
  rw [g.gd.sc]
  exact ⟨sto_loc h, .inl (g.fn x)⟩
theorem ps_eq {st : Stmt} {f g : S → R Fl} (h : PS X st (tS Ω Z W f)) (e : ∀ s, g s = f s) : PS X st (tS Ω Z W g) := by
  have : g = f := funext e
  rw [this]; exact h
/-- name = value -/
theorem r_asg {i : Nat} {p : Pos} {e' : E} (F : Facts Ω Γ T k) (g : GoodS Ω k N sc W X) (h1 : N[i]? = some x) (h2 : Ev.sto sc x = true) (h3 : chkE T N sc e' e = true) :
    PS X (.Assign [.Name x p] e pos) (tS Ω Z W fun s => (evE Γ e' s).bind fun d s => .ok .nx { s with r := s.r.set i (some d) }) := by
  have gd := g.gd
  obtain ⟨q1, q2⟩ := g.sto x h2
  have plain : swapsWith e (some (.Name x p)) pos.line X.env = pure false → PS X (.Assign [.Name x p] e pos) (tS Ω Z W fun s => (evE Γ e' s).bind fun d s => .ok .nx { s with r := s.r.set i (some d) }) := fun hs => by
    refine ps_by fun Dn σ H ⟨s, G, as, ls, A, o⟩ => ⟨_, ps_set (i := i) (by rw [gd.hN]; exact gd.nd) (by rw [gd.hN]; exact h1) q1 ((iE F e' sc W X e gd h3).1 Z) hs q2, ?_⟩
    exact oneS A o fun d s1 x H1 G1 as1 ls1 A1 le1 r1 o1 => OutS.nx (A1.slot r1) o1
  cases e with
  | ListComp elt gens scope lp =>
    cases hb : (X.env.blockKind == .function && X.env.kindOf x == some .local && p.line == lp.line && !(scope.names.any fun (n, k) => n == x && (k == .local || k == .cell))) with
    | false => exact plain (congrArg pure hb)
    | true =>
      have hs : swapsWith (.ListComp elt gens scope lp) (some (.Name x p)) pos.line X.env = pure true := congrArg pure hb
      have hl : X.env.scope.names.lookup x = some .local := by
        simp only [Bool.and_eq_true] at hb
        have := hb.1.1.2
        exact beq_iff_eq.mp this
      cases e' with
      | lc el t it cond own =>
        unfold chkE at h3
        split at h3
        · rename_i tg' iter ifs a _ _ heq
          cases heq
          have ha : a = 0 := by
            simp only [Bool.and_eq_true, decide_eq_true_eq] at h3
            exact h3.1.1.1.1.1.1.1.1.1.1
          subst ha
          rw [decide_eq_true rfl, Bool.true_and] at h3
          obtain ⟨b1, b2, b3, b4, b5, b6⟩ := lc_both F gd (iE F el) (iEs F cond) (iI F it) h3
          obtain ⟨wi, tt, a1, _, a3, a4⟩ := b1 Z
          subst a4
          refine ps_by fun Dn σ H ⟨s, G, as, ls, A, o⟩ => ⟨_, ps_setLc (i := i) gd.calm (by rw [gd.hN]; exact gd.nd) (by rw [gd.hN]; exact h1) hl hs a1 b2 b4 b5 b6 b3, ?_⟩
          refine a3 σ H _ ?_
          exact oneS A o fun d s1 x H1 G1 as1 ls1 A1 le1 r1 o1 => OutS.nx (A1.slot r1) o1
        · cases h3
      | _ => simp [chkE] at h3
  | SetComp _ _ _ _ => cases e' <;> simp [chkE] at h3
  | DictComp _ _ _ _ _ => cases e' <;> simp [chkE] at h3
  | _ => exact plain rfl
/-- (a, b, ..) = value -/
theorem r_unp {is : List Nat} {ts : List Expr} {j : Nat} {p : Pos} (g : GoodS Ω k N sc W X) (h1 : chkNs N (Ev.sto sc) is ts = true) (h2 : notTup e = true) (he : ∀ Z, PE X e (tE Ω Z W f)) :
    PS X (.Assign [.Tuple ts j p] e pos) (tS Ω Z W fun s => (f s).bind fun d s => match d with
    | .pur (.tup ps) => (match setN s.r is (ps.map D.pur) with
      | some r => .ok .nx { s with r := r }
      | none => .st)
    | .pur (.lst ps) => (match setN s.r is (ps.map D.pur) with
      | some r => .ok .nx { s with r := r }
      | none => .st)
    | _ => .st) := by
  have gd := g.gd
  obtain ⟨p1, p2, p3⟩ := pgs_of gd.hN gd.nd g.sto h1
  refine ps_by fun Dn σ H ⟨s, G, as, ls, A, o⟩ => ?_
  have viaT : (∀ d s1, f s = .ok d s1 → ∀ ps, d ≠ .pur (.lst ps)) → ∃ t', PS X (.Assign [.Tuple ts j p] e pos) t' ∧ t' Dn σ H := fun hd => by
    refine ⟨_, ps_asg (he Z) (pg_tup gd.calm p1 p2 p3) (show swapsWithSole [.Tuple ts j p] e pos.line X.env = pure false from sw_tuple (e := e) (es := ts) (j := j) (l := pos.line) (p := p) (env := X.env)) (swst_tup h2) rfl, s, G, as, ls, A, OutS.then o fun d s1 x H1 G1 as1 ls1 e1 A1 le1 r1 o1 => ?_⟩
    split at o1
    · split at o1
      · rename_i ps r' er
        obtain ⟨a, xs, rfl, e2, e3⟩ := RpD.tup r1
        obtain ⟨A2, h3, _⟩ := Abs.slots A1 (RpDs.map e3) er
        exact ⟨a, xs, rfl, by rw [gd.K]; exact sqT_mono A1.sto.sub e2, h3.symm, gNs_run h3 (OutS.nx A2 o1)⟩
      · exact o1.elim
    · exact absurd rfl (hd _ _ e1 _)
    · exact o1.elim
  cases ef : f s with
  | st => exact viaT fun d s1 e => by rw [ef] at e; cases e
  | ex x s' => exact viaT fun d s1 e => by rw [ef] at e; cases e
  | ok d s1 =>
    cases d with
    | cel _ => exact viaT fun d s1 e => by rw [ef] at e; cases e; exact fun _ h => nomatch h
    | loc _ => exact viaT fun d s1 e => by rw [ef] at e; cases e; exact fun _ h => nomatch h
    | pur q =>
      cases q with
      | lst ps =>
        refine ⟨_, ps_asg (he Z) (pg_lst gd.calm p1 p2 p3) (show swapsWithSole [.Tuple ts j p] e pos.line X.env = pure false from sw_tuple (e := e) (es := ts) (j := j) (l := pos.line) (p := p) (env := X.env)) (swst_tup h2) rfl, s, G, as, ls, A, OutS.then o fun d s1 x H1 G1 as1 ls1 e1 A1 le1 r1 o1 => ?_⟩
        rw [ef] at e1
        cases e1
        dsimp only at o1
        split at o1
        · rename_i r' er
          obtain ⟨a, xs, rfl, e2, e3⟩ := RpD.lst r1
          obtain ⟨A2, h3, _⟩ := Abs.slots A1 (RpDs.map e3) er
          exact ⟨a, xs, rfl, SqL.of (A1.sto.sub _ _ e2), h3.symm, gNs_run h3 (OutS.nx A2 o1)⟩
        · exact o1.elim
      | _ => exact viaT fun d s1 e => by rw [ef] at e; cases e; exact fun _ h => nomatch h
theorem names_of {is : List Nat} {st : Str → Bool} {ts : List Expr} (h : chkNs N st is ts = true) : is.length = ts.length ∧ ∀ e ∈ ts, ∃ x p i, e = .Name x p ∧ N[i]? = some x ∧ i ∈ is ∧ st x = true := by
  induction is generalizing ts with
  | nil =>
    cases ts with
    | nil => exact ⟨rfl, fun e h => nomatch h⟩
    | cons _ _ => simp [chkNs] at h
  | cons i is ih =>
    cases ts with
    | nil => simp [chkNs] at h
    | cons e ts =>
      cases e with
      | Name x p =>
        simp only [chkNs, Bool.and_eq_true, decide_eq_true_eq] at h
        obtain ⟨h1, h2⟩ := ih h.2
        refine ⟨by simp [h1], fun e he => ?_⟩
        rcases List.mem_cons.mp he with rfl | he
        · exact ⟨x, p, i, rfl, h.1.1, List.mem_cons_self, h.1.2⟩
        · obtain ⟨y, q, j, e1, e2, e3, e4⟩ := h2 e he
          exact ⟨y, q, j, e1, e2, List.mem_cons_of_mem _ e3, e4⟩
      | _ => simp [chkNs] at h
/-- what parB tells of the names -/
theorem parB_some {ts xs : List Expr} {o : List Str} (h : parB ts xs sc = some (some o)) : (ts.length = 2 ∨ ts.length = 3) ∧ xs.length = ts.length ∧ o.length = ts.length ∧ o.eraseDups.length = o.length ∧ o = (ts.filterMap fun | .Name id pos => if sc.names.lookup id == some .local && pos.line == (ts.head?.map (·.pos.line)).getD 0 then some id else none | _ => none) := by
  unfold parB at h
  split at h
  · cases h
  · rename_i h1
    split at h
    · cases h
    · dsimp only at h
      split at h
      · cases h
      · rename_i h3
        split at h
        · cases h
        · split at h
          · cases h
          · cases h
            simp only [Bool.or_eq_true, Bool.not_eq_true', Bool.or_eq_false_iff, not_or, bne_iff_ne, ne_eq, Decidable.not_not, beq_eq_false_iff_ne] at h1 h3
            refine ⟨?_, h1.2, h3.1, h3.2, rfl⟩
            have := h1.1
            omega
theorem nodup2 {a b : Str} (h : ([a, b] : List Str).eraseDups.length = 2) : a ≠ b := by
  intro z
  subst z
  simp [List.eraseDups_cons] at h
theorem nodup3 {a b c : Str} (h : ([a, b, c] : List Str).eraseDups.length = 3) : a ≠ b ∧ a ≠ c ∧ b ≠ c := by
  refine ⟨fun z => ?_, fun z => ?_, fun z => ?_⟩
  · subst z
    by_cases hc : a = c
    · subst hc; simp [List.eraseDups_cons] at h
    · simp [List.eraseDups_cons, List.filter_cons, hc, Ne.symm hc] at h
  · subst z
    by_cases hc : a = b
    · subst hc; simp [List.eraseDups_cons] at h
    · simp [List.eraseDups_cons, List.filter_cons, hc, Ne.symm hc] at h
  · subst z
    by_cases hc : a = b
    · subst hc; simp [List.eraseDups_cons] at h
    · simp [List.eraseDups_cons, List.filter_cons, hc, Ne.symm hc] at h
theorem fm_all {α β : Type} {f : α → Option β} : ∀ {l : List α}, (l.filterMap f).length = l.length → ∀ a ∈ l, (f a).isSome = true
  | [], _, a, h => nomatch h
  | b :: l, e, a, h => by
    rw [List.filterMap_cons] at e
    cases q : f b with
    | none =>
      rw [q] at e
      have e : (l.filterMap f).length = (b :: l).length := e
      have := List.length_filterMap_le f l
      rw [List.length_cons] at e
      omega
    | some c =>
      rw [q] at e
      have e : (c :: l.filterMap f).length = (b :: l).length := e
      rw [List.length_cons, List.length_cons] at e
      rcases List.mem_cons.mp h with rfl | h
      · rw [q]; rfl
      · exact fm_all (Nat.succ.inj e) a h
theorem r_par {is : List Nat} {ts xs : List Expr} {fs : S → R (List D)} {j j2 : Nat} {p p2 : Pos} (g : GoodS Ω k N sc W X) (h1 : chkNs N (Ev.sto sc) is ts = true) (h2 : (parB ts xs sc).isSome = true) (hlen : is.length = xs.length) (h100 : is.length ≤ 100) (ha : ∀ Z, PA X xs (tA Ω Z W fs)) :
    PS X (.Assign [.Tuple ts j p] (.Tuple xs j2 p2) pos) (tS Ω Z W fun s => (fs s).bind fun ds s => match setN s.r is ds with
    | some r => .ok .nx { s with r := r }
    | none => .st) := by
  have gd := g.gd
  obtain ⟨p1, p2', p3⟩ := pgs_of gd.hN gd.nd g.sto h1
  have hk : X.env.scope.kind = .function := by rw [gd.sc]; exact g.kind
  cases hp : parB ts xs sc with
  | none => rw [hp] at h2; cases h2
  | some o =>
    have hw : swappedStores [.Tuple ts j p] (.Tuple xs j2 p2) X.env = pure o := swst_par hk (by rw [gd.sc]; exact hp)
    cases o with
    | none =>
      refine ps_by fun Dn σ H ⟨s, G, as, ls, A, o⟩ => ⟨_, ps_asg (pe_tup (ha Z)) (pg_tup gd.calm p1 p2' p3) (show swapsWithSole [.Tuple ts j p] (.Tuple xs j2 p2) pos.line X.env = pure false from rfl) hw rfl, oneSA A o fun ds s1 vs H1 G1 as1 ls1 A1 le1 r1 o1 => ?_⟩
      split at o1
      · rename_i r' er
        obtain ⟨A2, h3, _⟩ := Abs.slots A1 r1 er
        refine ⟨by rw [← h3, sizeLine_eq]; omega, fun q hq => ⟨q, vs, rfl, SqT.of upd_same, h3.symm, gNs_run h3 (OutS.nx (A2.other fun b hb => upd_ne fun z => ?_) o1)⟩⟩
        subst z
        rcases hb with h | h | h | h
        · exact h (same_none A2.sto.sub hq)
        · exact A2.nas hq h
        · exact A2.nls hq h
        · exact h (A2.unew hq)
      · exact o1.elim
    | some o =>
      obtain ⟨q1, q2, q3, q4, q5⟩ := parB_some hp
      obtain ⟨l1, l2⟩ := names_of h1
      have hall := fm_all (f := fun | Expr.Name id pos => if sc.names.lookup id == some .local && pos.line == (ts.head?.map (·.pos.line)).getD 0 then some id else none | _ => none) (l := ts) (by rw [← q3, q5])
      have loc : ∀ x p, Expr.Name x p ∈ ts → sc.names.lookup x = some .local ∧ (match Expr.Name x p with | Expr.Name id pos => if sc.names.lookup id == some .local && pos.line == (ts.head?.map (·.pos.line)).getD 0 then some id else none | _ => none) = some x := fun x p hx => by
        have h := hall _ hx
        dsimp only at h ⊢
        split at h
        · rename_i hc
          rw [if_pos hc]
          rw [Bool.and_eq_true] at hc
          exact ⟨beq_iff_eq.mp hc.1, rfl⟩
        · cases h
      rcases q1 with q1 | q1
      · obtain ⟨t1, t2, rfl⟩ : ∃ t1 t2, ts = [t1, t2] := by
          match ts, q1 with
          | [t1, t2], _ => exact ⟨t1, t2, rfl⟩
        obtain ⟨x, px, _, rfl, -, -, -⟩ := l2 t1 (by simp)
        obtain ⟨y, py, _, rfl, -, -, -⟩ := l2 t2 (by simp)
        obtain ⟨i, i', rfl⟩ : ∃ t1 t2, is = [t1, t2] := by
          match is, l1 with
          | [t1, t2], _ => exact ⟨t1, t2, rfl⟩
        obtain ⟨a, b, rfl⟩ : ∃ t1 t2, xs = [t1, t2] := by
          match xs, q2 with
          | [t1, t2], _ => exact ⟨t1, t2, rfl⟩
        obtain ⟨hx, ex⟩ := loc x px (by simp)
        obtain ⟨hy, ey⟩ := loc y py (by simp)
        have eo : o = [x, y] := by
          rw [q5, List.filterMap_cons, ex, List.filterMap_cons, ey]
          rfl
        subst eo
        have hne := nodup2 (q4.trans rfl)
        simp only [chkNs, Bool.and_eq_true, decide_eq_true_eq] at h1
        refine ps_by fun Dn σ H ⟨s, G, as, ls, A, o⟩ => ⟨_, ps_par (i := i) (j := i') gd.calm (by rw [gd.hN]; exact gd.nd) (by rw [gd.hN]; exact h1.1.1) (by rw [gd.hN]; exact h1.2.1.1) (fun z => hne (by
          have e1 := h1.1.1
          have e2 := h1.2.1.1
          rw [z] at e1
          rw [e1] at e2
          exact Option.some.inj e2)) (by rw [gd.sc]; exact hx) (by rw [gd.sc]; exact hy) (ha Z) hw rfl, oneSA A o fun ds s1 vs H1 G1 as1 ls1 A1 le1 r1 o1 => ?_⟩
        split at o1
        · rename_i r' er
          obtain ⟨A2, h3, _⟩ := Abs.slots A1 r1 er
          obtain ⟨v, w, rfl⟩ : ∃ t1 t2, vs = [t1, t2] := by
            match vs, h3 with
            | [t1, t2], _ => exact ⟨t1, t2, rfl⟩
          exact ⟨v, w, rfl, OutS.nx A2 o1⟩
        · exact o1.elim
      · obtain ⟨t1, t2, t3, rfl⟩ : ∃ t1 t2 t3, ts = [t1, t2, t3] := by
          match ts, q1 with
          | [t1, t2, t3], _ => exact ⟨t1, t2, t3, rfl⟩
        obtain ⟨x, px, _, rfl, -, -, -⟩ := l2 t1 (by simp)
        obtain ⟨y, py, _, rfl, -, -, -⟩ := l2 t2 (by simp)
        obtain ⟨z, pz, _, rfl, -, -, -⟩ := l2 t3 (by simp)
        obtain ⟨i, i', i'', rfl⟩ : ∃ t1 t2 t3, is = [t1, t2, t3] := by
          match is, l1 with
          | [t1, t2, t3], _ => exact ⟨t1, t2, t3, rfl⟩
        obtain ⟨a, b, c, rfl⟩ : ∃ t1 t2 t3, xs = [t1, t2, t3] := by
          match xs, q2 with
          | [t1, t2, t3], _ => exact ⟨t1, t2, t3, rfl⟩
        obtain ⟨hx, ex⟩ := loc x px (by simp)
        obtain ⟨hy, ey⟩ := loc y py (by simp)
        obtain ⟨hz, ez⟩ := loc z pz (by simp)
        have eo : o = [x, y, z] := by
          rw [q5, List.filterMap_cons, ex, List.filterMap_cons, ey, List.filterMap_cons, ez]
          rfl
        subst eo
        obtain ⟨n1, n2, n3⟩ := nodup3 (q4.trans rfl)
        simp only [chkNs, Bool.and_eq_true, decide_eq_true_eq] at h1
        have ne : ∀ {i j : Nat} {x y : Str}, x ≠ y → N[i]? = some x → N[j]? = some y → i ≠ j := fun h e1 e2 z => h (by
          rw [z] at e1
          rw [e1] at e2
          exact Option.some.inj e2)
        refine ps_by fun Dn σ H ⟨s, G, as, ls, A, o⟩ => ⟨_, ps_par3 (i := i) (j := i') (l := i'') gd.calm (by rw [gd.hN]; exact gd.nd) (by rw [gd.hN]; exact h1.1.1) (by rw [gd.hN]; exact h1.2.1.1) (by rw [gd.hN]; exact h1.2.2.1.1) (ne n1 h1.1.1 h1.2.1.1) (ne n2 h1.1.1 h1.2.2.1.1) (ne n3 h1.2.1.1 h1.2.2.1.1)
          (by rw [gd.sc]; exact hx) (by rw [gd.sc]; exact hy) (by rw [gd.sc]; exact hz) (ha Z) hw rfl, oneSA A o fun ds s1 vs H1 G1 as1 ls1 A1 le1 r1 o1 => ?_⟩
        split at o1
        · rename_i r' er
          obtain ⟨A2, h3, _⟩ := Abs.slots A1 r1 er
          obtain ⟨u, v, w, rfl⟩ : ∃ t1 t2 t3, vs = [t1, t2, t3] := by
            match vs, h3 with
            | [t1, t2, t3], _ => exact ⟨t1, t2, t3, rfl⟩
          exact ⟨u, v, w, rfl, OutS.nx A2 o1⟩
        · exact o1.elim
end
end Ev
end

section
set_option Elab.async false
set_option linter.all false
set_option maxRecDepth 100000
set_option maxHeartbeats 4000000
/-! EvStm3: loops, and all statements. -/
namespace Ev
open PySem PySem.Spec L2
open PyProof.Rows hiding St

section
variable {Ω : Wd} {Γ : Cfg} {T : Tab} {Z : Fr} {W : WX} {X : Cx} {k : Nat} {N : List Str} {sc : Scope} {pos : Pos} {x : Str} {e o i : Expr} {tg : Expr} {f g f3 h : S → R D}
  {s : S} {G H : Hp} {as ls : List Addr} {σ : St} {Dn : Ends}
theorem sub_assign {o i : Expr} {pos : Pos} {env : Env} (h : notSl i = true) : ∀ v, assign (.Subscript o i pos) env v = (do
      let ov ← holding [v] (eval o env)
      let iv ← holding [v, ov] (eval i env)
      standAt pos
      holding [v, ov, iv] (setItem ov iv v)
      release [v, ov, iv] []) := by
  intro v
  cases i <;> first | rfl | cases h
theorem r_sto {tpos : Pos} (gs : GoodS Ω k N sc W X) (hs : notSl i = true) (ho : ∀ Z, PE X o (tE Ω Z W f)) (hi : ∀ Z, PE X i (tE Ω Z W g)) (he : ∀ Z, PE X e (tE Ω Z W h)) :
    PS X (.Assign [.Subscript o i tpos] e pos) (tS Ω Z W fun s => (h s).bind fun v s => (f s).bind fun x s => (g s).bind fun y s => match stoD s x y v with
    | some s => .ok .nx s
    | none => .st) := by
  refine ps_by fun Dn σ H ⟨s, G, as, ls, A, q⟩ => ⟨_, ps_asg (he Z) (pg_sub (ho Z) (hi Z) set_any (sub_assign hs)) (show swapsWithSole [.Subscript o i tpos] e pos.line X.env = pure false from sw_sub (e := e) (a := o) (b := i) (l := pos.line) (p := tpos) (env := X.env)) (swst_one (fun _ _ _ z => nomatch z) (fun _ _ z => nomatch z)) rfl,
    oneS A q fun w s1 v H1 G1 as1 ls1 A1 le1 r1 o1 => oneS A1 o1 fun d s2 x H2 G2 as2 ls2 A2 le2 r2 o2 => oneS A2 o2 fun d' s3 y H3 G3 as3 ls3 A3 le3 r3 o3 => ?_⟩
  split at o3
  · rename_i s4 es
    exact stoD_ok A3 (r2.le le3) r3 ((r1.le le2).le le3) es fun H' A4 => OutS.nx A4 o3
  · exact o3.elim
theorem r_sto2 {o2 i2 : Expr} {f2 g2 : S → R D} {fs : S → R (List D)} {tp1 tp2 p p2 : Pos} {j j2 : Nat} {xs : List Expr} (gs : GoodS Ω k N sc W X) (hs : notSl i = true) (hs2 : notSl i2 = true) (hp : parB [.Subscript o i tp1, .Subscript o2 i2 tp2] xs sc = some none)
    (ho : ∀ Z, PE X o (tE Ω Z W f)) (hi : ∀ Z, PE X i (tE Ω Z W g)) (ho2 : ∀ Z, PE X o2 (tE Ω Z W f2)) (hi2 : ∀ Z, PE X i2 (tE Ω Z W g2)) (ha : ∀ Z, PA X xs (tA Ω Z W fs)) :
    PS X (.Assign [.Tuple [.Subscript o i tp1, .Subscript o2 i2 tp2] j p] (.Tuple xs j2 p2) pos) (tS Ω Z W fun s => (fs s).bind fun ds s => match ds with
    | [v1, v2] => (f s).bind fun x1 s => (g s).bind fun y1 s => (match stoD s x1 y1 v1 with
      | some s => (f2 s).bind fun x2 s => (g2 s).bind fun y2 s => (match stoD s x2 y2 v2 with
        | some s => .ok .nx s
        | none => .st)
      | none => .st)
    | _ => .st) := by
  have gd := gs.gd
  have hk : X.env.scope.kind = .function := by rw [gd.sc]; exact gs.kind
  have hw : swappedStores [.Tuple [.Subscript o i tp1, .Subscript o2 i2 tp2] j p] (.Tuple xs j2 p2) X.env = pure none := swst_par hk (by rw [gd.sc]; exact hp)
  refine ps_by fun Dn σ H ⟨s, G, as, ls, A, q⟩ => ⟨_, ps_asg (pe_tup (ha Z)) (pg_tup gd.calm (pgs_cons (pg_sub (ho Z) (hi Z) set_any (sub_assign hs)) (pgs_cons (pg_sub (ho2 Z) (hi2 Z) set_any (sub_assign hs2)) pgs_nil (by cases i2 <;> first | rfl | cases hs2)) (by cases i <;> first | rfl | cases hs)) (n := 2) (by cases i <;> cases i2 <;> first | rfl | cases hs | cases hs2) (by cases i <;> cases i2 <;> first | rfl | cases hs | cases hs2)) (show swapsWithSole [.Tuple [.Subscript o i tp1, .Subscript o2 i2 tp2] j p] (.Tuple xs j2 p2) pos.line X.env = pure false from rfl) hw rfl,
    oneSA A q fun ds s1 vs H1 G1 as1 ls1 A1 le1 r1 o1 => ?_⟩
  split at o1
  · cases r1 with
    | cons ra r1 =>
      cases r1 with
      | cons rb r1 =>
        cases r1
        rename_i va vb
        refine ⟨by rw [sizeLine_eq]; show 2 ≤ _; omega, fun l hl => ⟨l, _, rfl, SqT.of upd_same, rfl, va, [vb], rfl, ?_⟩⟩
        have A1' := A1.other (H' := upd H1 l (.tup [va, vb])) fun b hb => upd_ne fun z => by
          subst z
          rcases hb with h | h | h | h
          · exact h (same_none A1.sto.sub hl)
          · exact A1.nas hl h
          · exact A1.nls hl h
          · exact h (A1.unew hl)
        refine oneS A1' o1 fun d s2 x H2 G2 as2 ls2 A2 le2 r2 o2 => oneS A2 o2 fun d' s3 y H3 G3 as3 ls3 A3 le3 r3 o3 => ?_
        split at o3
        · rename_i s4 es
          refine stoD_ok A3 (r2.le le3) r3 ((ra.le le2).le le3) es fun H' A4 => ⟨vb, [], rfl, ?_⟩
          refine oneS A4 o3 fun d s5 x H5 G5 as5 ls5 A5 le5 r5 o5 => oneS A5 o5 fun d' s6 y H6 G6 as6 ls6 A6 le6 r6 o6 => ?_
          split at o6
          · rename_i s7 es2
            exact stoD_ok A6 (r5.le le6) r6 ((((rb.le le2).le le3).le le5).le le6) es2 fun H' A7 => ⟨rfl, OutS.nx A7 o6⟩
          · exact o6.elim
        · exact o3.elim
  · exact o1.elim
theorem augst_plain (h : notSl i = true) : ∀ ov iv new, augStore i ov iv new = (do holding [new, ov, iv] (setItem ov iv new); release [new, ov, iv] []; pure .next) := by
  intro ov iv new
  cases i <;> first | rfl | cases h
theorem r_augs {tpos : Pos} {op : Operator} (gs : GoodS Ω k N sc W X) (hs : notSl i = true) (ho : ∀ Z, PE X o (tE Ω Z W f)) (hi : ∀ Z, PE X i (tE Ω Z W g)) (he : ∀ Z, PE X e (tE Ω Z W h)) :
    PS X (.AugAssign (.Subscript o i tpos) op e pos) (tS Ω Z W fun s => (f s).bind fun x s => (g s).bind fun y s => match idxM s x y with
    | some (.pur p) => (h s).bind fun v s => (match v with
      | .pur q => (match augP op p q with
        | some z => (match stoD s x y (.pur z) with
          | some s => .ok .nx s
          | none => .st)
        | none => .st)
      | _ => .st)
    | _ => .st) := by
  refine ps_by fun Dn σ H ⟨s, G, as, ls, A, q⟩ => ⟨_, ps_augS (ho Z) (hi Z) get_any (he Z) ip_any set_any (augst_plain hs), oneS A q fun d s1 x H1 G1 as1 ls1 A1 le1 r1 o1 => oneS A1 o1 fun d' s2 y H2 G2 as2 ls2 A2 le2 r2 o2 => ?_⟩
  split at o2
  · rename_i p ei
    refine getD_ok gs.gd A2 (r1.le le2) r2 ei fun v3 H3 G3 as3 ls3 A3 le3 r3 => ?_
    refine oneS A3 (OutS.rebase o2 le3) fun d4 s4 y4 H4 G4 as4 ls4 A4 le4 r4 o4 => ?_
    split at o4
    · rename_i q
      cases ea : augP op p q with
      | none => rw [ea] at o4; exact o4.elim
      | some z =>
        rw [ea] at o4
        dsimp only at o4
        split at o4
        · rename_i s5 es
          refine augP_ok A4 (r3.le le4).ip r4.ip ea fun z' rz => ?_
          exact stoD_ok A4 (((r1.le le2).le le3).le le4) ((r2.le le3).le le4) (.pur rz) es fun H' A5 => OutS.nx A5 o4
        · exact o4.elim
    · exact o4.elim
  · exact o2.elim
theorem r_aug {op : Operator} {j : Nat} {p : Pos} (gs : GoodS Ω k N sc W X) (h1 : N[j]? = some x) (h2 : Ev.sto sc x = true) (he : ∀ Z, PE X e (tE Ω Z W h)) :
    PS X (.AugAssign (.Name x p) op e pos) (tS Ω Z W fun s => match s.r[j]? with
    | some (some (.pur p)) => (h s).bind fun v s => (match v with
      | .pur q => (match augP op p q with
        | some z => .ok .nx { s with r := s.r.set j (some (.pur z)) }
        | none => .st)
      | _ => .st)
    | _ => .st) := by
  have gd := gs.gd
  obtain ⟨q1, q2⟩ := gs.sto x h2
  refine ps_by fun Dn σ H ⟨s, G, as, ls, A, q⟩ => ⟨_, ps_aug (i := j) (by rw [gd.hN]; exact gd.nd) (by rw [gd.hN]; exact h1) q1 (he Z) ip_any q2, ?_⟩
  dsimp only at q
  split at q
  · rename_i p' ej
    obtain ⟨v, ev, rv⟩ := A.env j _ ej
    refine ⟨v, ev, oneS A q fun d s1 y H1 G1 as1 ls1 A1 le1 r1 o1 => ?_⟩
    split at o1
    · split at o1
      · rename_i qq z ez
        exact augP_ok A1 (rv.le le1).ip r1.ip ez fun z' rz => OutS.nx (A1.slot (.pur rz)) o1
      · exact o1.elim
    · exact o1.elim
  · exact q.elim
theorem r_stf {tpos : Pos} (F : Facts Ω Γ T k) (gs : GoodS Ω k N sc W X) (ho : ∀ Z, PE X o (tE Ω Z W f)) (he : ∀ Z, PE X e (tE Ω Z W h)) :
    PS X (.Assign [.Attribute o x tpos] e pos) (tS Ω Z W fun s => (h s).bind fun v s => (f s).bind fun y s => match y with
    | .cel k => (match s.m[k]?, noloc [v] with
      | some (.ins c fs), true => if Γ.fa c x && decide (fs.length < 900) then .ok .nx { s with m := s.m.set k (.ins c (putFs x v fs)) } else .st
      | _, _ => .st)
    | _ => .st) := by
  have gd := gs.gd
  refine ps_by fun Dn σ H ⟨s, G, as, ls, A, q⟩ => ⟨_, ps_fld (ho Z) (he Z) (sw_att (e := e) (a := o) (b := x) (l := pos.line) (p := tpos) (env := X.env)), oneS A q fun w s1 v H1 G1 as1 ls1 A1 le1 r1 o1 => oneS A1 o1 fun d s2 y H2 G2 as2 ls2 A2 le2 r2 o2 => ?_⟩
  split at o2
  · split at o2
    · rename_i kk _ _ c fs em hn
      split at o2
      · rename_i hc
        rw [Bool.and_eq_true, decide_eq_true_eq] at hc
        obtain ⟨h1, h2⟩ := F.fa _ _ hc.1
        obtain ⟨a, rfl, ea⟩ := r2.icel
        obtain ⟨_, dx, vs, hv, rv⟩ := A2.sto.cel _ _ _ em ea
        have rw' : RpDs Ω G2 as2 [] [v] [w] := (RpDs.cons (r1.le le2) .nil).anyl [] hn
        cases rw' with | cons rw' _ =>
          obtain ⟨vs', e1, e2⟩ := putF_of (f := x) rw' rv
          refine ⟨a, _, dx, _, rfl, hv, by rw [gd.K]; exact h1, by rw [gd.K]; exact h2, ?_, ?_⟩
          · rw [List.length_zip, List.length_map]
            exact Nat.lt_of_le_of_lt (Nat.min_le_left _ _) (by omega)
          · rw [e1]
            exact OutS.nx (A2.setC (c' := .ins c (putFs x w fs)) em ea fun H' e => ⟨dx, vs', e, e2⟩) o2
      · exact o2.elim
    · exact o2.elim
  · exact o2.elim
theorem r_for {t : Ev.T} {it : S → R (List P)} {b : S → R Fl} {iter : Expr} {body : List Stmt} (gs : GoodS Ω k N sc W X) (ht : chkT N (Ev.sto sc) t tg = true) (hi : ∀ Z, PI X tg iter (tI Ω Z W it)) (hf : ∀ x, foldedSetIterable iter X.env x = pure x) (hb : PSs X body (tS Ω Z W b)) :
    PS X (.For tg iter body [] pos) (tS Ω Z W fun s => (it s).bind fun items s => forF t b items s) := by
  have gd := gs.gd
  refine ps_by fun Dn σ H ⟨s, G, as, ls, A, q⟩ => ⟨_, ps_for gs.po gd.calm (hi Z) (pg_of gd.hN gd.nd gd.calm gs.sto ht) hb hf, s, G, as, ls, A, OutS.then q fun items s1 J H1 G1 as1 ls1 ei A1 le1 wj o1 => ?_⟩
  have wj : WalkJ Ω J G1 items := wj
  refine ⟨fun i m σ H => m = items.length - i ∧ i ≤ items.length ∧ ∃ s G as ls, Abs Ω Z s G as ls σ H ∧ WalkJ Ω J G items ∧ OutS Ω Z W G as ls (forF t b (items.drop i) s) Dn,
    ⟨items.length, by simp, Nat.zero_le _, s1, G1, as1, ls1, A1, wj, o1⟩, ?_⟩
  rintro i m σ H ⟨rfl, hi', s, G, as, ls, A, wj, o⟩
  by_cases hlt : i < items.length
  · right
    have eitem : items[i]? = some items[i] := by simp [hlt]
    rw [List.drop_eq_getElem_cons hlt] at o
    refine ⟨wj.go i H A.sto.sub hlt, fun σ H => i + 1 ≤ items.length ∧ ∃ s G as ls, Abs Ω Z s G as ls σ H ∧ WalkJ Ω J G items ∧ OutS Ω Z W G as ls (forF t b (items.drop (i + 1)) s) Dn,
      fun σ' H' hh => ⟨items.length - (i + 1), by omega, rfl, hh.1, hh.2⟩, fun x H' y => ?_⟩
    have key : ∀ (Gx : Hp), Abs Ω Z s Gx as ls σ H' → Le G as ls Gx as ls → RpP Ω Gx x items[i] → gT X.K t x σ H' fun σ2 H2 => tS Ω Z W b { Dn with nx := fun σ H => i + 1 ≤ items.length ∧ ∃ s G as ls, Abs Ω Z s G as ls σ H ∧ WalkJ Ω J G items ∧ OutS Ω Z W G as ls (forF t b (items.drop (i + 1)) s) Dn, ct := fun σ H => i + 1 ≤ items.length ∧ ∃ s G as ls, Abs Ω Z s G as ls σ H ∧ WalkJ Ω J G items ∧ OutS Ω Z W G as ls (forF t b (items.drop (i + 1)) s) Dn, bk := Dn.nx } σ2 H2 := fun Gx Ax lex rx => by
      have ox : OutS Ω Z W Gx as ls (forF t b (items[i] :: items.drop (i + 1)) s) Dn := OutS.rebase o lex
      simp only [forF] at ox
      cases ea : asgT t (.pur items[i]) s with
      | none => rw [ea] at ox; exact ox.elim
      | some s2 =>
        rw [ea] at ox
        have ox : OutS Ω Z W Gx as ls ((b s2).bind fun f s2 => match f with
          | .nx => forF t b (items.drop (i + 1)) s2
          | .ct => forF t b (items.drop (i + 1)) s2
          | .bk => .ok .nx s2
          | .rt d => .ok (.rt d) s2) Dn := ox
        refine gT_run gd.K Ax rx ea fun σ2 A2 _ => ⟨s2, Gx, as, ls, A2, OutS.seq ox ?_ ?_ ?_ ?_⟩
        · exact fun s3 σ3 H3 G3 as3 ls3 _ A3 le3 o3 => ⟨hlt, s3, G3, as3, ls3, A3, wj.mono (lex.g.trans le3.g), o3⟩
        · exact fun s3 σ3 H3 G3 as3 ls3 _ A3 le3 o3 => OutS.nx A3 o3
        · exact fun s3 σ3 H3 G3 as3 ls3 _ A3 le3 o3 => ⟨hlt, s3, G3, as3, ls3, A3, wj.mono (lex.g.trans le3.g), o3⟩
        · exact fun d s3 v σ3 H3 G3 as3 ls3 _ A3 le3 r3 o3 => o3 v σ3 H3 G3 as3 ls3 A3 (Le.refl _ _ _) r3
    rcases wj.yld i H x H' items[i] A.sto.sub eitem y with ⟨rfl, rx⟩ | ⟨TT, oo, hT, rfl, rx⟩
    · exact key G A (Le.refl _ _ _) rx
    · obtain ⟨Ax, lex⟩ := A.newG (o := oo) hT
      exact key _ Ax lex (rx G (Same.refl _) (same_none A.sto.sub hT))
  · left
    have e : i = items.length := by omega
    subst e
    refine ⟨wj.stop H A.sto.sub, ?_⟩
    rw [List.drop_length] at o
    exact OutS.nx A o
theorem r_whil {c : S → R D} {b : S → R Fl} {body : List Stmt} {n : Nat} (gs : GoodS Ω k N sc W X) (hc : PT X e (tT Ω Z W c)) (hb : PSs X body (tS Ω Z W b)) :
    PS X (.While e body [] pos) (tS Ω Z W fun s => whileF c b n s) := by
  have gd := gs.gd
  refine ps_by fun Dn σ H ⟨s, G, as, ls, A, q⟩ => ⟨_, ps_while gs.po hc hb, fun m σ H => ∃ s G as ls, Abs Ω Z s G as ls σ H ∧ OutS Ω Z W G as ls (whileF c b m s) Dn, ⟨n, s, G, as, ls, A, q⟩, ?_⟩
  rintro m σ H ⟨s, G, as, ls, A, o⟩
  cases m with
  | zero => exact o.elim
  | succ m =>
    have o : OutS Ω Z W G as ls ((c s).bind fun d s1 => match d with
      | .pur (.bl true) => (b s1).bind fun f s2 => match f with
        | .nx => whileF c b m s2
        | .ct => whileF c b m s2
        | .bk => .ok .nx s2
        | .rt d => .ok (.rt d) s2
      | .pur (.bl false) => .ok .nx s1
      | _ => .st) Dn := o
    refine oneST A o (fun d s' e h => ?_) fun bb s1 H1 G1 as1 ls1 e1 A1 le1 o1 => ?_
    · split at h
      · exact ⟨_, rfl⟩
      · exact ⟨_, rfl⟩
      · exact absurd rfl h
    · cases bb with
      | false => exact iteF (OutS.nx A1 o1)
      | true =>
        refine iteT ⟨fun σ H => ∃ s G as ls, Abs Ω Z s G as ls σ H ∧ OutS Ω Z W G as ls (whileF c b m s) Dn, fun σ' H' hh => ⟨m, Nat.lt_succ_self _, hh⟩, s1, G1, as1, ls1, A1, OutS.seq o1 ?_ ?_ ?_ ?_⟩
        · exact fun s3 σ3 H3 G3 as3 ls3 _ A3 le3 o3 => ⟨s3, G3, as3, ls3, A3, o3⟩
        · exact fun s3 σ3 H3 G3 as3 ls3 _ A3 le3 o3 => OutS.nx A3 o3
        · exact fun s3 σ3 H3 G3 as3 ls3 _ A3 le3 o3 => ⟨s3, G3, as3, ls3, A3, o3⟩
        · exact fun d s3 v σ3 H3 G3 as3 ls3 _ A3 le3 r3 o3 => o3 v σ3 H3 G3 as3 ls3 A3 (Le.refl _ _ _) r3
theorem r_exp {f : S → R D} (he : ∀ Z, PE X e (tE Ω Z W f)) (hn : notComp e = true) : PS X (.Expr e pos) (tS Ω Z W fun s => (f s).bind fun _ s => .ok .nx s) := by
  refine ps_by fun Dn σ H ⟨s, G, as, ls, A, q⟩ => ⟨_, ps_expr (he Z) (sw_none hn), oneS A q fun d s1 x H1 G1 as1 ls1 A1 le1 r1 o1 => OutS.nx A1 o1⟩
theorem r_ret {f : S → R D} (he : ∀ Z, PE X e (tE Ω Z W f)) : PS X (.Return (some e) pos) (tS Ω Z W fun s => (f s).bind fun d s => .ok (.rt d) s) := by
  refine ps_by fun Dn σ H ⟨s, G, as, ls, A, q⟩ => ⟨_, ps_ret (he Z), oneS A q fun d s1 x H1 G1 as1 ls1 A1 le1 r1 o1 => o1 x σ H1 G1 as1 ls1 A1 (Le.refl _ _ _) r1⟩
theorem r_ret0 : PS X (.Return none pos) (tS Ω Z W fun s => .ok (.rt (.pur .non)) s) := by
  refine ps_by fun Dn σ H ⟨s, G, as, ls, A, q⟩ => ⟨_, ps_retN, q .non σ H G as ls A (Le.refl _ _ _) (.pur .non)⟩
theorem r_ifs {c : S → R D} {a b : S → R Fl} {p q : List Stmt} (hc : PT X e (tT Ω Z W c)) (ha : PSs X p (tS Ω Z W a)) (hb : PSs X q (tS Ω Z W b)) : PS X (.If e p q pos) (tS Ω Z W fun s => (c s).bind fun d s => match d with
    | .pur (.bl true) => a s
    | .pur (.bl false) => b s
    | _ => .st) := by
  refine ps_by fun Dn σ H ⟨s, G, as, ls, A, q⟩ => ⟨_, ps_if hc ha hb, oneST A q (fun d s' e h => ?_) fun bb s1 H1 G1 as1 ls1 e1 A1 le1 o1 => ?_⟩
  · split at h
    · exact ⟨_, rfl⟩
    · exact ⟨_, rfl⟩
    · exact absurd rfl h
  · cases bb with
    | true => exact iteT ⟨s1, G1, as1, ls1, A1, o1⟩
    | false => exact iteF ⟨s1, G1, as1, ls1, A1, o1⟩
theorem r_cons {a b : S → R Fl} {st : Stmt} {rest : List Stmt} (ha : PS X st (tS Ω Z W a)) (hb : PSs X rest (tS Ω Z W b)) : PSs X (st :: rest) (tS Ω Z W fun s => (a s).bind fun f s => match f with
    | .nx => b s
    | .rt d => .ok (.rt d) s
    | .bk => .ok .bk s
    | .ct => .ok .ct s) := by
  refine pss_by fun Dn σ H ⟨s, G, as, ls, A, q⟩ => ⟨_, pss_cons ha hb, s, G, as, ls, A, OutS.seq q ?_ ?_ ?_ ?_⟩
  · exact fun s3 σ3 H3 G3 as3 ls3 _ A3 le3 o3 => ⟨s3, G3, as3, ls3, A3, o3⟩
  · exact fun s3 σ3 H3 G3 as3 ls3 _ A3 le3 o3 => o3 σ3 H3 G3 as3 ls3 A3 (Le.refl _ _ _)
  · exact fun s3 σ3 H3 G3 as3 ls3 _ A3 le3 o3 => o3 σ3 H3 G3 as3 ls3 A3 (Le.refl _ _ _)
  · exact fun d s3 v σ3 H3 G3 as3 ls3 _ A3 le3 r3 o3 => o3 v σ3 H3 G3 as3 ls3 A3 (Le.refl _ _ _) r3
/-! ### self.f += e -/
theorem r_augf {op : Operator} {tpos : Pos} (F : Facts Ω Γ T k) (gs : GoodS Ω k N sc W X) (ho : ∀ Z, PE X o (tE Ω Z W f)) (he : ∀ Z, PE X e (tE Ω Z W h)) :
    PS X (.AugAssign (.Attribute o x tpos) op e pos) (tS Ω Z W fun s => (f s).bind fun y s => match y with
    | .cel k => (match insC s k, fldD Γ.fa s (.cel k) x with
      | some c, some (.pur p) => (h s).bind fun v s => augF2 op x k c p v s
      | _, _ => .st)
    | _ => .st) := by
  have gd := gs.gd
  refine ps_by fun Dn σ H ⟨s, G, as, ls, A, q⟩ => ⟨_, ps_fldaug (rd := rUP X op) (ho Z) (he Z) ip_any, oneS A q fun d s1 y H1 G1 as1 ls1 A1 le1 r1 o1 => ?_⟩
  split at o1
  · rename_i k'
    split at o1
    · rename_i c p ec ef
      unfold insC at ec
      split at ec
      · rename_i c' fs0 em
        cases ec
        obtain ⟨a, rfl, ea⟩ := r1.icel
        obtain ⟨_, dx, vs, hv, rv⟩ := A1.sto.cel _ _ _ em ea
        unfold fldD at ef
        dsimp only at ef
        rw [em] at ef
        dsimp only at ef
        split at ef
        · rename_i hfa
          obtain ⟨h1, h2⟩ := F.fa _ _ hfa
          obtain ⟨v, ev, rd⟩ := look_of2 rv ef
          refine ⟨a, _, dx, _, v, rfl, hv, by rw [gd.K]; exact h1, by rw [gd.K]; exact h2, ev, oneS A1 o1 fun w s2 u H2 G2 as2 ls2 A2 le2 r2 o2 => ?_⟩
          unfold augF2 at o2
          split at o2
          · split at o2
            · rename_i qq z ez
              split at o2
              · rename_i c2 fs em2
                split at o2
                · rename_i hc
                  rw [Bool.and_eq_true, decide_eq_true_eq] at hc
                  have e := beq_iff_eq.mp hc.1
                  subst e
                  have ea2 := le2.a.get ea
                  obtain ⟨_, dx2, vs2, hv2, rv2⟩ := A2.sto.cel _ _ _ em2 ea2
                  refine augP_ok A2 (RpP.mono le2.g _ _ rd.ip) r2.ip ez fun z' rz => ?_
                  obtain ⟨vs', e1, e2⟩ := putF_of (f := x) (d := .pur z) (RpD.pur rz : RpD Ω G2 as2 [] z' (.pur z)) rv2
                  refine ⟨dx2, _, hv2, ?_, ?_⟩
                  · rw [List.length_zip, List.length_map]
                    exact Nat.lt_of_le_of_lt (Nat.min_le_left _ _) (by omega)
                  · rw [e1]
                    exact OutS.nx (A2.setC (c' := .ins c2 (putFs x (.pur z) fs)) em2 ea2 fun H' e => ⟨dx2, vs', e, e2⟩) o2
                · exact o2.elim
              · exact o2.elim
            · exact o2.elim
          · exact o2.elim
        · cases ef
      · cases ec
    · exact o1.elim
  · exact o1.elim
/-! ### raise C(..) -/
theorem zip_exd {fs : List Str} {ps : List P} {vs : List V} {H : Hp} (rp : RpPs Ω G vs ps) (hl : ps.length = fs.length) {d : Addr} (hd : H d = none) : ExD Ω G ⟨c, (fs.zip ps).reverse⟩ (some d) (upd H d (.xd ((fs.zip vs).reverse))) := by
  have hv := rp.length
  refine ⟨vs.reverse, ?_, ?_⟩
  · rw [upd_same]
    congr 2
    have e1 : ((fs.zip ps).reverse).map (·.1) = fs.reverse := by rw [List.map_reverse, zip_fst hl]
    show (fs.zip vs).reverse = (((fs.zip ps).reverse).map (·.1)).zip vs.reverse
    rw [e1, zip_rev (by rw [hv, hl])]
  · have e2 : ((fs.zip ps).reverse).map (·.2) = ps.reverse := by rw [List.map_reverse, zip_snd hl]
    show RpPs Ω G vs.reverse (((fs.zip ps).reverse).map (·.2))
    rw [e2]
    exact rp.reverse
theorem rai_key {c : Nat} {fl : List Str} (hxf : Γ.xf c = some fl) {s1 : S} {G1 H1 : Hp} {as1 ls1 : List Addr} {σ : St} {ds : List D} {vs : List V} {Dn : Ends} (A1 : Abs Ω Z s1 G1 as1 ls1 σ H1) (r1 : RpDs Ω G1 as1 ls1 vs ds) (o1 : OutS Ω Z W G1 as1 ls1 (raiF (Γ.xf c) c ds s1) Dn) :
    vs.length = fl.length ∧ (fl = [] → W (.ref (Ω.ca c)) none σ H1) ∧ (fl ≠ [] → ∀ d, H1 d = none → W (.ref (Ω.ca c)) (some d) σ (upd H1 d (.xd ((fl.zip vs).reverse)))) := by
  unfold raiF at o1
  rw [hxf] at o1
  split at o1
  · rename_i ps fs' e1 e2
    cases e2
    split at o1
    · rename_i hl
      have rp := r1.purs e1
      refine ⟨by rw [rp.length]; exact hl, fun z => ?_, fun z d hd => ?_⟩
      · subst z
        refine o1 none σ H1 G1 as1 ls1 A1 (Le.refl _ _ _) ?_
        show (([] : List Str).zip ps).reverse = []
        simp
      · refine o1 (some d) σ _ G1 as1 ls1 (A1.other fun b hb => upd_ne fun z => ?_) (Le.refl _ _ _) (zip_exd rp hl hd)
        subst z
        rcases hb with h | h | h | h
        · exact h (same_none A1.sto.sub hd)
        · exact A1.nas hd h
        · exact A1.nls hd h
        · exact h (A1.unew hd)
    · exact o1.elim
  · exact o1.elim
theorem r_rai {c : Nat} {e : Expr} {es : List Expr} {fs : S → R (List D)} {p p2 : Pos} (F : Facts Ω Γ T k) (gs : GoodS Ω k N sc W X) (hc : (T.okx c).isSome = true) (hg : glo sc (T.cl c) = true) (hn : (e :: es).all nst = true) (ha : ∀ Z, PA X (e :: es) (tA Ω Z W fs)) :
    PS X (.Raise (some (.Call (.Name (T.cl c) p) (e :: es) [] p2)) none pos) (tS Ω Z W fun s => (fs s).bind fun ds s => raiF (Γ.xf c) c ds s) := by
  have gd := gs.gd
  obtain ⟨fl, hfl⟩ := Option.isSome_iff_exists.mp hc
  obtain ⟨hm, K⟩ := F.xc c fl hfl
  have K' : XcK X.prog X.K (Ω.ca c) fl := by rw [gd.P, gd.K]; exact K
  have hxf : Γ.xf c = some fl := by rw [F.xe]; exact hfl
  refine ps_by fun Dn σ H ⟨s, G, as, ls, A, q⟩ => ⟨_, ps_raise gd.calm gd.tk (pmk_xc K' (gd.room.mono (Nat.le_add_left 1 k)) (glo_of gd hg).1 (by rw [gd.mg]; exact hm) (ha Z) (okn_1 (glo_of gd hg).2).1 hn), ?_⟩
  exact oneSA A q fun ds s1 vs H1 G1 as1 ls1 A1 le1 r1 o1 => rai_key hxf A1 r1 o1
theorem r_rai0 {c : Nat} {p p2 : Pos} (F : Facts Ω Γ T k) (gs : GoodS Ω k N sc W X) (hc : (T.okx c).isSome = true) (hg : glo sc (T.cl c) = true) :
    PS X (.Raise (some (.Call (.Name (T.cl c) p) [] [] p2)) none pos) (tS Ω Z W fun s => raiF (Γ.xf c) c [] s) := by
  have gd := gs.gd
  obtain ⟨fl, hfl⟩ := Option.isSome_iff_exists.mp hc
  obtain ⟨hm, K⟩ := F.xc c fl hfl
  have K' : XcK X.prog X.K (Ω.ca c) fl := by rw [gd.P, gd.K]; exact K
  have hxf : Γ.xf c = some fl := by rw [F.xe]; exact hfl
  exact ps_by fun Dn σ H ⟨s, G, as, ls, A, q⟩ => ⟨_, ps_raise gd.calm gd.tk (pmk_xc0 K' (gd.room.mono (Nat.le_add_left 1 k)) (glo_of gd hg).1 (by rw [gd.mg]; exact hm) (okn_1 (glo_of gd hg).2).1), rai_key hxf A .nil q⟩
/-! ### try .. except -/
theorem zip_fst_snd {α : Type} : ∀ (l : List (Str × α)), (l.map (·.1)).zip (l.map (·.2)) = l
  | [] => rfl
  | (a, b) :: l => by rw [List.map_cons, List.map_cons, List.zip_cons_cons, zip_fst_snd l]
theorem hx_run {t : HTm} {a C : Addr} {cls : Value} {dx : Option Addr} {x : Exc} {p : P} {ni : Option Nat} {Q : VK} {σ' : St} (A : Abs Ω Z s G as ls σ H) (hcls : cls = .ref C) (hx : ExD Ω G x dx H) (hp : htV x.fs t = some p) (hni : htF t ≠ [] → ∃ i, ni = some i ∧ σ'[i]? = some (some (.ref a)))
    (hQ : ∀ v H' G', Abs Ω Z s G' as ls σ H' → Le G as ls G' as ls → RpP Ω G' v p → Q v H') : tHx Ω a C cls dx ni t σ' H Q := by
  -- a field
  have fld : ∀ {f : Str} {q : P}, x.fs.lookup f = some q → ∃ (dd : Addr) (fs : List (Str × V)) (v : V), dx = some dd ∧ H dd = some (.xd fs) ∧ fs.lookup f = some v ∧ RpP Ω G v q := fun {f q} h => by
    unfold ExD at hx
    split at hx
    · rw [hx] at h; cases h
    · rename_i d
      obtain ⟨vs, hd, rp⟩ := hx
      have e : (x.fs.map (·.1)).zip (x.fs.map (·.2)) = x.fs := zip_fst_snd x.fs
      obtain ⟨v, ev, rv⟩ := look_of (v := .non) (ns := x.fs.map (·.1)) (xs := vs) (ps := x.fs.map (·.2)) (by rw [rp.length, List.length_map, List.length_map]) rp (by rw [e]; exact h)
      exact ⟨d, _, v, rfl, hd, ev, rv⟩
  cases t with
  | cst q =>
    cases hp
    exact fun v r => hQ v H G A (Le.refl _ _ _) (RpP.mono (fun _ _ z => by cases z) _ _ r)
  | fld f =>
    obtain ⟨i, hi, hs⟩ := hni (by simp [htF])
    obtain ⟨dd, fs, v, e1, e2, e3, rv⟩ := fld hp
    exact ⟨i, hi, hs, hcls, dd, fs, v, e1, e2, e3, hQ v H G A (Le.refl _ _ _) rv⟩
  | lst f =>
    obtain ⟨i, hi, hs⟩ := hni (by simp [htF])
    obtain ⟨q, eq, rfl⟩ := map_some hp
    obtain ⟨dd, fs, v, e1, e2, e3, rv⟩ := fld eq
    refine ⟨i, hi, hs, hcls, dd, fs, v, e1, e2, e3, fun p hp => ?_⟩
    obtain ⟨A2, le2⟩ := A.newG (o := .lst [v]) hp
    exact hQ _ _ _ A2 le2 (.lst upd_same (RpPs.mono le2.g _ _ (.cons rv .nil)))
  | tup f g =>
    obtain ⟨i, hi, hs⟩ := hni (by simp [htF])
    cases ef : x.fs.lookup f with
    | none => simp [htV, ef] at hp
    | some q1 =>
      cases eg : x.fs.lookup g with
      | none => simp [htV, ef, eg] at hp
      | some q2 =>
        simp [htV, ef, eg] at hp
        subst hp
        obtain ⟨dd, fs, v, e1, e2, e3, rv⟩ := fld ef
        obtain ⟨dd', fs', u, k1, k2, k3, ru⟩ := fld eg
        refine ⟨i, hi, hs, hcls, dd, fs, v, e1, e2, e3, hs, hcls, dd', fs', u, k1, k2, k3, fun p hp => ?_⟩
        obtain ⟨A2, le2⟩ := A.newG (o := .tup [v, u]) hp
        exact hQ _ _ _ A2 le2 (.tup (SqT.of upd_same) (RpPs.mono le2.g _ _ (.cons rv (.cons ru .nil))))
def tcH (Ω : Wd) (h : Hd) : TC := fun a cls d D σ H => tHX Ω a (Ω.ca h.c) cls d h.nm h.t h.isx σ H fun v H1 => D.nx (σ.set h.i (some v)) H1
def clsH (Ω : Wd) (hs : List Hd) : List (Value × Option Nat × TC) := hs.map fun h => (Value.ref (Ω.ca h.c), h.nm, tcH Ω h)
theorem okHt_of {h : Hd} (e : okHt T h = true) : ∃ fs, T.okx h.c = some fs ∧ ∀ f ∈ htF h.t, f ∈ fs := by
  unfold okHt at e
  split at e
  · rename_i fs hfs
    refine ⟨fs, hfs, fun f hf => ?_⟩
    have := List.all_eq_true.mp e f hf
    simpa using this
  · cases e
theorem hdA_of (F : Facts Ω Γ T k) (gs : GoodS Ω k N sc W X) : ∀ (hs : List Hd) (es : List ExceptHandler), chkHds T N sc hs es = true → HdA X es (clsH Ω hs)
  | [], [], _ => .nil
  | [], _ :: _, h => by simp [chkHds] at h
  | _ :: _, [], h => by simp [chkHds] at h
  | h :: hs, e :: es, hh => by
    have gd := gs.gd
    unfold chkHds at hh
    rw [Bool.and_eq_true] at hh
    have ih := hdA_of F gs hs es hh.2
    have h1 := hh.1
    unfold chkHd at h1
    split at h1
    · rename_i x p1 n v p2 e' p3 p4
      simp only [Bool.and_eq_true, decide_eq_true_eq] at h1
      obtain ⟨⟨⟨⟨⟨⟨a1, rfl⟩, a3⟩, a4⟩, a5⟩, a6⟩, a7⟩ := h1
      obtain ⟨fs, hfs, hff⟩ := okHt_of a1
      have nm : Names X (T.cl h.c) (.ref (Ω.ca h.c)) := ⟨(glo_of gd a3).1, (okn_1 (glo_of gd a3).2).1, .inl (by rw [gd.mg]; exact (F.xc _ _ hfs).mg)⟩
      have su : SuOk X [.Assign [.Name v p2] e' p3] (tcH Ω h) := fun a oe cls d pn hz hf => by
        obtain ⟨pe, nc⟩ := pe_hx (a := a) (pn := pn) F gd hfs a4 hz hf hff a7
        have sw : swapsWith e' (some (.Name v p2)) p3.line X.env = pure false := by
          cases e' <;> first | rfl | cases nc
        exact pss_by fun D σ H q => ⟨_, pss_cons (ps_set (X := X.suite a ((a, oe) :: pn)) (i := h.i) (by show X.N.Nodup; rw [gd.hN]; exact gd.nd) (by show X.N[h.i]? = _; rw [gd.hN]; exact a5) (gs.sto v a6).1 pe sw (.inl (gs.fn v))) pss_nil, q⟩
      cases n with
      | none =>
        have e0 : h.nm = none := by
          unfold chkNm at a4
          split at a4
          · assumption
          · rename_i h2; cases h2
          · cases a4
        have := HdA.bare (np := p1) (hp := p4) nm su ih
        unfold clsH
        rw [List.map_cons, e0]
        exact this
      | some y =>
        obtain ⟨i, e0, hi, hl⟩ := nm_of gd.hN gd.sc a4 rfl
        have := HdA.named (np := p1) (hp := p4) nm hi hl su ih
        unfold clsH
        rw [List.map_cons, e0]
        exact this
    · cases h1
theorem rm_get {r : List (Option D)} {σ : St} {G : Hp} {as ls : List Addr} (o : Option Nat) (h : ∀ (i : Nat) (d : D), r[i]? = some (some d) → ∃ v, σ[i]? = some (some v) ∧ RpD Ω G as ls v d) (a : Addr) :
    ∀ (i : Nat) (d : D), (rmN r o)[i]? = some (some d) → ∃ v, (slotN σ a o)[i]? = some (some v) ∧ RpD Ω G as ls v d := fun i d e => by
  cases o with
  | none => exact h i d e
  | some j =>
    have e : (r.set j none)[i]? = some (some d) := e
    by_cases hj : i = j
    · subst hj
      by_cases hl : i < r.length
      · rw [List.getElem?_set_self hl] at e; cases e
      · rw [List.getElem?_eq_none (by simpa using hl)] at e; cases e
    · rw [List.getElem?_set_ne (Ne.symm hj)] at e
      obtain ⟨v, e1, r1⟩ := h i d e
      exact ⟨v, (List.getElem?_set_ne (Ne.symm hj)).trans e1, r1⟩
theorem hd_wish (F : Facts Ω Γ T k) (gs : GoodS Ω k N sc W X) {x : Exc} (hx : (Γ.xf x.cls).isSome = true) {dx : Option Addr} (A : Abs Ω Z s G as ls σ H) (ex : ExD Ω G x dx H) :
    ∀ (hs : List Hd) (es : List ExceptHandler), chkHds T N sc hs es = true → OutS Ω Z W G as ls (hdF hs x s) Dn → wAny X.K Dn (clsH Ω hs) (.ref (Ω.ca x.cls)) dx σ H
  | [], _, _, o => o.elim
  | _ :: _, [], h, _ => by simp [chkHds] at h
  | h :: hs, e :: es, hh, o => by
    have gd := gs.gd
    unfold chkHds at hh
    rw [Bool.and_eq_true] at hh
    have h1 := hh.1
    have hok : okHt T h = true := by
      unfold chkHd at h1
      split at h1
      · simp only [Bool.and_eq_true] at h1
        exact h1.1.1.1.1.1.1
      · cases h1
    obtain ⟨fs, hfs, hff⟩ := okHt_of hok
    rw [F.xe] at hx
    obtain ⟨fx, hfx⟩ := Option.isSome_iff_exists.mp hx
    refine ⟨x.cls == h.c, by rw [gd.K]; exact F.xm _ _ _ _ hfx hfs, fun hb a ha => ?_, fun hb => ?_⟩
    · unfold hdF at o
      rw [if_pos hb] at o
      have hb := beq_iff_eq.mp hb
      split at o
      · rename_i hnm
        split at o
        · rename_i p hp
          have A' : Abs Ω Z { s with r := rmN s.r h.nm } G as ls (slotN σ a h.nm) H := A.env' (rm_get h.nm A.env a) (by
            have := A.slen
            cases h.nm with
            | none => exact this
            | some j => show (s.r.set j none).length ≤ (σ.set j _).length; rw [List.length_set, List.length_set]; exact this)
          have hcls : Value.ref (Ω.ca x.cls) = .ref (Ω.ca h.c) := by rw [hb]
          have hat : ∀ i, h.nm = some i → (slotN σ a h.nm)[i]? = some (some (.ref a)) := fun i hi => by
            unfold nmOK at hnm
            rw [hi] at hnm ⊢
            have hlt := of_decide_eq_true hnm
            exact List.getElem?_set_self (Nat.lt_of_lt_of_le hlt A.slen)
          have run : tHx Ω a (Ω.ca h.c) (.ref (Ω.ca x.cls)) dx h.nm h.t (slotN σ a h.nm) H fun v H1 => (endN Dn h.nm).nx ((slotN σ a h.nm).set h.i (some v)) H1 := by
            refine hx_run A' hcls ex hp (fun hne => ?_) fun v H' G' A2 le rv => ?_
            · unfold nmOK at hnm
              cases hn : h.nm with
              | none =>
                rw [hn] at hnm
                simp only [Bool.and_eq_true, List.isEmpty_iff] at hnm
                exact absurd hnm.2 hne
              | some i => exact ⟨i, rfl, by rw [← hn]; exact hat i hn⟩
            · have A3 := A2.slot (i := h.i) (RpD.pur rv : RpD Ω G' as ls v (.pur p))
              have fin : ∀ σ2, Abs Ω Z { s with r := rmN (s.r.set h.i (some (.pur p))) h.nm } G' as ls σ2 H' → Dn.nx σ2 H' := fun σ2 A4 => o σ2 H' G' as ls A4 le
              cases hn : h.nm with
              | none =>
                rw [hn] at A3
                refine fin _ ?_
                rw [hn]
                exact A3
              | some j =>
                rw [hn] at A3
                refine fin _ (A3.env' (r' := rmN (s.r.set h.i (some (.pur p))) h.nm) (fun i d e => ?_) ?_)
                · rw [hn] at e
                  have e : ((s.r.set h.i (some (.pur p))).set j none)[i]? = some (some d) := e
                  by_cases hj : i = j
                  · subst hj
                    by_cases hl : i < (s.r.set h.i (some (D.pur p))).length
                    · rw [List.getElem?_set_self hl] at e; cases e
                    · rw [List.getElem?_eq_none (by simpa using hl)] at e; cases e
                  · rw [List.getElem?_set_ne (Ne.symm hj)] at e
                    have e2 : ((s.r.set j none).set h.i (some (D.pur p)))[i]? = some (some d) := by
                      rw [← e, List.getElem?_set, List.getElem?_set_ne (Ne.symm hj), List.getElem?_set, List.length_set]
                    obtain ⟨v', e3, r3⟩ := A3.env i d e2
                    exact ⟨v', (List.getElem?_set_ne (Ne.symm hj)).trans e3, r3⟩
                · have := A3.slen
                  have this : ((s.r.set j none).set h.i (some (D.pur p))).length ≤ _ := this
                  rw [hn]
                  show ((s.r.set h.i (some (D.pur p))).set j none).length ≤ (List.set _ j none).length
                  simp only [List.length_set] at this ⊢
                  exact this
          show tHX Ω a (Ω.ca h.c) (.ref (Ω.ca x.cls)) dx h.nm h.t h.isx (slotN σ a h.nm) H _
          unfold tHX
          cases hi : h.isx with
          | none => exact run
          | some b =>
            refine ⟨?_, hcls, fun dd hd => ?_, run⟩
            · unfold nmOK at hnm
              cases hn : h.nm with
              | none => rw [hn, hi] at hnm; simp at hnm
              | some i => exact ⟨i, rfl, by rw [← hn]; exact hat i hn⟩
            · subst hd
              obtain ⟨vs, hd', _⟩ := ex
              exact ⟨_, hd'⟩
        · exact o.elim
      · exact o.elim
    · unfold hdF at o
      rw [if_neg (by rw [hb]; exact Bool.false_ne_true)] at o
      exact hd_wish F gs (by rw [F.xe]; exact hx) A ex hs es hh.2 o
theorem GoodS.tr (g : GoodS Ω k N sc W X) {W' : WX} {pn : List (Addr × Obj)} {xe : Value → Shared → Prop} (tk : Takes (X.tr pn xe) W') (po : PassesOwn (model X.prog X.w) X.A X.env xe) : GoodS Ω k N sc W' (X.tr pn xe) :=
  ⟨⟨g.gd.P, g.gd.w, g.gd.K, g.gd.mg, g.gd.base, g.gd.calm, g.gd.hN, g.gd.nd, g.gd.sc, g.gd.room, tk⟩, g.kind, g.fn, po, g.st, g.fr⟩
theorem r_try {b : S → R Fl} {body : List Stmt} {hs : List Hd} {h₀ : ExceptHandler} {es : List ExceptHandler} (F : Facts Ω Γ T k) (gs : GoodS Ω k N sc W X) (hc : chkHds T N sc hs (h₀ :: es) = true)
    (hb : ∀ (W' : WX) (X' : Cx), GoodS Ω k N sc W' X' → PSs X' body (tS Ω Z W' b)) : PS X (.Try body (h₀ :: es) [] [] pos) (tS Ω Z W fun s => tryF Γ.xf hs (b s)) := by
  have gd := gs.gd
  refine ps_by fun Dn σ H ⟨s, G, as, ls, A, q⟩ => ⟨_, ps_try_any (tb := fun W' => tS Ω Z W' b) gs.st gs.fr (by rw [gd.hN]; exact gd.nd) (fun W' pn xe tk po => hb W' _ (gs.tr tk po)) (hdA_of F gs hs _ hc), s, G, as, ls, A, ?_⟩
  have q : OutS Ω Z W G as ls (tryF Γ.xf hs (b s)) Dn := q
  revert q
  cases b s with
  | st => exact fun q => q.elim
  | ok f s' =>
    intro q
    cases f <;> exact q
  | ex x s' =>
    intro q dx σ' H' G' as' ls' A' le' e'
    have q : OutS Ω Z W G as ls (if (Γ.xf x.cls).isSome then hdF hs x s' else .st) Dn := q
    by_cases hx : (Γ.xf x.cls).isSome = true
    · rw [if_pos hx] at q
      exact hd_wish F gs hx A' e' hs _ hc (OutS.rebase q le')
    · rw [if_neg hx] at q
      exact q.elim
theorem r_never {st : Stmt} : PS X st (tS Ω Z W fun s => .st) := ps_by fun Dn σ H ⟨s, G, as, ls, A, q⟩ => q.elim
mutual
theorem iS (F : Facts Ω Γ T k) : ∀ (a : Stm) (W : WX) (X : Cx) (g : GoodS Ω k N sc W X) (x : Stmt), chkS T N sc a x = true → PS X x (tS Ω Z W (exS Γ a))
  | .asg i a, W, X, g, x, h => by
    unfold chkS at h
    split at h
    · simp only [Bool.and_eq_true, decide_eq_true_eq] at h
      exact ps_eq (r_asg F g h.1.1 h.1.2 h.2) fun _ => rfl
    · cases h
  | .unp is a, W, X, g, x, h => by
    unfold chkS at h
    split at h
    · simp only [Bool.and_eq_true] at h
      exact ps_eq (r_unp g h.1.1 h.2 (iE F a sc W X _ g.gd h.1.2).1) fun _ => rfl
    · cases h
  | .par is es, W, X, g, x, h => by
    unfold chkS at h
    split at h
    · simp only [Bool.and_eq_true, decide_eq_true_eq] at h
      obtain ⟨⟨⟨⟨⟨h1, h2⟩, h3⟩, h4⟩, h5⟩, h6⟩ := h
      exact ps_eq (r_par g h1 h6 h4 h5 (iEs F es sc W X _ g.gd h2).pa) fun _ => rfl
    · cases h
  | .sto2 o1 i1 o2 i2 es, W, X, g, x, h => by
    unfold chkS at h
    split at h
    · simp only [Bool.and_eq_true] at h
      obtain ⟨⟨⟨⟨⟨⟨⟨⟨h1, h2⟩, h3⟩, h4⟩, h5⟩, h6⟩, h7⟩, h8⟩, h9⟩ := h
      split at h9
      · rename_i hp
        exact ps_eq (r_sto2 g h7 h8 hp (iE F o1 sc W X _ g.gd h1).1 (iE F i1 sc W X _ g.gd h2).1 (iE F o2 sc W X _ g.gd h3).1 (iE F i2 sc W X _ g.gd h4).1 (iEs F es sc W X _ g.gd h5).pa) fun _ => rfl
      · cases h9
    · cases h
  | .sto o i a, W, X, g, x, h => by
    unfold chkS at h
    split at h
    · simp only [Bool.and_eq_true] at h
      obtain ⟨⟨⟨h1, h2⟩, h3⟩, h4⟩ := h
      exact ps_eq (r_sto g h4 (iE F o sc W X _ g.gd h1).1 (iE F i sc W X _ g.gd h2).1 (iE F a sc W X _ g.gd h3).1) fun _ => rfl
    · cases h
  | .augs op o i a, W, X, g, x, h => by
    unfold chkS at h
    split at h
    · simp only [Bool.and_eq_true, decide_eq_true_eq] at h
      obtain ⟨⟨⟨⟨rfl, h1⟩, h2⟩, h3⟩, h4⟩ := h
      exact ps_eq (r_augs g h4 (iE F o sc W X _ g.gd h1).1 (iE F i sc W X _ g.gd h2).1 (iE F a sc W X _ g.gd h3).1) fun _ => rfl
    · cases h
  | .aug op i a, W, X, g, x, h => by
    unfold chkS at h
    split at h
    · simp only [Bool.and_eq_true, decide_eq_true_eq] at h
      obtain ⟨⟨⟨⟨rfl, h1⟩, h2⟩, h3⟩, h4⟩ := h
      exact ps_eq (r_aug g h1 h2 (iE F a sc W X _ g.gd h4).1) fun _ => rfl
    · cases h
  | .stf o f a, W, X, g, x, h => by
    unfold chkS at h
    split at h
    · simp only [Bool.and_eq_true, decide_eq_true_eq] at h
      obtain ⟨⟨⟨rfl, h1⟩, h2⟩, h3⟩ := h
      exact ps_eq (r_stf F g (iE F o sc W X _ g.gd h1).1 (iE F a sc W X _ g.gd h2).1) fun _ => rfl
    · cases h
  | .augf op o f a, W, X, g, x, h => by
    unfold chkS at h
    split at h
    · simp only [Bool.and_eq_true, decide_eq_true_eq] at h
      obtain ⟨⟨⟨⟨rfl, rfl⟩, h1⟩, h2⟩, h3⟩ := h
      exact ps_eq (r_augf F g (iE F o sc W X _ g.gd h1).1 (iE F a sc W X _ g.gd h2).1) fun _ => rfl
    · cases h
  | .rai c es, W, X, g, x, h => by
    unfold chkS at h
    split at h
    · simp only [Bool.and_eq_true, decide_eq_true_eq] at h
      obtain ⟨⟨⟨⟨h0, rfl⟩, h1⟩, h2⟩, h3⟩ := h
      have q := iEs F es sc W X _ g.gd h2
      rename_i xs _ _
      cases xs with
      | nil =>
        cases es with
        | nil => exact ps_eq (r_rai0 F g h0 h1) fun _ => rfl
        | cons _ _ => simp [chkEs] at h2
        | star _ _ => simp [chkEs] at h2
      | cons e xs => exact ps_eq (r_rai F g h0 h1 (q.nst h3) q.pa) fun _ => rfl
    · cases h
  | .tryS b hs, W, X, g, x, h => by
    unfold chkS at h
    split at h
    · rw [Bool.and_eq_true] at h
      exact ps_eq (r_try F g h.2 fun W' X' g' => iSs F b _ _ g' _ h.1) fun _ => rfl
    · cases h
  | .exp a, W, X, g, x, h => by
    unfold chkS at h
    split at h
    · simp only [Bool.and_eq_true] at h
      exact ps_eq (r_exp (iE F a sc W X _ g.gd h.1).1 h.2) fun _ => rfl
    · cases h
  | .ret a, W, X, g, x, h => by
    unfold chkS at h
    split at h
    · exact ps_eq (r_ret (iE F a sc W X _ g.gd h).1) fun _ => rfl
    · cases h
  | .ret0, W, X, g, x, h => by
    unfold chkS at h
    split at h
    · exact ps_eq r_ret0 fun _ => rfl
    · cases h
  | .ifs c a b, W, X, g, x, h => by
    unfold chkS at h
    split at h
    · simp only [Bool.and_eq_true] at h
      obtain ⟨⟨⟨h1, h2⟩, h3⟩, h4⟩ := h
      exact ps_eq (r_ifs ((iE F c sc W X _ g.gd h1).2 h2 Z) (iSs F a _ _ g _ h3) (iSs F b _ _ g _ h4)) fun _ => rfl
    · cases h
  | .forr t it b, W, X, g, x, h => by
    unfold chkS at h
    split at h
    · rename_i tg' iter body _
      simp only [Bool.and_eq_true] at h
      obtain ⟨⟨⟨h1, h2⟩, h3⟩, h4⟩ := h
      obtain ⟨hi, hf⟩ := iI F it sc W X iter tg' g.gd h2 fun a e => by
        subst e
        cases t with
        | nm i => simp [enuOK] at h3
        | tp is =>
          cases tg' with
          | Tuple elts j p => exact ⟨_, _, _, rfl⟩
          | _ => simp [chkT] at h1
      exact ps_eq (r_for g h1 hi hf (iSs F b _ _ g _ h4)) fun _ => rfl
    · cases h
  | .whil c b, W, X, g, x, h => by
    unfold chkS at h
    split at h
    · simp only [Bool.and_eq_true] at h
      obtain ⟨⟨h1, h2⟩, h3⟩ := h
      exact ps_eq (r_whil (n := Γ.fuel) g ((iE F c sc W X _ g.gd h1).2 h2 Z) (iSs F b _ _ g _ h3)) fun _ => rfl
    · cases h
  | .pas, W, X, g, x, h => by
    unfold chkS at h
    split at h
    · exact ps_by fun Dn σ H ⟨s, G, as, ls, A, q⟩ => ⟨_, ps_pass, OutS.nx A q⟩
    · cases h
  | .brk, W, X, g, x, h => by
    unfold chkS at h
    split at h
    · exact ps_by fun Dn σ H ⟨s, G, as, ls, A, q⟩ => ⟨_, ps_break, q σ H G as ls A (Le.refl _ _ _)⟩
    · cases h
  | .con, W, X, g, x, h => by
    unfold chkS at h
    split at h
    · exact ps_by fun Dn σ H ⟨s, G, as, ls, A, q⟩ => ⟨_, ps_continue, q σ H G as ls A (Le.refl _ _ _)⟩
    · cases h
  | .nev, W, X, g, x, h => r_never
theorem iSs (F : Facts Ω Γ T k) : ∀ (a : Stms) (W : WX) (X : Cx) (g : GoodS Ω k N sc W X) (x : List Stmt), chkSs T N sc a x = true → PSs X x (tS Ω Z W (exSs Γ a))
  | .nil, W, X, g, x, h => by
    unfold chkSs at h
    split at h
    · exact pss_by fun Dn σ H ⟨s, G, as, ls, A, q⟩ => ⟨_, pss_nil, OutS.nx A q⟩
    · cases h
  | .cons a r, W, X, g, x, h => by
    unfold chkSs at h
    split at h
    · rw [Bool.and_eq_true] at h
      have e : exSs Γ (.cons a r) = fun s => (exS Γ a s).bind fun f s => match f with
        | .nx => exSs Γ r s
        | .rt d => .ok (.rt d) s
        | .bk => .ok .bk s
        | .ct => .ok .ct s := by
        funext s
        rfl
      rw [e]
      exact r_cons (iS F a _ _ g _ h.1) (iSs F r _ _ g _ h.2)
    · cases h
end
end
end Ev
end

section
set_option Elab.async false
set_option linter.all false
set_option maxRecDepth 100000
set_option maxHeartbeats 4000000
/-! EvFn: a def of the text does what the evaluator says. -/
namespace Ev
open PySem PySem.Spec L2
open PyProof.Rows hiding St

section
variable {Ω : Wd} {Γ : Cfg} {T : Tab} {k : Nat}
theorem fnSc_of {N ps : List Str} {sc : Scope} (h : fnSc N ps sc = true) : FnScope N ps sc := by
  unfold fnSc at h
  simp only [Bool.and_eq_true, Bool.not_eq_true', decide_eq_true_eq, List.all_eq_true] at h
  obtain ⟨⟨⟨⟨⟨⟨h1, h2⟩, h3⟩, h4⟩, h5⟩, h6⟩, h7⟩ := h
  refine ⟨?_, h2, h3, h4, h5, fun x hx => sto_loc (h6 x hx), fun y hy z => ?_⟩
  · unfold isFun at h1
    split at h1
    · assumption
    · cases h1
  · have := h7 y hy
    rw [z] at this
    cases this
theorem start_get {N : List Str} {vs : List V} {ds : List D} {n : Nat} {G : Hp} {as ls : List Addr} (r : RpDs Ω G as ls vs ds) {i : Nat} {d : D} (h : (ds.map some ++ List.replicate (n - ds.length) none : List (Option D))[i]? = some (some d)) : ∃ v, (start N vs)[i]? = some (some v) ∧ RpD Ω G as ls v d := by
  by_cases hi : i < ds.length
  · rw [List.getElem?_append_left (by simpa using hi), List.getElem?_map] at h
    cases e : ds[i]? with
    | none => rw [e] at h; cases h
    | some d' =>
      rw [e] at h
      cases h
      obtain ⟨v, ev, rv⟩ := r.get e
      refine ⟨v, ?_, rv⟩
      unfold L2.start
      rw [List.getElem?_append_left (by simpa [r.length] using hi), List.getElem?_map, ev]
      rfl
  · rw [List.getElem?_append_right (by simpa using hi), List.getElem?_replicate] at h
    split at h <;> cases h
theorem grow_of {s : S} {H H' G G' : Hp} {as as' ls : List Addr} {σ : St} {U : Hp} (hU : ∀ b, U b = none → b ∈ as ∨ H b = none) (hU2 : ∀ b o, H b = some o → b ∉ as → U b = some o) (A : Abs Ω ⟨U, G, as⟩ s G' as' ls σ H') : Grow H G as H' G' as' := by
  have g0 : Same G G' := A.g0
  obtain ⟨l, hl⟩ : Pre as as' := A.a0
  refine ⟨g0, fun b o e => ?_, ⟨l, hl, fun b hb => ?_⟩, fun b o e n => A.u b o (hU2 b o e n), fun b hb => ?_⟩
  · rcases A.ug b o e with z | z
    · exact .inl z
    · rcases hU b z with z | z
      · have := A.sto.gnone (a := b) (by rw [hl]; exact List.mem_append_left _ z)
        rw [this] at e; cases e
      · exact .inr z
  · have hb' : b ∈ as' := by rw [hl]; exact List.mem_append_right _ hb
    rcases hU b (A.uas b hb') with z | z
    · have nd := A.sto.nd
      rw [hl, List.nodup_append] at nd
      exact absurd rfl (nd.2.2 b z b hb)
    · exact z
  · by_cases hb' : b ∈ as
    · exact A.sto.there (by rw [hl]; exact List.mem_append_left _ hb')
    · cases e : H b with
      | none => exact absurd e hb
      | some o =>
        rw [A.u b o (hU2 b o e hb')]
        exact fun z => nomatch z
theorem fn_run {x qual : Str} {st : Stmt} {f : Addr} {fd : FuncData} {N ps : List Str} {np n : Nat} {body : Stms} (F : Facts Ω Γ T k) (Fu : L2.Fun Ω.K x qual st f fd) (hsc : fnSc N ps (defScope st) = true) (hchk : chkSs T N (defScope st) body (defBody st) = true)
    (hnp : np = ps.length) (hn : n = N.length) : FnOk Ω.P Ω.w Ω.K Ω.mg Ω.base (L2.CX Ω.P Ω.w) (k + 2) f fd ps (spF Ω (runDef Γ np n body)) := by
  have S := fnSc_of hsc
  refine Fu.okX (k := k + 1) S (fun vs H Q E ⟨ds, m, G, as, r, hl, T0, o⟩ => ?_) fun cdv A outer s H vs Q E hr ⟨ds, m, G, as, r, hl, T0, o⟩ => ?_
  · unfold runDef at o
    split at o
    · rename_i e
      rw [r.length, e, hnp]
    · exact o.elim
  · unfold runDef at o
    split at o
    · rename_i e
      have gS : GoodS Ω k N (defScope st) (fun cls d _ H => E cls d H) (cxOf (L2.CX Ω.P Ω.w) Ω.P Ω.w Ω.K Ω.mg Ω.base N qual (defScope st) f cdv A outer s H E) :=
        ⟨⟨rfl, rfl, rfl, rfl, rfl, rfl, rfl, S.nd, rfl, hr, takes_of rfl rfl rfl rfl⟩, S.kind, fun _ => rfl, passes_of rfl, rfl, rfl⟩
      have hU : ∀ b, (if b ∈ as then none else H b) = none → b ∈ as ∨ H b = none := fun b h => by
        by_cases hb : b ∈ as
        · exact .inl hb
        · rw [if_neg hb] at h; exact .inr h
      have hU2 : ∀ b o, H b = some o → b ∉ as → (if b ∈ as then none else H b) = some o := fun b o h1 h2 => by rw [if_neg h2]; exact h1
      refine ⟨tS Ω ⟨fun b => if b ∈ as then none else H b, G, as⟩ (fun cls d _ H => E cls d H) (exSs Γ body), iSs F body _ _ gS _ hchk, { r := ds.map some ++ List.replicate (n - ds.length) none, m := m, l := [] }, G, as, [], ?_, ?_⟩
      · refine ⟨T0, Same.refl _, Pre.refl _, fun b o h => ?_, fun b hb => if_pos hb, fun b hb => (nomatch hb), fun b o h => .inl h, rfl, List.nodup_nil, fun b hb => (nomatch hb), fun k ps a h => ?_, fun i d h => start_get r h, ?_⟩
        · have h : (if b ∈ as then none else H b) = some o := h
          by_cases hb : b ∈ as
          · rw [if_pos hb] at h; cases h
          · rw [if_neg hb] at h; exact h
        · simp at h
        · unfold L2.start
          show (ds.map some ++ List.replicate (n - ds.length) none : List (Option D)).length ≤ _
          rw [List.length_append, List.length_append, List.length_map, List.length_map, List.length_replicate, List.length_replicate, r.length, hn]
          exact Nat.le_refl _
      · cases er : exSs Γ body { r := ds.map some ++ List.replicate (n - ds.length) none, m := m, l := [] } with
        | st => rw [er] at o; exact o
        | ex x s' =>
          rw [er] at o
          exact fun dx σ' H' G' as' ls' A2 _ e2 => o dx H' G' as' A2.sto (grow_of hU hU2 A2) e2
        | ok fl s' =>
          rw [er] at o
          cases fl with
          | bk => exact o.elim
          | ct => exact o.elim
          | nx => exact fun σ' H' G' as' ls' A2 le => o .non H' G' as' A2.sto (grow_of hU hU2 A2) (.pur .non)
          | rt d =>
            cases d with
            | loc _ => exact o.elim
            | pur p => exact fun v σ' H' G' as' ls' A2 le rv => o v H' G' as' A2.sto (grow_of hU hU2 A2) (.pur rv.ip)
            | cel c => exact fun v σ' H' G' as' ls' A2 le rv => o v H' G' as' A2.sto (grow_of hU hU2 A2) (by
                obtain ⟨a, rfl, ea⟩ := rv.icel
                exact .cel ea)
    · exact o.elim
theorem FnF.mono {x : Str} {F : Fn} {j k : Nat} (h : FnF Ω j x F) (hk : j ≤ k) : FnF Ω k x F := by
  obtain ⟨a, fd, ps, h1, h2, h3, h4⟩ := h.ex
  exact ⟨a, fd, ps, h1, h2, h3, h4.mono hk⟩
theorem MkFct.mono {x : Str} {F : Fn} {C : Addr} {j k : Nat} (h : MkFct Ω j x C F) (hk : j ≤ k) : MkFct Ω k x C F := by
  obtain ⟨a, fd, ps, h1, h2, h3, h4⟩ := h.ex
  exact ⟨a, fd, ps, h1, h2, h3, h4.mono hk⟩
theorem MetF.mono {m : Str} {F : Fn} {C : Addr} {j k : Nat} (h : MetF Ω j C m F) (hk : j ≤ k) : MetF Ω k C m F := by
  obtain ⟨f, fd, ps, h1, h2, h3, h4⟩ := h.ex
  exact ⟨f, fd, ps, h1, h2, h3, h4.mono hk⟩
theorem PrpF.mono {m : Str} {F : Fn} {C : Addr} {j k : Nat} (h : PrpF Ω j C m F) (hk : j ≤ k) : PrpF Ω k C m F := by
  obtain ⟨p, f, fd, ps, h1, h2, h3, h4⟩ := h.ex
  exact ⟨p, f, fd, ps, h1, h2, h3, h4.mono hk⟩
/-- a def of the text -/
theorem fnF_run {x qual : Str} {st : Stmt} {f : Addr} {fd : FuncData} {N ps : List Str} {np n : Nat} {body : Stms} (F : Facts Ω Γ T k) (hm : Ω.mg x = some (.ref f)) (Fu : L2.Fun Ω.K x qual st f fd) (hB : Binds Ω.K fd ps []) (hsc : fnSc N ps (defScope st) = true) (hchk : chkSs T N (defScope st) body (defBody st) = true)
    (hnp : np = ps.length) (hn : n = N.length) : FnF Ω (k + 2) x (runDef Γ np n body) := ⟨f, fd, ps, hm, Fu.kp, hB, fn_run F Fu hsc hchk hnp hn⟩
/-- a def that is not looked into -/
theorem fnF_never {x : Str} {f : Addr} {fd : FuncData} {ps : List Str} (hm : Ω.mg x = some (.ref f)) (hk : PySem.W.keepIn Ω.K (.ref f) = true) (hB : Binds Ω.K fd ps []) : FnF Ω k x (fun _ _ => .st) :=
  ⟨f, fd, ps, hm, hk, hB, ⟨fun vs H Q E ⟨ds, m, G, as, r, hl, T0, o⟩ => o.elim, fun A outer s H args us vs Q E _ _ _ _ ⟨ds, m, G, as, r, hl, T0, o⟩ => o.elim⟩⟩
/-- a class by its __init__ -/
theorem mk_run {x y qual : Str} {st : Stmt} {f C : Addr} {fd : FuncData} {N ps : List Str} {np n : Nat} {body : Stms} (F : Facts Ω Γ T k) (hm : Ω.mg x = some (.ref C)) (hMk : Mk Ω.K C f) (Fu : L2.Fun Ω.K y qual st f fd) (hB : Binds Ω.K fd ps []) (hsc : fnSc N ps (defScope st) = true) (hchk : chkSs T N (defScope st) body (defBody st) = true)
    (hnp : np = ps.length) (hn : n = N.length) : MkFct Ω (k + 2) x C (runDef Γ np n body) := ⟨f, fd, ps, hm, hMk, hB, fn_run F Fu hsc hchk hnp hn⟩
end
end Ev
end

section
set_option Elab.async false
set_option linter.all false
set_option maxRecDepth 100000
set_option maxHeartbeats 4000000
/-! EvPrg: a program's defs, put together. -/
namespace Ev
open PySem PySem.Spec L2
open PyProof.Rows hiding St

def noFn : Fn := fun _ _ => .st
def mkG (g : Str → Option P) (fa : Nat → Str → Bool) (l li : List (Nat × Fn)) (lm lp : List (Nat × Fn) := []) (lx : List (Nat × List Str) := []) : Cfg := { xf := fun c => lx.lookup c, fns := fun i => (l.lookup i).getD noFn, glb := g, ini := fun i => (li.lookup i).getD noFn, fa := fa, mts := fun i => (lm.lookup i).getD noFn, prs := fun i => (lp.lookup i).getD noFn }
def mkT (fn cl : Nat → Str) (l li : List (Nat × Fn)) (lm lp : List (Nat × Fn) := []) (mc pc : Nat → Nat × Str := fun _ => (0, Str.empty)) (lk : List Nat := []) (lx : List (Nat × List Str) := []) (lb : List Nat := []) : Tab := { okx := fun c => lx.lookup c, xb := fun b => lb.contains b, fn := fn, cl := cl, okf := fun i => (l.lookup i).isSome, okc := fun i => (li.lookup i).isSome, okm := fun i => (lm.lookup i).isSome, okp := fun i => (lp.lookup i).isSome, oki := fun c => lk.contains c, mc := mc, pc := pc }
section
variable (Ω : Wd) (k : Nat) (nm : Nat → Str)
def AllF : List (Nat × Fn) → Prop
  | [] => True
  | (i, F) :: r => FnF Ω k (nm i) F ∧ AllF r
def AllC : List (Nat × Fn) → Prop
  | [] => True
  | (i, F) :: r => MkFct Ω k (nm i) (Ω.ca i) F ∧ AllC r
def AllM (mc : Nat → Nat × Str) : List (Nat × Fn) → Prop
  | [] => True
  | (i, F) :: r => MetF Ω k (Ω.ca (mc i).1) (mc i).2 F ∧ AllM mc r
def AllP (pc : Nat → Nat × Str) : List (Nat × Fn) → Prop
  | [] => True
  | (i, F) :: r => PrpF Ω k (Ω.ca (pc i).1) (pc i).2 F ∧ AllP pc r
def AllI : List Nat → Prop
  | [] => True
  | c :: r => InsF Ω (nm c) (Ω.ca c) ∧ AllI r
end
section
variable {Ω : Wd} {k : Nat} {nm : Nat → Str}
theorem AllF.get {i : Nat} : ∀ {l : List (Nat × Fn)}, AllF Ω k nm l → (l.lookup i).isSome = true → FnF Ω k (nm i) ((l.lookup i).getD noFn)
  | [], _, h => by cases h
  | (j, F) :: r, a, h => by
    by_cases e : i = j
    · subst e
      simp only [List.lookup_cons, beq_self_eq_true]
      exact a.1
    · have e' : (i == j) = false := by simp [e]
      simp only [List.lookup_cons, e'] at h ⊢
      exact AllF.get a.2 h
theorem AllC.get {i : Nat} : ∀ {l : List (Nat × Fn)}, AllC Ω k nm l → (l.lookup i).isSome = true → MkFct Ω k (nm i) (Ω.ca i) ((l.lookup i).getD noFn)
  | [], _, h => by cases h
  | (j, F) :: r, a, h => by
    by_cases e : i = j
    · subst e
      simp only [List.lookup_cons, beq_self_eq_true]
      exact a.1
    · have e' : (i == j) = false := by simp [e]
      simp only [List.lookup_cons, e'] at h ⊢
      exact AllC.get a.2 h
theorem AllM.get {mc : Nat → Nat × Str} {i : Nat} : ∀ {l : List (Nat × Fn)}, AllM Ω k mc l → (l.lookup i).isSome = true → MetF Ω k (Ω.ca (mc i).1) (mc i).2 ((l.lookup i).getD noFn)
  | [], _, h => by cases h
  | (j, F) :: r, a, h => by
    by_cases e : i = j
    · subst e
      simp only [List.lookup_cons, beq_self_eq_true]
      exact a.1
    · have e' : (i == j) = false := by simp [e]
      simp only [List.lookup_cons, e'] at h ⊢
      exact AllM.get a.2 h
theorem AllP.get {pc : Nat → Nat × Str} {i : Nat} : ∀ {l : List (Nat × Fn)}, AllP Ω k pc l → (l.lookup i).isSome = true → PrpF Ω k (Ω.ca (pc i).1) (pc i).2 ((l.lookup i).getD noFn)
  | [], _, h => by cases h
  | (j, F) :: r, a, h => by
    by_cases e : i = j
    · subst e
      simp only [List.lookup_cons, beq_self_eq_true]
      exact a.1
    · have e' : (i == j) = false := by simp [e]
      simp only [List.lookup_cons, e'] at h ⊢
      exact AllP.get a.2 h
theorem AllI.get {i : Nat} : ∀ {l : List Nat}, AllI Ω nm l → l.contains i = true → InsF Ω (nm i) (Ω.ca i)
  | [], _, h => by simp at h
  | j :: r, a, h => by
    rw [List.contains_cons, Bool.or_eq_true] at h
    rcases h with h | h
    · have h := beq_iff_eq.mp h
      subst h
      exact a.1
    · exact AllI.get a.2 h
/-- the own exceptions: each with its fields, and the classes that isinstance asks for -/
structure XTop (Ω : Wd) (cl : Nat → Str) (lx : List (Nat × List Str)) (lb : List Nat) : Prop where
  xc : ∀ c fs, lx.lookup c = some fs → XcF Ω (cl c) (Ω.ca c) fs
  xm : ∀ c c' fs fs', lx.lookup c = some fs → lx.lookup c' = some fs' → PySem.W.exmOne Ω.K (.ref (Ω.ca c)) (.ref (Ω.ca c')) = some (c == c')
  xi : ∀ b c fs, lb.contains b = true → lx.lookup c = some fs → Ω.mg (cl b) = some (.ref (Ω.ca b)) ∧ PySem.W.kitOne Ω.K (.ref (Ω.ca c)) (.ref (Ω.ca b)) = some true
theorem XTop.nil {cl : Nat → Str} {lb : List Nat} : XTop Ω cl [] lb := ⟨fun c fs h => by simp at h, fun c c' fs fs' h => by simp at h, fun b c fs _ h => by simp at h⟩
/-- what a program's globals are -/
structure Top (Ω : Wd) (g : Str → Option P) (fa : Nat → Str → Bool) : Prop where
  bi : ∀ x ∈ bltins, Ω.mg x = none
  gl : ∀ x p, g x = some p → ∃ u v, Ω.mg x = some u ∧ RelV v u ∧ RpP Ω (fun _ => none) v p
  fa : ∀ c f, fa c f = true → Cls Ω.K (Ω.ca c) ∧ NoAttr Ω.K (Ω.ca c) f
theorem facts_of {g : Str → Option P} {fa : Nat → Str → Bool} {cl : Nat → Str} {l li : List (Nat × Fn)} {lm lp : List (Nat × Fn)} {mc pc : Nat → Nat × Str} {lk : List Nat} {lx : List (Nat × List Str)} {lb : List Nat} (t : Top Ω g fa) (a : AllF Ω k nm l) (c : AllC Ω k cl li) (am : AllM Ω k mc lm) (ap : AllP Ω k pc lp) (ai : AllI Ω cl lk) (ax : XTop Ω cl lx lb) : Facts Ω (mkG g fa l li lm lp lx) (mkT nm cl l li lm lp mc pc lk lx lb) k :=
  ⟨t.bi, t.gl, fun i h => a.get h, fun i h => c.get h, t.fa, fun i h => am.get h, fun i h => ap.get h, fun i h => ai.get h, rfl, fun c fs h => ax.xc c fs h, fun c c' fs fs' h h' => ax.xm c c' fs fs' h h', fun b c fs h h' => ax.xi b c fs h h'⟩
/-- what stands in the text for a def: what all_mk has of it -/
structure Dat where
  x : Str
  qual : Str
  st : Stmt
  N : List Str
  ps : List Str
  body : Stms
def Dat.run (d : Dat) (Γ : Cfg) : Fn := runDef Γ d.ps.length d.N.length d.body
def Dat.ok (d : Dat) (T : Tab) : Bool := fnSc d.N d.ps (defScope d.st) && chkSs T d.N (defScope d.st) d.body (defBody d.st)
/-- the def as the top has written it -/
structure Has (Ω : Wd) (d : Dat) (f : Addr) : Prop where
  fu : ∃ fd, L2.Fun Ω.K d.x d.qual d.st f fd ∧ Binds Ω.K fd d.ps []
theorem dat_fn {d : Dat} {f : Addr} {g : Str → Option P} {fa : Nat → Str → Bool} {cl : Nat → Str} {l li : List (Nat × Fn)} {lm lp : List (Nat × Fn)} {mc pc : Nat → Nat × Str} {lk : List Nat} {lx : List (Nat × List Str)} {lb : List Nat} (t : Top Ω g fa) (a : AllF Ω k nm l) (c : AllC Ω k cl li) (am : AllM Ω k mc lm) (ap : AllP Ω k pc lp) (ai : AllI Ω cl lk) (ax : XTop Ω cl lx lb) (h : Has Ω d f) (hm : Ω.mg d.x = some (.ref f)) (ok : d.ok (mkT nm cl l li lm lp mc pc lk lx lb) = true) : FnF Ω (k + 2) d.x (d.run (mkG g fa l li lm lp lx)) := by
  obtain ⟨fd, F, B⟩ := h.fu
  unfold Dat.ok at ok
  rw [Bool.and_eq_true] at ok
  exact fnF_run (facts_of t a c am ap ai ax) hm F B ok.1 ok.2 rfl rfl
theorem dat_mk {d : Dat} {f C : Addr} {x : Str} {g : Str → Option P} {fa : Nat → Str → Bool} {cl : Nat → Str} {l li : List (Nat × Fn)} {lm lp : List (Nat × Fn)} {mc pc : Nat → Nat × Str} {lk : List Nat} {lx : List (Nat × List Str)} {lb : List Nat} (t : Top Ω g fa) (a : AllF Ω k nm l) (c : AllC Ω k cl li) (am : AllM Ω k mc lm) (ap : AllP Ω k pc lp) (ai : AllI Ω cl lk) (ax : XTop Ω cl lx lb) (h : Has Ω d f) (hm : Ω.mg x = some (.ref C)) (hMk : Mk Ω.K C f) (ok : d.ok (mkT nm cl l li lm lp mc pc lk lx lb) = true) : MkFct Ω (k + 2) x C (d.run (mkG g fa l li lm lp lx)) := by
  obtain ⟨fd, F, B⟩ := h.fu
  unfold Dat.ok at ok
  rw [Bool.and_eq_true] at ok
  exact mk_run (facts_of t a c am ap ai ax) hm hMk F B ok.1 ok.2 rfl rfl
theorem dat_met {d : Dat} {f C : Addr} {m : Str} {g : Str → Option P} {fa : Nat → Str → Bool} {cl : Nat → Str} {l li : List (Nat × Fn)} {lm lp : List (Nat × Fn)} {mc pc : Nat → Nat × Str} {lk : List Nat} {lx : List (Nat × List Str)} {lb : List Nat} (t : Top Ω g fa) (a : AllF Ω k nm l) (c : AllC Ω k cl li) (am : AllM Ω k mc lm) (ap : AllP Ω k pc lp) (ai : AllI Ω cl lk) (ax : XTop Ω cl lx lb) (h : Has Ω d f) (hM : Meth Ω.K C m f) (hC : Cls Ω.K C) (ok : d.ok (mkT nm cl l li lm lp mc pc lk lx lb) = true) : MetF Ω (k + 2) C m (d.run (mkG g fa l li lm lp lx)) := by
  obtain ⟨fd, F, B⟩ := h.fu
  unfold Dat.ok at ok
  rw [Bool.and_eq_true] at ok
  exact ⟨_, _, _, hM, hC, B, fn_run (facts_of t a c am ap ai ax) F ok.1 ok.2 rfl rfl⟩
theorem dat_prp {d : Dat} {p f C : Addr} {m : Str} {g : Str → Option P} {fa : Nat → Str → Bool} {cl : Nat → Str} {l li : List (Nat × Fn)} {lm lp : List (Nat × Fn)} {mc pc : Nat → Nat × Str} {lk : List Nat} {lx : List (Nat × List Str)} {lb : List Nat} (t : Top Ω g fa) (a : AllF Ω k nm l) (c : AllC Ω k cl li) (am : AllM Ω k mc lm) (ap : AllP Ω k pc lp) (ai : AllI Ω cl lk) (ax : XTop Ω cl lx lb) (h : Has Ω d f) (hP : PropOf Ω.K C m p f) (hC : Cls Ω.K C) (ok : d.ok (mkT nm cl l li lm lp mc pc lk lx lb) = true) : PrpF Ω (k + 2) C m (d.run (mkG g fa l li lm lp lx)) := by
  obtain ⟨fd, F, B⟩ := h.fu
  unfold Dat.ok at ok
  rw [Bool.and_eq_true] at ok
  exact ⟨_, _, _, _, hP, hC, B, fn_run (facts_of t a c am ap ai ax) F ok.1 ok.2 rfl rfl⟩
theorem dat_never {d : Dat} {f : Addr} (h : Has Ω d f) (hm : Ω.mg d.x = some (.ref f)) : FnF Ω k d.x noFn := by
  obtain ⟨fd, F, B⟩ := h.fu
  exact fnF_never hm F.kp B
/-- the law's end -/
theorem dat_law {d : Dat} {f : Addr} {g : Str → Option P} {fa : Nat → Str → Bool} {cl : Nat → Str} {l li : List (Nat × Fn)} {lm lp : List (Nat × Fn)} {mc pc : Nat → Nat × Str} {lk : List Nat} {lx : List (Nat × List Str)} {lb : List Nat} (t : Top Ω g fa) (a : AllF Ω k nm l) (c : AllC Ω k cl li) (am : AllM Ω k mc lm) (ap : AllP Ω k pc lp) (ai : AllI Ω cl lk) (ax : XTop Ω cl lx lb) (h : Has Ω d f) (ok : d.ok (mkT nm cl l li lm lp mc pc lk lx lb) = true) {fd : FuncData} (F : L2.Fun Ω.K d.x d.qual d.st f fd) : FnOk Ω.P Ω.w Ω.K Ω.mg Ω.base (L2.CX Ω.P Ω.w) (k + 2) f fd d.ps (spF Ω (d.run (mkG g fa l li lm lp lx))) := by
  unfold Dat.ok at ok
  rw [Bool.and_eq_true] at ok
  exact fn_run (facts_of t a c am ap ai ax) F ok.1 ok.2 rfl rfl
theorem sq_ints : ∀ (ns : List Int) {G : Hp}, RpPs Ω G (ns.map V.int) (ns.map P.int)
  | [], _ => .nil
  | n :: ns, _ => .cons (.int n) (sq_ints ns)
/-- the law answers True to a script -/
theorem law_true {F : Fn} {H : Hp} {a : Addr} {ns : List Int} {m' : List Cell} (hS : SqL Ω.K H a (ns.map V.int)) (h : F [.pur (.sq (ns.map P.int))] [] = .ok (.pur (.bl true)) m') : spF Ω F [.ref a] H (fun v _ => v = .bl true) fun _ _ _ => False := by
  refine ⟨[.pur (.sq (ns.map P.int))], [], H, [], .cons (.pur (.sq hS (sq_ints ns))) .nil, rfl, ⟨Same.refl _, rfl, List.nodup_nil, fun k c a h => by simp at h⟩, ?_⟩
  rw [h]
  exact fun v H' G' as' _ _ r => r.bl
end
end Ev
end

section
set_option Elab.async false
set_option linter.all false
set_option maxRecDepth 100000
set_option maxHeartbeats 4000000
/-! EvEnd: what the top has written, and the law's end. -/
namespace Ev
open PySem PySem.Spec L2
open PyProof.Rows hiding St

/-- the top as it stands in K: the class addresses are read off K -/
def worldOf (P : Program) (w : World) (K : PySem.W.Frag) (mg : Str → Option Value) (base : Heap) (ca : Nat → Addr) : Wd := ⟨P, w, K, mg, base, ca⟩
/-- a def of the top -/
structure HasG (K : PySem.W.Frag) (d : Dat) (f : Addr) : Prop where
  ns : PySem.W.nsIn K mainGlobals d.x = some (some (.ref f))
  fu : ∃ fd, L2.Fun K d.x d.qual d.st f fd ∧ Binds K fd d.ps [] ∧ ∀ us : List Value, us.length = d.ps.length → bindArgs fd ⟨us, []⟩ = pure (d.ps.zip us)
def BindsN (d : Dat) : Prop := ∀ (kV doc pm : Value) (an : Option Addr) (cdv ct : Value) (us : List Value), us.length = d.ps.length → bindArgs (PySem.W.fnOf d.x d.qual (defArgs d.st) (defBody d.st) (defScope d.st) .none kV doc pm an cdv ct) ⟨us, []⟩ = pure (d.ps.zip us)
section
variable {K : PySem.W.Frag}
theorem hasG_mk {d : Dat} (b : BindsN d) {x qual : Str} {st : Stmt} (hx : d.x = x) (hq : d.qual = qual) (hst : d.st = st) {f : Addr} {oc : Value} {od an : Option Addr} {osl : Array (Option Value)} {kV doc pm cdv ct : Value} (a : PySem.W.nsIn K mainGlobals x = some (some (.ref f)))
    (l : K.lookup f = some ⟨oc, od, .func (PySem.W.fnOf x qual (defArgs st) (defBody st) (defScope st) .none kV doc pm an cdv ct), osl⟩) (c : PySem.W.codeIn K cdv qual = true) (k : PySem.W.keepIn K (.ref f) = true) : HasG K d f := by
  subst hx hq hst
  have F := fun_mk l c k
  exact ⟨a, _, F, F.binds b, b _ _ _ _ _ _⟩
/-- a class of the top with its __init__ -/
structure HasC (K : PySem.W.Frag) (x : Str) (d : Dat) (C f : Addr) : Prop where
  ns : PySem.W.nsIn K mainGlobals x = some (some (.ref C))
  mki : Mk K C f
  cl : Cls K C
  fu : ∃ fd, L2.Fun K d.x d.qual d.st f fd ∧ Binds K fd d.ps []
theorem hasC_mk {d : Dat} (b : BindsN d) {x y qual : Str} {st : Stmt} (hx : d.x = y) (hq : d.qual = qual) (hst : d.st = st) {f C : Addr} {oc : Value} {od an : Option Addr} {osl : Array (Option Value)} {kV doc pm cdv ct : Value} (aC : PySem.W.nsIn K mainGlobals x = some (some (.ref C)))
    (a : PySem.W.findIn K (.ref C) "__init__" = some (some (.ref f))) (i : PySem.W.isFn K (.ref f) = true)
    (l : K.lookup f = some ⟨oc, od, .func (PySem.W.fnOf y qual (defArgs st) (defBody st) (defScope st) .none kV doc pm an cdv ct), osl⟩) (c : PySem.W.codeIn K cdv qual = true) (k : PySem.W.keepIn K (.ref f) = true)
    (mk : PySem.W.makesIn K C = true) (kc : PySem.W.keepIn K (.ref C) = true) (pg : PySem.W.plainGet K C Str.empty = true) (hd : PySem.W.hasDictIn K C = true) (po : PySem.W.plainOver K C = true) (sa : PySem.W.findIn K (.ref C) "__setattr__" = some (some (.builtin "object.__setattr__"))) : HasC K x d C f := by
  subst hx hq hst
  have F := fun_mk l c k
  exact ⟨aC, ⟨mk, a, i, kc⟩, ⟨pg, hd, po, sa⟩, _, F, F.binds b⟩
/-- a method, a property of the class at C -/
structure HasM (K : PySem.W.Frag) (d : Dat) (C : Addr) (m : Str) (f : Addr) : Prop where
  me : Meth K C m f
  fu : ∃ fd, L2.Fun K d.x d.qual d.st f fd ∧ Binds K fd d.ps []
theorem hasM_mk {d : Dat} (b : BindsN d) {y qual m : Str} {st : Stmt} (hx : d.x = y) (hq : d.qual = qual) (hst : d.st = st) {f C : Addr} {oc : Value} {od an : Option Addr} {osl : Array (Option Value)} {kV doc pm cdv ct : Value}
    (a : PySem.W.findIn K (.ref C) m = some (some (.ref f))) (i : PySem.W.isFn K (.ref f) = true)
    (l : K.lookup f = some ⟨oc, od, .func (PySem.W.fnOf y qual (defArgs st) (defBody st) (defScope st) .none kV doc pm an cdv ct), osl⟩) (c : PySem.W.codeIn K cdv qual = true) (k : PySem.W.keepIn K (.ref f) = true) : HasM K d C m f := by
  subst hx hq hst
  have F := fun_mk l c k
  exact ⟨⟨a, i, k⟩, _, F, F.binds b⟩
structure HasP (K : PySem.W.Frag) (d : Dat) (C : Addr) (m : Str) (p f : Addr) : Prop where
  pr : PropOf K C m p f
  fu : ∃ fd, L2.Fun K d.x d.qual d.st f fd ∧ Binds K fd d.ps []
theorem hasP_mk {d : Dat} (b : BindsN d) {y qual m : Str} {st : Stmt} (hx : d.x = y) (hq : d.qual = qual) (hst : d.st = st) {p f C : Addr} {rest : List Value} {oc : Value} {od an : Option Addr} {osl : Array (Option Value)} {kV doc pm cdv ct : Value}
    (a : PySem.W.findIn K (.ref C) m = some (some (.ref p))) (g : PySem.W.specialIn K (.ref p) "__get__" = some (some (.builtin "property.__get__"))) (t : PySem.W.takesIn K (.ref p) = some true) (r : PySem.W.recIn K p "property" = some (.ref f :: rest))
    (l : K.lookup f = some ⟨oc, od, .func (PySem.W.fnOf y qual (defArgs st) (defBody st) (defScope st) .none kV doc pm an cdv ct), osl⟩) (c : PySem.W.codeIn K cdv qual = true) (k : PySem.W.keepIn K (.ref f) = true) : HasP K d C m p f := by
  subst hx hq hst
  have F := fun_mk l c k
  exact ⟨⟨a, g, t, rest, r⟩, _, F, F.binds b⟩
/-- a class as isinstance and + ask for it -/
theorem excTail_refs : ∀ (l : List Value), PySem.W.excTail [.type "ValueError", .type "Exception", .type "BaseException", .type "object"] l = true → PySem.HandSPX.refsVE l = true := by
  intro l
  induction l with
  | nil => intro e; exact absurd e (by decide)
  | cons a r ih =>
    intro e
    rcases PySem.W.excTail_cases (a :: r) e with ⟨c, r', q, h⟩ | q
    · obtain ⟨rfl, rfl⟩ := List.cons.inj q
      exact ih h
    · rw [q]
      rfl
theorem exc_cls {C : Addr} (ii : PySem.W.excInitIn K C [.type "ValueError", .type "Exception", .type "BaseException", .type "object"] "ValueError.__new__" = true) (hd : PySem.W.hasDictIn K C = true) :
    ∃ nm q N bs bm sn sub ab col dd k0 k1 k2 k3 k5, K.lookup C = some (excClassObj nm q C N bs bm true sn sub ab col dd k0 k1 k2 k3 k5 "ValueError.__new__") ∧ PySem.HandSPX.refsVE bm = true := by
  unfold PySem.W.excInitIn at ii
  split at ii
  · rename_i dd cd sl ho
    split at ii
    · rename_i C' bm k0 k1 k2 k3 n k5 hm hs
      simp only [Bool.and_eq_true, beq_iff_eq, Bool.not_eq_true'] at ii
      obtain ⟨⟨⟨rfl, rfl⟩, hdel⟩, ht⟩ := ii
      obtain ⟨cd', hc', hdd⟩ := PySem.W.any_some hd
      unfold PySem.W.clsIn at hc'
      rw [ho] at hc'
      cases hc'
      obtain ⟨nm, bs, mro, ns, qn, hdi, sn, sub, ab, col, del⟩ := cd
      dsimp only at hm hdel hdd
      subst hm hdel hdd
      have hsl : sl = #[k0, k1, k2, k3, some (.builtin "ValueError.__new__"), k5] := by
        obtain ⟨l⟩ := sl
        simp only at hs
        rw [hs]
      subst hsl
      exact ⟨nm, qn, ns, bs, bm, sn, sub, ab, col, dd, k0, k1, k2, k3, k5, ho, excTail_refs _ ht⟩
    · cases ii
  · cases ii
def AllNa (K : PySem.W.Frag) (C : Addr) : List Str → Prop
  | [] => True
  | f :: r => PySem.W.findIn K (.ref C) f = some none ∧ AllNa K C r
theorem AllNa.get {C : Addr} {f : Str} : ∀ {l : List Str}, AllNa K C l → f ∈ l → PySem.W.findIn K (.ref C) f = some none
  | [], _, h => nomatch h
  | g :: r, a, h => by
    rcases List.mem_cons.mp h with rfl | h
    · exact a.1
    · exact AllNa.get a.2 h
theorem ns_id {x : Str} {B : Addr} (h : PySem.W.nsIn K mainGlobals x = some (some (.ref B))) : PySem.W.nsIn K mainGlobals x = some (some (.ref B)) := h
def BindsX (fs : List Str) (st : Stmt) : Prop := ∀ (qual : Str) (dV kV doc pm : Value) (an : Option Addr) (cdv ct : Value) (cc : Addr) (us : List Value), dV = .none → us.length = fs.length + 1 → bindArgs (PySem.W.ksFn "__init__" qual (defArgs st) (defBody st) (defScope st) dV kV doc pm an cdv ct cc) ⟨us, []⟩ = pure ((("self" : Str) :: fs).zip us)
theorem xck_mk {P : Program} {C fI cc cda : Addr} {fs : List Str} {st : Stmt} {qual : Str} {kV doc pm oc ct ccl cl : Value} {an od cdd cld : Option Addr} {osl ccs csl : Array (Option Value)} {vs : Array Value} {file : Str} {tf : Tok} (b : BindsX fs st) (xo : xok fs st = true)
    (hfile : ((P.main.file : Str) == file) = true) (htop : (P.main.scope.names.lookup ("super" : Str)).isSome = false)
    (i1 : PySem.W.findIn K (.ref C) "__init__" = some (some (.ref fI))) (i2 : PySem.W.typeIn K (.ref fI) = some (.type "function"))
    (i3 : K.lookup fI = some ⟨oc, od, .func (PySem.W.ksFn "__init__" qual (defArgs st) (defBody st) (defScope st) .none kV doc pm an (.ref cda) ct cc), osl⟩) (i4 : PySem.W.codeIn K (.ref cda) qual = true)
    (i6 : K.lookup cda = some ⟨ccl, cdd, .fields vs, ccs⟩) (i7 : vs[2]? = some (.str file tf)) (i9 : K.lookup cc = some ⟨cl, cld, .cell (some (.ref C)), csl⟩)
    (sa : PySem.W.findIn K (.ref C) "__setattr__" = some (some (.builtin "object.__setattr__"))) (exC : PySem.W.subIn K (.ref C) (.type "BaseException") = some true) (veC : PySem.W.subIn K (.ref C) (.type "ValueError") = some true)
    (tyC : PySem.W.typeIn K (.ref C) = some (.type "type")) (kC : PySem.W.keepIn K (.ref C) = true) (na : AllNa K C fs) (su : PySem.W.nsIn K mainGlobals "super" = some none) (op : PySem.W.nsIn K cStatics "thirdparty.any" = some none)
    (mr : PySem.W.mroIn K C (.ref C) = some true) (ki : PySem.W.ks_superIn K C C "__init__" = some (some (.builtin "ValueError.__init__"))) (ga : PySem.W.findIn K (.ref C) "__getattribute__" = some (some (.builtin "BaseException.__getattribute__")))
    (gg : PySem.W.findIn K (.ref C) "__getattr__" = some none) (hd : PySem.W.hasDictIn K C = true) (ha : PySem.W.findIn K (.ref C) "__class__" = some (some (.builtin "object.__class__")))
    (hn : PySem.W.specialIn K (.builtin "object.__class__") "__get__" = some (some (.builtin "getset_descriptor.__get__"))) (ht : PySem.W.takesIn K (.builtin "object.__class__") = some true) (hm : PySem.W.mroIn K C (.type "object") = some true)
    (ii : PySem.W.excInitIn K C [.type "ValueError", .type "Exception", .type "BaseException", .type "object"] "ValueError.__new__" = true) : XcK P K C fs :=
  ⟨exc_cls ii hd, sa, exC, veC, tyC, kC, fun f h => na.get h, su, op, mr, ki, ga, gg, hd, ha, hn, ht, hm, ii, fI, cc, cda, st, qual, .none, kV, doc, pm, oc, ct, ccl, cl, an, od, cdd, cld, osl, ccs, csl, vs, file, tf, i1, i2, i3, i4, xo, i6, i7, hfile, i9, htop, fun us h => b _ _ _ _ _ _ _ _ _ us rfl h⟩
/-- the exceptions of the top -/
def AllXK (P : Program) (K : PySem.W.Frag) (ca : Nat → Addr) (cl : Nat → Str) : List (Nat × List Str) → Prop
  | [] => True
  | (c, fs) :: r => (PySem.W.nsIn K mainGlobals (cl c) = some (some (.ref (ca c))) ∧ XcK P K (ca c) fs) ∧ AllXK P K ca cl r
theorem AllXK.get {P : Program} {ca : Nat → Addr} {cl : Nat → Str} {c : Nat} {fs : List Str} : ∀ {l : List (Nat × List Str)}, AllXK P K ca cl l → l.lookup c = some fs → PySem.W.nsIn K mainGlobals (cl c) = some (some (.ref (ca c))) ∧ XcK P K (ca c) fs
  | [], _, h => by simp at h
  | (i, gs) :: r, a, h => by
    rw [List.lookup_cons] at h
    cases e : c == i with
    | true =>
      rw [e] at h
      cases h
      have e := beq_iff_eq.mp e
      subst e
      exact a.1
    | false => rw [e] at h; exact AllXK.get a.2 h
def AllR (R : Nat → Prop) : List (Nat × List Str) → Prop
  | [] => True
  | (c, _) :: r => R c ∧ AllR R r
theorem AllR.get {R : Nat → Prop} {c : Nat} {fs : List Str} : ∀ {l : List (Nat × List Str)}, AllR R l → l.lookup c = some fs → R c
  | [], _, h => by simp at h
  | (i, gs) :: r, a, h => by
    rw [List.lookup_cons] at h
    cases e : c == i with
    | true =>
      have e := beq_iff_eq.mp e
      subst e
      exact a.1
    | false => rw [e] at h; exact AllR.get a.2 h
def AllB (R : Nat → Prop) : List Nat → Prop
  | [] => True
  | c :: r => R c ∧ AllB R r
theorem AllB.get {R : Nat → Prop} {c : Nat} : ∀ {l : List Nat}, AllB R l → l.contains c = true → R c
  | [], _, h => by simp at h
  | i :: r, a, h => by
    rw [List.contains_cons, Bool.or_eq_true] at h
    rcases h with h | h
    · have h := beq_iff_eq.mp h
      subst h
      exact a.1
    · exact AllB.get a.2 h
structure HdX (P : Program) (K : PySem.W.Frag) (ca : Nat → Addr) (cl : Nat → Str) (lx : List (Nat × List Str)) (lb : List Nat) : Prop where
  xk : AllXK P K ca cl lx
  xs : AllR (fun c => AllR (fun c' => PySem.W.subIn K (.ref (ca c)) (.ref (ca c')) = some (c == c')) lx) lx
  xb : AllB (fun b => PySem.W.nsIn K mainGlobals (cl b) = some (some (.ref (ca b))) ∧ AllR (fun c => PySem.W.kitOne K (.ref (ca c)) (.ref (ca b)) = some true) lx) lb
theorem HdX.top {Ω : Wd} {h : Heap} {cl : Nat → Str} {lx : List (Nat × List Str)} {lb : List Nat} (X : Ω.K.In h) (G : h.Ns mainGlobals Ω.mg) (d : HdX Ω.P Ω.K Ω.ca cl lx lb) : XTop Ω cl lx lb :=
  ⟨fun c fs e => ⟨PySem.W.mg_of X G (d.xk.get e).1, (d.xk.get e).2⟩, fun c c' fs fs' e e' => PySem.W.exm_ref (d.xk.get e').2.exC (d.xk.get e').2.hd (d.xk.get e').2.tyC ((d.xs.get e).get e'), fun b c fs hb e => ⟨PySem.W.mg_of X G (d.xb.get hb).1, (d.xb.get hb).2.get e⟩⟩
structure HasI (K : PySem.W.Frag) (C : Addr) : Prop where
  ha : PySem.W.findIn K (.ref C) "__class__" = some (some (.builtin "object.__class__"))
  hn : PySem.W.specialIn K (.builtin "object.__class__") "__get__" = some (some (.builtin "getset_descriptor.__get__"))
  ht : PySem.W.takesIn K (.builtin "object.__class__") = some true
  hm : PySem.W.mroIn K C (.type "object") = some true
  me : PySem.W.kitOne K (.ref C) (.ref C) = some true
  sf : PySem.W.selfFirst K C = true
  nt : PySem.W.kitOne K (.type "tuple") (.ref C) = some false
theorem HasI.of {Ω : Wd} {h : Heap} {x : Str} {C : Addr} (X : Ω.K.In h) (G : h.Ns mainGlobals Ω.mg) (i : HasI Ω.K C) (c : Cls Ω.K C) (n : PySem.W.nsIn Ω.K mainGlobals x = some (some (.ref C))) : InsF Ω x C :=
  ⟨PySem.W.mg_of X G n, ⟨c, i.ha, i.hn, i.ht, i.hm, i.me⟩, i.nt, i.sf⟩
/-! globals that are data -/
def okV : Value → P → Bool
  | .int i _, .int j => i == j
  | .str x _, .str y => x == y
  | .none, .non => true
  | .bool a, .bl b => a == b
  | _, _ => false
def okVs : List Value → List P → Bool
  | [], [] => true
  | v :: vs, p :: ps => okV v p && okVs vs ps
  | _, _ => false
variable {Ω : Wd} {mg : Str → Option Value}
theorem okV_of {u : Value} {p : P} (h : okV u p = true) : ∃ v, RelV v u ∧ ∀ G, RpP Ω G v p := by
  unfold okV at h
  split at h
  · have e := beq_iff_eq.mp h
    subst e
    exact ⟨.int _, ⟨_, rfl⟩, fun G => .int _⟩
  · have e := beq_iff_eq.mp h
    subst e
    exact ⟨.str _, ⟨_, rfl⟩, fun G => .str _⟩
  · exact ⟨.non, rfl, fun G => .non⟩
  · have e := beq_iff_eq.mp h
    subst e
    exact ⟨.bl _, rfl, fun G => .bl _⟩
  · cases h
theorem okVs_of : ∀ {us : List Value} {ps : List P}, okVs us ps = true → ∃ vs, Vals vs us ∧ (∀ G, RpPs Ω G vs ps) ∧ us.length = ps.length
  | [], [], _ => ⟨[], .nil, fun G => .nil, rfl⟩
  | [], _ :: _, h => by simp [okVs] at h
  | _ :: _, [], h => by simp [okVs] at h
  | u :: us, p :: ps, h => by
    rw [okVs, Bool.and_eq_true] at h
    obtain ⟨v, h1, h2⟩ := okV_of (Ω := Ω) h.1
    obtain ⟨vs, h3, h4, h5⟩ := okVs_of h.2
    exact ⟨v :: vs, .cons h1 h3, fun G => .cons (h2 G) (h4 G), by simp [h5]⟩
/-- a global holds a datum -/
def HasV (K : PySem.W.Frag) (x : Str) (p : P) : Prop := ∃ u, PySem.W.nsIn K mainGlobals x = some (some u) ∧ (okV u p = true ∨ ∃ a oc od its n osl ps, u = .ref a ∧ p = .tup ps ∧ oc = Value.type "tuple" ∧ K.lookup a = some ⟨oc, od, .seq its n, osl⟩ ∧ okVs its.toList ps = true ∧ ps.length ≤ 1000)
theorem hasV_flat {x : Str} {p : P} {u : Value} (a : PySem.W.nsIn K mainGlobals x = some (some u)) (h : okV u p = true) : HasV K x p := ⟨u, a, .inl h⟩
theorem hasV_tup {x : Str} {ps : List P} {a : Addr} {od : Option Addr} {its : Array Value} {n : Nat} {osl : Array (Option Value)} (e : PySem.W.nsIn K mainGlobals x = some (some (.ref a))) (l : K.lookup a = some ⟨.type "tuple", od, .seq its n, osl⟩) (h : okVs its.toList ps = true) (hl : ps.length ≤ 1000) : HasV K x (.tup ps) :=
  ⟨_, e, .inr ⟨a, _, od, its, n, osl, ps, rfl, rfl, rfl, l, h, hl⟩⟩
theorem hasV_of {h : Heap} (X : Ω.K.In h) (G : h.Ns mainGlobals Ω.mg) {x : Str} {p : P} (c : HasV Ω.K x p) : ∃ u v, Ω.mg x = some u ∧ RelV v u ∧ RpP Ω (fun _ => none) v p := by
  obtain ⟨u, e, q⟩ := c
  have hm := PySem.W.mg_of X G e
  rcases q with q | ⟨a, oc, od, its, n, osl, ps, rfl, rfl, rfl, l, ho, hl⟩
  · obtain ⟨v, h1, h2⟩ := okV_of (Ω := Ω) q
    exact ⟨u, v, hm, h1, h2 _⟩
  · obtain ⟨vs, h1, h2, h3⟩ := okVs_of (Ω := Ω) ho
    refine ⟨_, .ref a, hm, rfl, .tup (.inr ⟨_, its, n, l, rfl, rfl, ?_, h1⟩) (h2 _)⟩
    rw [← Array.length_toList, h3, sizeLine_eq]
    omega
def AllV (K : PySem.W.Frag) : List (Str × P) → Prop
  | [] => True
  | (x, p) :: r => HasV K x p ∧ AllV K r
theorem AllV.get {x : Str} {p : P} : ∀ {l : List (Str × P)}, AllV K l → l.lookup x = some p → HasV K x p
  | [], _, h => by cases h
  | (y, q) :: r, a, h => by
    rw [List.lookup_cons] at h
    split at h
    · rename_i e
      have e := beq_iff_eq.mp e
      subst e
      cases h
      exact a.1
    · exact AllV.get a.2 h
def AllN (K : PySem.W.Frag) : List Str → Prop
  | [] => True
  | x :: r => PySem.W.nsIn K mainGlobals x = some none ∧ AllN K r
theorem AllN.get {x : Str} : ∀ {l : List Str}, AllN K l → x ∈ l → PySem.W.nsIn K mainGlobals x = some none
  | [], _, h => nomatch h
  | y :: r, a, h => by
    rcases List.mem_cons.mp h with rfl | h
    · exact a.1
    · exact AllN.get a.2 h
/-- a class has no attribute of a field's name -/
def AllA (K : PySem.W.Frag) (ca : Nat → Addr) : List (Nat × Str) → Prop
  | [] => True
  | (c, f) :: r => (Cls K (ca c) ∧ PySem.W.findIn K (.ref (ca c)) f = some none) ∧ AllA K ca r
theorem AllA.get {ca : Nat → Addr} {c : Nat} {f : Str} : ∀ {l : List (Nat × Str)}, AllA K ca l → l.contains (c, f) = true → Cls K (ca c) ∧ NoAttr K (ca c) f
  | [], _, h => by simp at h
  | (c', f') :: r, a, h => by
    rw [List.contains_cons, Bool.or_eq_true] at h
    rcases h with h | h
    · have h := beq_iff_eq.mp h
      cases h
      exact a.1
    · exact AllA.get a.2 h
theorem top_of {h : Heap} {gl : List (Str × P)} {fl : List (Nat × Str)} (X : Ω.K.In h) (G : h.Ns mainGlobals Ω.mg) (n : AllN Ω.K bltins) (v : AllV Ω.K gl) (a : AllA Ω.K Ω.ca fl) : Top Ω (fun x => gl.lookup x) (fun c x => fl.contains (c, x)) :=
  ⟨fun x hx => PySem.W.mg_none_of X G (n.get hx), fun x p e => hasV_of X G (v.get e), fun c f e => a.get e⟩
theorem HasG.has {d : Dat} {f : Addr} {h : Heap} (X : Ω.K.In h) (G : h.Ns mainGlobals Ω.mg) (c : HasG Ω.K d f) : Has Ω d f ∧ Ω.mg d.x = some (.ref f) := by
  obtain ⟨fd, F, B, _⟩ := c.fu
  exact ⟨⟨fd, F, B⟩, PySem.W.mg_of X G c.ns⟩
/-- the promise of a law -/
def spTrue (K : PySem.W.Frag) : Sp := fun vs H Q _ => ∃ (a : Addr) (ns : List Int), vs = [.ref a] ∧ SqL K H a (ns.map V.int) ∧ ns.length ≤ 63 ∧ ∀ H', Q (.bl true) H'
def Law (F : Fn) : Prop := ∀ ns : List Int, ns.length ≤ 63 → ∃ m', F [.pur (.sq (ns.map P.int))] [] = .ok (.pur (.bl true)) m'
theorem spTrue_of {F : Fn} (hF : Law F) (vs : List V) (H : Hp) (Q : VK) (E : XK) (h : spTrue Ω.K vs H Q E) : spF Ω F vs H Q E := by
  obtain ⟨a, ns, rfl, hS, hl, q⟩ := h
  obtain ⟨m', e⟩ := hF ns hl
  refine ⟨[.pur (.sq (ns.map P.int))], [], H, [], .cons (.pur (.sq hS (sq_ints ns))) .nil, rfl, ⟨Same.refl _, rfl, List.nodup_nil, fun k c a h => by simp at h⟩, ?_⟩
  rw [e]
  exact fun v H' G' as' _ _ r => by rw [r.bl]; exact q H'
/-- from the facts of the head to the law -/
theorem walk_ev {l : PySem.W.OpenLaw} {q : Program} {loose : List Str} {XP : (Str → Option Value) → Heap → Prop} {YP : World → Heap → Prop} {d : DefRec} {K : Params → PySem.W.Frag} {lev : Nat} {x : Str} {Hk : PySem.W.Frag → Prop} (hn : l.most = some 63) (hdf : d.params.defaults = []) (hr : Room lev callerA)
    (hY : ∀ (w : World) (h : Heap), YP w h → (K w.params).In h) (hd : d.name = "law")
    (run : ∀ (P : Program), P = l.prog → ∀ (w : World) (K : PySem.W.Frag) (h : Heap) (mg : Str → Option Value) (f : Addr), K.In h → h.Ns mainGlobals mg → mg "law" = some (.ref f) → Hk K →
      ∃ fd : FuncData, (∀ (s : Shared) (u : Value), BindsTo s fd ⟨[u], []⟩ [(x, u)]) ∧ ∀ base : Heap, K.In base → base.Ns mainGlobals mg → FnOk P w K mg base (L2.CX P w) lev f fd [x] (spTrue K))
    (facts : ∀ (w : World) (h : Heap), (K w.params).In h → Hk (K w.params)) :
    PySem.W.WalkO q loose XP YP l.row.toRowW d [] (fun f vs => PySem.call f vs) :=
  L2.walk_of (n := 63) (k := lev) (x := x) (CX := fun w => L2.CX l.prog w) (sp := fun w => spTrue (K w.params)) hn (by decide) hdf hr hY
    (fun w mg fa h KX G hm => run l.prog rfl w (K w.params) h mg fa KX G (by rw [← hd]; exact hm) (facts w h KX))
    (fun _ _ a ns hl _ hS => ⟨a, ns, rfl, hS, hl, fun _ => rfl⟩) fun w H s e s' z => by
      obtain ⟨_, _, _, _, _, _, _, _, _, _, _, _, z⟩ := z
      exact z
end
end Ev
end

section
set_option Elab.async false
set_option linter.all false
set_option maxRecDepth 100000
set_option maxHeartbeats 4000000
/-! EvSim: equations by which simp runs the evaluator; what is bound stands behind a name, so that simp looks at it only when its argument is known. -/
namespace Ev
open PySem
section
variable {α β : Type} {Γ : Cfg} {s : S} {a b c : E} {es : Es} {k : α → S → R β} {x : α}
theorem z_bind {s : S} : (R.ok x s).bind k = k x s := (rfl)
theorem z_st : (R.st : R α).bind k = R.st := (rfl)
theorem z_pS : R.pure (some x) s = R.ok x s := (rfl)
theorem z_slot {i : Nat} : evE Γ (.slot i) s = R.pure (s.r[i]?.bind id) s := (rfl)
theorem z_cst {p : P} : evE Γ (.cst p) s = .ok (.pur p) s := (rfl)
theorem z_glb {x : Str} : evE Γ (.glb x) s = R.pure ((Γ.glb x).map D.pur) s := (rfl)

def kTup  : List D → S → R D := fun ds s => match purs ds with
    | some ps => if ps.length ≤ line then .ok (.pur (.tup ps)) s else .st
    | none => .st
theorem z_kTup  {ds : List D} {s : S} : kTup  ds s = match purs ds with
    | some ps => if ps.length ≤ line then .ok (.pur (.tup ps)) s else .st
    | none => .st := (rfl)
def kLst  : List D → S → R D := fun ds s => match purs ds with
    | some ps => if ps.length ≤ line then .ok (.pur (.lst ps)) s else .st
    | none => .st
theorem z_kLst  {ds : List D} {s : S} : kLst  ds s = match purs ds with
    | some ps => if ps.length ≤ line then .ok (.pur (.lst ps)) s else .st
    | none => .st := (rfl)
def kLstL  : List D → S → R D := fun ds s => match purs ds with
    | some ps => if ps.length ≤ line then .ok (.loc s.l.length) { s with l := s.l ++ [some ps] } else .st
    | none => .st
theorem z_kLstL  {ds : List D} {s : S} : kLstL  ds s = match purs ds with
    | some ps => if ps.length ≤ line then .ok (.loc s.l.length) { s with l := s.l ++ [some ps] } else .st
    | none => .st := (rfl)
def kLstC  : List D → S → R D := fun ds s => if noloc ds && decide (ds.length ≤ line) then .ok (.cel s.m.length) { s with m := s.m ++ [.lst ds] } else .st
theorem z_kLstC  {ds : List D} {s : S} : kLstC  ds s = if noloc ds && decide (ds.length ≤ line) then .ok (.cel s.m.length) { s with m := s.m ++ [.lst ds] } else .st := (rfl)
def kBin2 (o : Operator) (x : D) : D → S → R D := fun y s => R.pure ((binD s o x y).map D.pur) s
theorem z_kBin2 {o : Operator} {x : D} {y : D} {s : S} : kBin2 o x y s = R.pure ((binD s o x y).map D.pur) s := (rfl)
def kBin (Γ : Cfg) (o : Operator) (b : E) : D → S → R D := fun x s => (evE Γ b s).bind (kBin2 o x)
theorem z_kBin {Γ : Cfg} {o : Operator} {b : E} {x : D} {s : S} : kBin Γ o b x s = (evE Γ b s).bind (kBin2 o x) := (rfl)
def kNeg  : D → S → R D := fun x s => match x with
    | .pur (.int i) => .ok (.pur (.int (-i))) s
    | _ => .st
theorem z_kNeg  {x : D} {s : S} : kNeg  x s = match x with
    | .pur (.int i) => .ok (.pur (.int (-i))) s
    | _ => .st := (rfl)
def kCmp2 (o : CmpOp) (x : D) : D → S → R D := fun y s => R.pure ((cmpD o x y).map fun k => .pur (.bl k)) s
theorem z_kCmp2 {o : CmpOp} {x : D} {y : D} {s : S} : kCmp2 o x y s = R.pure ((cmpD o x y).map fun k => .pur (.bl k)) s := (rfl)
def kCmp (Γ : Cfg) (o : CmpOp) (b : E) : D → S → R D := fun x s => (evE Γ b s).bind (kCmp2 o x)
theorem z_kCmp {Γ : Cfg} {o : CmpOp} {b : E} {x : D} {s : S} : kCmp Γ o b x s = (evE Γ b s).bind (kCmp2 o x) := (rfl)
def kChn2 (Γ : Cfg) (o o2 : CmpOp) (c : E) (x : D) : D → S → R D := fun y s => match cmpD o x y with
    | some true => (evE Γ c s).bind (kCmp2 o2 y)
    | some false => .ok (.pur (.bl false)) s
    | none => .st
theorem z_kChn2 {Γ : Cfg} {o o2 : CmpOp} {c : E} {x : D} {y : D} {s : S} : kChn2 Γ o o2 c x y s = match cmpD o x y with
    | some true => (evE Γ c s).bind (kCmp2 o2 y)
    | some false => .ok (.pur (.bl false)) s
    | none => .st := (rfl)
def kChn (Γ : Cfg) (o o2 : CmpOp) (b c : E) : D → S → R D := fun x s => (evE Γ b s).bind (kChn2 Γ o o2 c x)
theorem z_kChn {Γ : Cfg} {o o2 : CmpOp} {b c : E} {x : D} {s : S} : kChn Γ o o2 b c x s = (evE Γ b s).bind (kChn2 Γ o o2 c x) := (rfl)
def kNot  : D → S → R D := fun x s => match x with
    | .pur (.bl k) => .ok (.pur (.bl (!k))) s
    | _ => .st
theorem z_kNot  {x : D} {s : S} : kNot  x s = match x with
    | .pur (.bl k) => .ok (.pur (.bl (!k))) s
    | _ => .st := (rfl)
def kIte (Γ : Cfg) (a b : E) : D → S → R D := fun x s => match x with
    | .pur (.bl true) => evE Γ a s
    | .pur (.bl false) => evE Γ b s
    | _ => .st
theorem z_kIte {Γ : Cfg} {a b : E} {x : D} {s : S} : kIte Γ a b x s = match x with
    | .pur (.bl true) => evE Γ a s
    | .pur (.bl false) => evE Γ b s
    | _ => .st := (rfl)
def kIdx2 (x : D) : D → S → R D := fun y s => R.pure (idxD s x y) s
theorem z_kIdx2 {x : D} {y : D} {s : S} : kIdx2 x y s = R.pure (idxD s x y) s := (rfl)
def kIdx (Γ : Cfg) (b : E) : D → S → R D := fun x s => (evE Γ b s).bind (kIdx2 x)
theorem z_kIdx {Γ : Cfg} {b : E} {x : D} {s : S} : kIdx Γ b x s = (evE Γ b s).bind (kIdx2 x) := (rfl)
def kSlc3 (x : D) (l : Option Int) : Option Int → S → R D := fun h s => match x with
    | .pur p => R.pure ((slcP p l h).map D.pur) s
    | _ => .st
theorem z_kSlc3 {x : D} {l : Option Int} {h : Option Int} {s : S} : kSlc3 x l h s = match x with
    | .pur p => R.pure ((slcP p l h).map D.pur) s
    | _ => .st := (rfl)
def kSlc2 (Γ : Cfg) (hi : Eo) (x : D) : Option Int → S → R D := fun l s => (evO Γ hi s).bind (kSlc3 x l)
theorem z_kSlc2 {Γ : Cfg} {hi : Eo} {x : D} {l : Option Int} {s : S} : kSlc2 Γ hi x l s = (evO Γ hi s).bind (kSlc3 x l) := (rfl)
def kSlc (Γ : Cfg) (lo hi : Eo) : D → S → R D := fun x s => (evO Γ lo s).bind (kSlc2 Γ hi x)
theorem z_kSlc {Γ : Cfg} {lo hi : Eo} {x : D} {s : S} : kSlc Γ lo hi x s = (evO Γ lo s).bind (kSlc2 Γ hi x) := (rfl)
def kSome  : D → S → R (Option Int) := fun d s => match d with
    | .pur (.int i) => .ok (some i) s
    | _ => .st
theorem z_kSome  {d : D} {s : S} : kSome  d s = match d with
    | .pur (.int i) => .ok (some i) s
    | _ => .st := (rfl)
def kRev  : D → S → R D := fun x s => match x with
    | .pur (.lst ps) => .ok (.pur (.lst ps.reverse)) s
    | .pur (.tup ps) => .ok (.pur (.tup ps.reverse)) s
    | _ => .st
theorem z_kRev  {x : D} {s : S} : kRev  x s = match x with
    | .pur (.lst ps) => .ok (.pur (.lst ps.reverse)) s
    | .pur (.tup ps) => .ok (.pur (.tup ps.reverse)) s
    | _ => .st := (rfl)
def kDsel2 (ks : List Str) (ds : List D) : D → S → R D := fun y s => match purs ds, y with
    | some ps, .pur p => R.pure ((dselP ks ps p).map D.pur) s
    | _, _ => .st
theorem z_kDsel2 {ks : List Str} {ds : List D} {y : D} {s : S} : kDsel2 ks ds y s = match purs ds, y with
    | some ps, .pur p => R.pure ((dselP ks ps p).map D.pur) s
    | _, _ => .st := (rfl)
def kDsel (Γ : Cfg) (ks : List Str) (k : E) : List D → S → R D := fun ds s => (evE Γ k s).bind (kDsel2 ks ds)
theorem z_kDsel {Γ : Cfg} {ks : List Str} {k : E} {ds : List D} {s : S} : kDsel Γ ks k ds s = (evE Γ k s).bind (kDsel2 ks ds) := (rfl)
def kIsi (t : Ty) : D → S → R D := fun x s => match x with
    | .pur p => R.pure ((isTy p t).map fun k => .pur (.bl k)) s
    | _ => .st
theorem z_kIsi {t : Ty} {x : D} {s : S} : kIsi t x s = match x with
    | .pur p => R.pure ((isTy p t).map fun k => .pur (.bl k)) s
    | _ => .st := (rfl)
def kIsT (ts : List Ty) : D → S → R D := fun x s => match x with
    | .pur p => R.pure ((isTys p ts).map fun k => .pur (.bl k)) s
    | _ => .st
theorem z_kIsT {ts : List Ty} {x : D} {s : S} : kIsT ts x s = match x with
    | .pur p => R.pure ((isTys p ts).map fun k => .pur (.bl k)) s
    | _ => .st := (rfl)
def kBif (f : B) : List D → S → R D := fun ds s => R.pure ((bifD s f ds).map D.pur) s
theorem z_kBif {f : B} {ds : List D} {s : S} : kBif f ds s = R.pure ((bifD s f ds).map D.pur) s := (rfl)
def kListC  : D → S → R D := fun x s => match x with
    | .pur (.lst ps) => .ok (.cel s.m.length) { s with m := s.m ++ [.lst (ps.map D.pur)] }
    | .pur (.sq ps) => .ok (.cel s.m.length) { s with m := s.m ++ [.lst (ps.map D.pur)] }
    | _ => .st
theorem z_kListC  {x : D} {s : S} : kListC  x s = match x with
    | .pur (.lst ps) => .ok (.cel s.m.length) { s with m := s.m ++ [.lst (ps.map D.pur)] }
    | .pur (.sq ps) => .ok (.cel s.m.length) { s with m := s.m ++ [.lst (ps.map D.pur)] }
    | _ => .st := (rfl)
def kLrg  : D → S → R D := fun x s => match x with
    | .pur (.int j) => if decide (-1000000 ≤ j) && decide (j ≤ 1000000) then .ok (.pur (.lst (rngP 0 j.toNat))) s else .st
    | _ => .st
theorem z_kLrg  {x : D} {s : S} : kLrg  x s = match x with
    | .pur (.int j) => if decide (-1000000 ≤ j) && decide (j ≤ 1000000) then .ok (.pur (.lst (rngP 0 j.toNat))) s else .st
    | _ => .st := (rfl)
theorem z_lrg : evE Γ (.lrg a) s = (evE Γ a s).bind kLrg := (rfl)
def kMth2 (m : M) (x : D) : List D → S → R D := fun ds s => mthD s x m ds
theorem z_kMth2 {m : M} {x : D} {ds : List D} {s : S} : kMth2 m x ds s = mthD s x m ds := (rfl)
def kMth (Γ : Cfg) (m : M) (es : Es) : D → S → R D := fun x s => if recv s x m then (evEs Γ es s).bind (kMth2 m x) else .st
theorem z_kMth {Γ : Cfg} {m : M} {es : Es} {x : D} {s : S} : kMth Γ m es x s = if recv s x m then (evEs Γ es s).bind (kMth2 m x) else .st := (rfl)
def kFld (Γ : Cfg) (f : Str) : D → S → R D := fun x s => R.pure (fldD Γ.fa s x f) s
theorem z_kFld {Γ : Cfg} {f : Str} {x : D} {s : S} : kFld Γ f x s = R.pure (fldD Γ.fa s x f) s := (rfl)
def kCall (Γ : Cfg) (f : Nat) : List D → S → R D := fun ds s => callF (Γ.fns f) ds s
theorem z_kCall {Γ : Cfg} {f : Nat} {ds : List D} {s : S} : kCall Γ f ds s = callF (Γ.fns f) ds s := (rfl)
def kCalp (Γ : Cfg) (f : Nat) : List D → S → R D := fun ds s => calpF (Γ.fns f) ds s
theorem z_kCalp {Γ : Cfg} {f : Nat} {ds : List D} {s : S} : kCalp Γ f ds s = calpF (Γ.fns f) ds s := (rfl)
def kMkf (Γ : Cfg) (c : Nat) : List D → S → R D := fun ds s => mkfF c (Γ.ini c) ds s
theorem z_kMkf {Γ : Cfg} {c : Nat} {ds : List D} {s : S} : kMkf Γ c ds s = mkfF c (Γ.ini c) ds s := (rfl)
def kLc (Γ : Cfg) (e : E) (t : T) (cond : Es) (own : List Nat) : List P → S → R D := fun items s => match compF t own s.r (evC Γ cond) (evE Γ e) items s with
    | .ok ps s1 => if ps.length ≤ line then .ok (.pur (.lst ps)) s1 else .st
    | _ => .st
theorem z_kLc {Γ : Cfg} {e : E} {t : T} {cond : Es} {own : List Nat} {items : List P} {s : S} : kLc Γ e t cond own items s = match compF t own s.r (evC Γ cond) (evE Γ e) items s with
    | .ok ps s1 => if ps.length ≤ line then .ok (.pur (.lst ps)) s1 else .st
    | _ => .st := (rfl)
theorem z_tup : evE Γ (.tup es) s = (evEs Γ es s).bind kTup := (rfl)
theorem z_lst : evE Γ (.lst es) s = (evEs Γ es s).bind kLst := (rfl)
theorem z_lstL : evE Γ (.lstL es) s = (evEs Γ es s).bind kLstL := (rfl)
theorem z_lstC : evE Γ (.lstC es) s = (evEs Γ es s).bind kLstC := (rfl)
theorem z_bin {o : Operator} : evE Γ (.bin o a b) s = (evE Γ a s).bind (kBin Γ o b) := (rfl)
theorem z_neg : evE Γ (.neg a) s = (evE Γ a s).bind kNeg := (rfl)
theorem z_cmp {o : CmpOp} : evE Γ (.cmp o a b) s = (evE Γ a s).bind (kCmp Γ o b) := (rfl)
theorem z_chn {o o2 : CmpOp} : evE Γ (.chn o o2 a b c) s = (evE Γ a s).bind (kChn Γ o o2 b c) := (rfl)
theorem z_bop {o : BoolOp} : evE Γ (.bop o es) s = evB Γ o es s := (rfl)
theorem z_not : evE Γ (.not a) s = (evE Γ a s).bind kNot := (rfl)
theorem z_ite : evE Γ (.ite c a b) s = (evE Γ c s).bind (kIte Γ a b) := (rfl)
theorem z_idx : evE Γ (.idx a b) s = (evE Γ a s).bind (kIdx Γ b) := (rfl)
theorem z_slc {lo hi : Eo} : evE Γ (.slc a lo hi) s = (evE Γ a s).bind (kSlc Γ lo hi) := (rfl)
theorem z_rev : evE Γ (.rev a) s = (evE Γ a s).bind kRev := (rfl)
theorem z_dsel {ks : List Str} : evE Γ (.dsel ks es a) s = (evEs Γ es s).bind (kDsel Γ ks a) := (rfl)
theorem z_isi {t : Ty} : evE Γ (.isi a t) s = (evE Γ a s).bind (kIsi t) := (rfl)
theorem z_isT {ts : List Ty} : evE Γ (.isT a ts) s = (evE Γ a s).bind (kIsT ts) := (rfl)
theorem z_bif {f : B} : evE Γ (.bif f es) s = (evEs Γ es s).bind (kBif f) := (rfl)
theorem z_listC : evE Γ (.listC a) s = (evE Γ a s).bind kListC := (rfl)
theorem z_mth {m : M} : evE Γ (.mth a m es) s = (evE Γ a s).bind (kMth Γ m es) := (rfl)
theorem z_fld {f : Str} : evE Γ (.fld a f) s = (evE Γ a s).bind (kFld Γ f) := (rfl)
theorem z_call {f : Nat} : evE Γ (.call f es) s = (evEs Γ es s).bind (kCall Γ f) := (rfl)
theorem z_calp {f : Nat} : evE Γ (.calp f es) s = (evEs Γ es s).bind (kCalp Γ f) := (rfl)
theorem z_mkf {f : Nat} : evE Γ (.mkf f es) s = (evEs Γ es s).bind (kMkf Γ f) := (rfl)
theorem z_lc {e : E} {t : T} {it : I} {cond : Es} {own : List Nat} : evE Γ (.lc e t it cond own) s = (evI Γ it s).bind (kLc Γ e t cond own) := (rfl)
theorem z_frz {i : Nat} : evE Γ (.frz i) s = match s.r[i]? with
    | some (some (.loc k)) => (match s.l[k]? with
      | some (some ps) => .ok (.pur (.lst ps)) { s with l := s.l.set k none, r := s.r.set i (some (.pur (.lst ps))) }
      | _ => .st)
    | some (some (.pur p)) => .ok (.pur p) s
    | _ => .st := (rfl)
theorem z_nil : evEs Γ .nil s = .ok [] s := (rfl)
def kCons2 (d : D) : List D → S → R (List D) := fun ds s => .ok (d :: ds) s
theorem z_kCons2 {d : D} {ds : List D} {s : S} : kCons2 d ds s = .ok (d :: ds) s := (rfl)
def kCons (Γ : Cfg) (es : Es) : D → S → R (List D) := fun d s => (evEs Γ es s).bind (kCons2 d)
theorem z_kCons {Γ : Cfg} {es : Es} {d : D} {s : S} : kCons Γ es d s = (evEs Γ es s).bind (kCons2 d) := (rfl)
def kStar2 (ps : List P) : List D → S → R (List D) := fun ds s => .ok (ps.map D.pur ++ ds) s
theorem z_kStar2 {ps : List P} {ds : List D} {s : S} : kStar2 ps ds s = .ok (ps.map D.pur ++ ds) s := (rfl)
def kStar (Γ : Cfg) (es : Es) : D → S → R (List D) := fun d s => match d with
    | .pur (.lst ps) => (evEs Γ es s).bind (kStar2 ps)
    | .pur (.tup ps) => (evEs Γ es s).bind (kStar2 ps)
    | _ => .st
theorem z_kStar {Γ : Cfg} {es : Es} {d : D} {s : S} : kStar Γ es d s = match d with
    | .pur (.lst ps) => (evEs Γ es s).bind (kStar2 ps)
    | .pur (.tup ps) => (evEs Γ es s).bind (kStar2 ps)
    | _ => .st := (rfl)
def kB (Γ : Cfg) (o : BoolOp) (es : Es) : D → S → R D := fun d s => match o, d with
    | .And, .pur (.bl true) => evB Γ o es s
    | .And, .pur (.bl false) => .ok (.pur (.bl false)) s
    | .Or, .pur (.bl false) => evB Γ o es s
    | .Or, .pur (.bl true) => .ok (.pur (.bl true)) s
    | _, _ => .st
theorem z_kB {Γ : Cfg} {o : BoolOp} {es : Es} {d : D} {s : S} : kB Γ o es d s = match o, d with
    | .And, .pur (.bl true) => evB Γ o es s
    | .And, .pur (.bl false) => .ok (.pur (.bl false)) s
    | .Or, .pur (.bl false) => evB Γ o es s
    | .Or, .pur (.bl true) => .ok (.pur (.bl true)) s
    | _, _ => .st := (rfl)
theorem z_cons {e : E} : evEs Γ (.cons e es) s = (evE Γ e s).bind (kCons Γ es) := (rfl)
theorem z_star {e : E} : evEs Γ (.star e es) s = (evE Γ e s).bind (kStar Γ es) := (rfl)
theorem z_b1 {o : BoolOp} {e : E} : evB Γ o (.cons e .nil) s = evE Γ e s := (rfl)
theorem z_b2 {o : BoolOp} {e e2 : E} : evB Γ o (.cons e (.cons e2 es)) s = (evE Γ e s).bind (kB Γ o (.cons e2 es)) := (rfl)
theorem z_o0 : evO Γ .none s = .ok none s := (rfl)
theorem z_o1 {e : E} : evO Γ (.some e) s = (evE Γ e s).bind kSome := (rfl)
def kSeq  : D → S → R (List P) := fun d s => match d with
    | .pur p => R.pure (seqP p) s
    | _ => .st
theorem z_kSeq  {d : D} {s : S} : kSeq  d s = match d with
    | .pur p => R.pure (seqP p) s
    | _ => .st := (rfl)
def kEnu  : D → S → R (List P) := fun d s => match d with
    | .pur p => R.pure ((seqP p).map (enuP 0)) s
    | _ => .st
theorem z_kEnu  {d : D} {s : S} : kEnu  d s = match d with
    | .pur p => R.pure ((seqP p).map (enuP 0)) s
    | _ => .st := (rfl)
def kRng1  : D → S → R (List P) := fun d s => match d with
    | .pur (.int j) => if decide (-p62 ≤ j) && decide (j < p62) then .ok (rngP 0 j.toNat) s else .st
    | _ => .st
theorem z_kRng1  {d : D} {s : S} : kRng1  d s = match d with
    | .pur (.int j) => if decide (-p62 ≤ j) && decide (j < p62) then .ok (rngP 0 j.toNat) s else .st
    | _ => .st := (rfl)
def kRng3 (d : D) : D → S → R (List P) := fun d2 s => match d, d2 with
    | .pur (.int i), .pur (.int j) => .ok (rngP i (j - i).toNat) s
    | _, _ => .st
theorem z_kRng3 {d : D} {d2 : D} {s : S} : kRng3 d d2 s = match d, d2 with
    | .pur (.int i), .pur (.int j) => .ok (rngP i (j - i).toNat) s
    | _, _ => .st := (rfl)
def kRng2 (Γ : Cfg) (b : E) : D → S → R (List P) := fun d s => (evE Γ b s).bind (kRng3 d)
theorem z_kRng2 {Γ : Cfg} {b : E} {d : D} {s : S} : kRng2 Γ b d s = (evE Γ b s).bind (kRng3 d) := (rfl)
def kC  : D → S → R Bool := fun d s => match d with
    | .pur (.bl k) => .ok k s
    | _ => .st
theorem z_kC  {d : D} {s : S} : kC  d s = match d with
    | .pur (.bl k) => .ok k s
    | _ => .st := (rfl)
theorem z_seq : evI Γ (.seq a) s = (evE Γ a s).bind kSeq := (rfl)
theorem z_enu : evI Γ (.enu a) s = (evE Γ a s).bind kEnu := (rfl)
theorem z_rng1 : evI Γ (.rng1 a) s = (evE Γ a s).bind kRng1 := (rfl)
theorem z_rng2 : evI Γ (.rng2 a b) s = (evE Γ a s).bind (kRng2 Γ b) := (rfl)
theorem z_c0 : evC Γ .nil s = .ok true s := (rfl)
theorem z_c1 {e : E} : evC Γ (.cons e .nil) s = (evE Γ e s).bind kC := (rfl)
def kAsg (i : Nat) : D → S → R Fl := fun d s => .ok .nx { s with r := s.r.set i (some d) }
theorem z_kAsg {i : Nat} {d : D} {s : S} : kAsg i d s = .ok .nx { s with r := s.r.set i (some d) } := (rfl)
def kUnp (is : List Nat) : D → S → R Fl := fun d s => match d with
    | .pur (.tup ps) => (match setN s.r is (ps.map D.pur) with
      | some r => .ok .nx { s with r := r }
      | none => .st)
    | .pur (.lst ps) => (match setN s.r is (ps.map D.pur) with
      | some r => .ok .nx { s with r := r }
      | none => .st)
    | _ => .st
theorem z_kUnp {is : List Nat} {d : D} {s : S} : kUnp is d s = match d with
    | .pur (.tup ps) => (match setN s.r is (ps.map D.pur) with
      | some r => .ok .nx { s with r := r }
      | none => .st)
    | .pur (.lst ps) => (match setN s.r is (ps.map D.pur) with
      | some r => .ok .nx { s with r := r }
      | none => .st)
    | _ => .st := (rfl)
def kPar (is : List Nat) : List D → S → R Fl := fun ds s => match setN s.r is ds with
    | some r => .ok .nx { s with r := r }
    | none => .st
theorem z_kPar {is : List Nat} {ds : List D} {s : S} : kPar is ds s = match setN s.r is ds with
    | some r => .ok .nx { s with r := r }
    | none => .st := (rfl)
def kSto26 (v : D) (x : D) : D → S → R Fl := fun y s => match stoD s x y v with
        | some s => .ok .nx s
        | none => .st
theorem z_kSto26 {v x y : D} {s : S} : kSto26 v x y s = match stoD s x y v with
        | some s => .ok .nx s
        | none => .st := (rfl)
def kSto25 (Γ : Cfg) (i2 : E) (v : D) : D → S → R Fl := fun x s => (evE Γ i2 s).bind (kSto26 v x)
theorem z_kSto25 {Γ : Cfg} {i2 : E} {v x : D} {s : S} : kSto25 Γ i2 v x s = (evE Γ i2 s).bind (kSto26 v x) := (rfl)
def kSto24 (Γ : Cfg) (o2 i2 : E) (v1 v2 x : D) : D → S → R Fl := fun y s => match stoD s x y v1 with
      | some s => (evE Γ o2 s).bind (kSto25 Γ i2 v2)
      | none => .st
theorem z_kSto24 {Γ : Cfg} {o2 i2 : E} {v1 v2 x y : D} {s : S} : kSto24 Γ o2 i2 v1 v2 x y s = match stoD s x y v1 with
      | some s => (evE Γ o2 s).bind (kSto25 Γ i2 v2)
      | none => .st := (rfl)
def kSto23 (Γ : Cfg) (i1 o2 i2 : E) (v1 v2 : D) : D → S → R Fl := fun x s => (evE Γ i1 s).bind (kSto24 Γ o2 i2 v1 v2 x)
theorem z_kSto23 {Γ : Cfg} {i1 o2 i2 : E} {v1 v2 x : D} {s : S} : kSto23 Γ i1 o2 i2 v1 v2 x s = (evE Γ i1 s).bind (kSto24 Γ o2 i2 v1 v2 x) := (rfl)
def kSto22 (Γ : Cfg) (o1 i1 o2 i2 : E) : List D → S → R Fl := fun ds s => match ds with
    | [v1, v2] => (evE Γ o1 s).bind (kSto23 Γ i1 o2 i2 v1 v2)
    | _ => .st
theorem z_kSto22 {Γ : Cfg} {o1 i1 o2 i2 : E} {ds : List D} {s : S} : kSto22 Γ o1 i1 o2 i2 ds s = match ds with
    | [v1, v2] => (evE Γ o1 s).bind (kSto23 Γ i1 o2 i2 v1 v2)
    | _ => .st := (rfl)
theorem z_sto2 {o1 i1 o2 i2 : E} : exS Γ (.sto2 o1 i1 o2 i2 es) s = (evEs Γ es s).bind (kSto22 Γ o1 i1 o2 i2) := (rfl)
def kSto3 (v x : D) : D → S → R Fl := fun y s => match stoD s x y v with
    | some s => .ok .nx s
    | none => .st
theorem z_kSto3 {v x : D} {y : D} {s : S} : kSto3 v x y s = match stoD s x y v with
    | some s => .ok .nx s
    | none => .st := (rfl)
def kSto2 (Γ : Cfg) (i : E) (v : D) : D → S → R Fl := fun x s => (evE Γ i s).bind (kSto3 v x)
theorem z_kSto2 {Γ : Cfg} {i : E} {v : D} {x : D} {s : S} : kSto2 Γ i v x s = (evE Γ i s).bind (kSto3 v x) := (rfl)
def kSto (Γ : Cfg) (o i : E) : D → S → R Fl := fun v s => (evE Γ o s).bind (kSto2 Γ i v)
theorem z_kSto {Γ : Cfg} {o i : E} {v : D} {s : S} : kSto Γ o i v s = (evE Γ o s).bind (kSto2 Γ i v) := (rfl)
def kAugs3 (op : Operator) (x y : D) (p : P) : D → S → R Fl := fun v s => match v with
    | .pur q => (match augP op p q with
      | some z => (match stoD s x y (.pur z) with
        | some s => .ok .nx s
        | none => .st)
      | none => .st)
    | _ => .st
theorem z_kAugs3 {op : Operator} {x y : D} {p : P} {v : D} {s : S} : kAugs3 op x y p v s = match v with
    | .pur q => (match augP op p q with
      | some z => (match stoD s x y (.pur z) with
        | some s => .ok .nx s
        | none => .st)
      | none => .st)
    | _ => .st := (rfl)
def kAugs2 (Γ : Cfg) (op : Operator) (e : E) (x : D) : D → S → R Fl := fun y s => match idxM s x y with
    | some (.pur p) => (evE Γ e s).bind (kAugs3 op x y p)
    | _ => .st
theorem z_kAugs2 {Γ : Cfg} {op : Operator} {e : E} {x : D} {y : D} {s : S} : kAugs2 Γ op e x y s = match idxM s x y with
    | some (.pur p) => (evE Γ e s).bind (kAugs3 op x y p)
    | _ => .st := (rfl)
def kAugs (Γ : Cfg) (op : Operator) (i e : E) : D → S → R Fl := fun x s => (evE Γ i s).bind (kAugs2 Γ op e x)
theorem z_kAugs {Γ : Cfg} {op : Operator} {i e : E} {x : D} {s : S} : kAugs Γ op i e x s = (evE Γ i s).bind (kAugs2 Γ op e x) := (rfl)
def kAug (op : Operator) (i : Nat) (p : P) : D → S → R Fl := fun v s => match v with
    | .pur q => (match augP op p q with
      | some z => .ok .nx { s with r := s.r.set i (some (.pur z)) }
      | none => .st)
    | _ => .st
theorem z_kAug {op : Operator} {i : Nat} {p : P} {v : D} {s : S} : kAug op i p v s = match v with
    | .pur q => (match augP op p q with
      | some z => .ok .nx { s with r := s.r.set i (some (.pur z)) }
      | none => .st)
    | _ => .st := (rfl)
def kStf2 (Γ : Cfg) (f : Str) (v : D) : D → S → R Fl := fun x s => match x with
    | .cel k => (match s.m[k]?, noloc [v] with
      | some (.ins c fs), true => if Γ.fa c f && decide (fs.length < 900) then .ok .nx { s with m := s.m.set k (.ins c (putFs f v fs)) } else .st
      | _, _ => .st)
    | _ => .st
theorem z_kStf2 {Γ : Cfg} {f : Str} {v : D} {x : D} {s : S} : kStf2 Γ f v x s = match x with
    | .cel k => (match s.m[k]?, noloc [v] with
      | some (.ins c fs), true => if Γ.fa c f && decide (fs.length < 900) then .ok .nx { s with m := s.m.set k (.ins c (putFs f v fs)) } else .st
      | _, _ => .st)
    | _ => .st := (rfl)
def kStf (Γ : Cfg) (o : E) (f : Str) : D → S → R Fl := fun v s => (evE Γ o s).bind (kStf2 Γ f v)
theorem z_kStf {Γ : Cfg} {o : E} {f : Str} {v : D} {s : S} : kStf Γ o f v s = (evE Γ o s).bind (kStf2 Γ f v) := (rfl)
def kExp  : D → S → R Fl := fun d s => .ok .nx s
theorem z_kExp  {d : D} {s : S} : kExp  d s = .ok .nx s := (rfl)
def kRet  : D → S → R Fl := fun d s => .ok (.rt d) s
theorem z_kRet  {d : D} {s : S} : kRet  d s = .ok (.rt d) s := (rfl)
def kIfs (Γ : Cfg) (p q : Stms) : D → S → R Fl := fun d s => match d with
    | .pur (.bl true) => exSs Γ p s
    | .pur (.bl false) => exSs Γ q s
    | _ => .st
theorem z_kIfs {Γ : Cfg} {p q : Stms} {d : D} {s : S} : kIfs Γ p q d s = match d with
    | .pur (.bl true) => exSs Γ p s
    | .pur (.bl false) => exSs Γ q s
    | _ => .st := (rfl)
def kFor (Γ : Cfg) (t : T) (b : Stms) : List P → S → R Fl := fun items s => forF t (exSs Γ b) items s
theorem z_kFor {Γ : Cfg} {t : T} {b : Stms} {items : List P} {s : S} : kFor Γ t b items s = forF t (exSs Γ b) items s := (rfl)
def kS (Γ : Cfg) (r : Stms) : Fl → S → R Fl := fun f s => match f with
    | .nx => exSs Γ r s
    | .rt d => .ok (.rt d) s
    | .bk => .ok .bk s
    | .ct => .ok .ct s
theorem z_kS {Γ : Cfg} {r : Stms} {f : Fl} {s : S} : kS Γ r f s = match f with
    | .nx => exSs Γ r s
    | .rt d => .ok (.rt d) s
    | .bk => .ok .bk s
    | .ct => .ok .ct s := (rfl)
theorem z_asg {i : Nat} : exS Γ (.asg i a) s = (evE Γ a s).bind (kAsg i) := (rfl)
theorem z_unp {is : List Nat} : exS Γ (.unp is a) s = (evE Γ a s).bind (kUnp is) := (rfl)
theorem z_par {is : List Nat} : exS Γ (.par is es) s = (evEs Γ es s).bind (kPar is) := (rfl)
theorem z_sto {o i e : E} : exS Γ (.sto o i e) s = (evE Γ e s).bind (kSto Γ o i) := (rfl)
theorem z_augs {op : Operator} {o i e : E} : exS Γ (.augs op o i e) s = (evE Γ o s).bind (kAugs Γ op i e) := (rfl)
theorem z_aug {op : Operator} {i : Nat} : exS Γ (.aug op i a) s = match s.r[i]? with
    | some (some (.pur p)) => (evE Γ a s).bind (kAug op i p)
    | _ => .st := (rfl)
theorem z_stf {o : E} {f : Str} : exS Γ (.stf o f a) s = (evE Γ a s).bind (kStf Γ o f) := (rfl)
theorem z_exp : exS Γ (.exp a) s = (evE Γ a s).bind kExp := (rfl)
theorem z_ret : exS Γ (.ret a) s = (evE Γ a s).bind kRet := (rfl)
theorem z_ret0 : exS Γ .ret0 s = .ok (.rt (.pur .non)) s := (rfl)
theorem z_ifs {p q : Stms} : exS Γ (.ifs a p q) s = (evE Γ a s).bind (kIfs Γ p q) := (rfl)
theorem z_forr {t : T} {it : I} {b : Stms} : exS Γ (.forr t it b) s = (evI Γ it s).bind (kFor Γ t b) := (rfl)
theorem z_whil {b : Stms} : exS Γ (.whil a b) s = whileF (evE Γ a) (exSs Γ b) Γ.fuel s := (rfl)
theorem z_pas : exS Γ .pas s = .ok .nx s := (rfl)
theorem z_brk : exS Γ .brk s = .ok .bk s := (rfl)
theorem z_con : exS Γ .con s = .ok .ct s := (rfl)
theorem z_snil : exSs Γ .nil s = .ok .nx s := (rfl)
theorem z_scons {x : Stm} {r : Stms} : exSs Γ (.cons x r) s = (exS Γ x s).bind (kS Γ r) := (rfl)
/-! calls and defs: what a callee gives stands behind a name, so that nothing runs it -/
def callG (r : RF) (s : S) : R D := match r with
  | .st => .st
  | .ok d m => .ok d { s with m := m }
  | .ex x m => .ex x { s with m := m }
def callH (b : Bool) (r : RF) (s : S) : R D := if b then callG r s else .st
theorem z_callU {F : Fn} {ds : List D} {s : S} : callF F ds s = callH (noloc ds) (F ds s.m) s := (rfl)
theorem z_callH {r : RF} {s : S} : callH true r s = callG r s := (rfl)
theorem z_callG {d : D} {m : List Cell} {s : S} : callG (.ok d m) s = .ok d { s with m := m } := (rfl)
theorem z_callX {x : Exc} {m : List Cell} {s : S} : callG (.ex x m) s = .ex x { s with m := m } := (rfl)
def calpG (r : RF) (s : S) : R D := match r with
  | .ok (.pur p) _ => .ok (.pur p) s
  | .ex x _ => .ex x s
  | _ => .st
def calpH (o : Option (List P)) (r : RF) (s : S) : R D := match o with
  | none => .st
  | some _ => calpG r s
theorem z_calpU {F : Fn} {ds : List D} {s : S} : calpF F ds s = calpH (purs ds) (F ds []) s := (rfl)
theorem z_calpH {ps : List P} {r : RF} {s : S} : calpH (some ps) r s = calpG r s := (rfl)
theorem z_calpG {p : P} {m : List Cell} {s : S} : calpG (.ok (.pur p) m) s = .ok (.pur p) s := (rfl)
theorem z_calpX {x : Exc} {m : List Cell} {s : S} : calpG (.ex x m) s = .ex x s := (rfl)
def runG (r : R Fl) : RF := match r with
  | .ok (.rt (.pur p)) s => .ok (.pur p) s.m
  | .ok (.rt (.cel k)) s => .ok (.cel k) s.m
  | .ok .nx s => .ok (.pur .non) s.m
  | .ex x s => .ex x s.m
  | _ => .st
theorem z_runU {Γ : Cfg} {np n : Nat} {b : Stms} {ds : List D} {m : List Cell} : runDef Γ np n b ds m = if ds.length = np then runG (exSs Γ b { r := ds.map some ++ List.replicate (n - ds.length) none, m := m, l := [] }) else .st := (rfl)
theorem z_run1 {p : P} {s : S} : runG (.ok (.rt (.pur p)) s) = .ok (.pur p) s.m := (rfl)
theorem z_run2 {k : Nat} {s : S} : runG (.ok (.rt (.cel k)) s) = .ok (.cel k) s.m := (rfl)
theorem z_run3 {s : S} : runG (.ok .nx s) = .ok (.pur .non) s.m := (rfl)
theorem z_run4 {x : Exc} {s : S} : runG (.ex x s) = .ex x s.m := (rfl)
theorem z_dat {x q : Str} {st : Stmt} {N ps : List Str} {b : Stms} {Γ : Cfg} : Dat.run ⟨x, q, st, N, ps, b⟩ Γ = runDef Γ ps.length N.length b := (rfl)
/-! by values -/
theorem z_atP {α : Type} {xs : List α} {i : Nat} {v : α} (h : xs[i]? = some v) : atP xs (i : Int) = some v := by
  have hi := (List.getElem?_eq_some_iff.mp h).1
  unfold atP ixOf
  rw [if_pos (by omega), if_pos (by omega)]
  simpa using h
theorem z_at0 {α : Type} {x : α} {xs : List α} : atP (x :: xs) 0 = some x := z_atP (i := 0) rfl
theorem z_at1 {α : Type} {x y : α} {xs : List α} : atP (x :: y :: xs) 1 = some y := z_atP (i := 1) rfl
theorem z_at2 {α : Type} {x y z : α} {xs : List α} : atP (x :: y :: z :: xs) 2 = some z := z_atP (i := 2) rfl
theorem z_at3 {α : Type} {x y z u : α} {xs : List α} : atP (x :: y :: z :: u :: xs) 3 = some u := z_atP (i := 3) rfl
theorem z_at4 {α : Type} {x y z u v : α} {xs : List α} : atP (x :: y :: z :: u :: v :: xs) 4 = some v := z_atP (i := 4) rfl
theorem z_at5 {α : Type} {x y z u v w : α} {xs : List α} : atP (x :: y :: z :: u :: v :: w :: xs) 5 = some w := z_atP (i := 5) rfl
theorem z_ixT {ps : List P} {i : Int} : idxD s (.pur (.tup ps)) (.pur (.int i)) = (atP ps i).map D.pur := (rfl)
theorem z_ixL {ps : List P} {i : Int} : idxD s (.pur (.lst ps)) (.pur (.int i)) = (atP ps i).map D.pur := (rfl)
theorem z_pp {o : Operator} {p q : P} : binD s o (.pur p) (.pur q) = binP o p q := (rfl)
theorem z_add {i j : Int} : binP .Add (.int i) (.int j) = some (.int (i + j)) := (rfl)
theorem z_sub {i j : Int} : binP .Sub (.int i) (.int j) = some (.int (i - j)) := (rfl)
theorem z_mul {i j : Int} (h : mulOK i j = true) : binP .Mult (.int i) (.int j) = some (.int (i * j)) := by
  show (if mulOK i j then _ else _) = _
  rw [if_pos h]
theorem mulL {i j : Int} (h1 : -1000000000000000000 < i) (h2 : i < 1000000000000000000) : mulOK i j = true := by
  unfold mulOK p64
  rw [decide_eq_true (by omega : -(18446744073709551616 : Int) < i), decide_eq_true (by omega : i < 18446744073709551616)]
  rfl
theorem mulR {i j : Int} (h1 : -1000000000000000000 < j) (h2 : j < 1000000000000000000) : mulOK i j = true := by
  unfold mulOK p64
  rw [decide_eq_true (by omega : -(18446744073709551616 : Int) < j), decide_eq_true (by omega : j < 18446744073709551616)]
  simp
theorem z_mulS {x : Str} {k : Int} (h1 : 0 ≤ k) (h2 : k ≤ 1000) (h3 : x.length ≤ 1000) : binP .Mult (.str x) (.int k) = some (.str (Txt.mul x k)) := by
  show (if decide (0 ≤ k) && decide (k ≤ 1000) && decide (x.length ≤ 1000) then _ else _) = _
  rw [decide_eq_true h1, decide_eq_true h2, decide_eq_true h3]
  rfl
theorem z_mulT {x : P} {xs : List P} {k : Int} (h1 : 2 ≤ k) (h2 : k ≤ 1000) (h3 : (x :: xs).length ≤ 1000) : binP .Mult (.tup (x :: xs)) (.int k) = some (.tup (List.replicate k.toNat (x :: xs)).flatten) := by
  show (if !(x :: xs).isEmpty && decide (2 ≤ k) && decide (k ≤ 1000) && decide ((x :: xs).length ≤ 1000) then _ else _) = _
  rw [decide_eq_true h1, decide_eq_true h2, decide_eq_true h3]
  rfl
theorem z_mulL {xs : List P} {k : Int} (h1 : 0 ≤ k) (h2 : k ≤ 1000) (h3 : xs.length * k.toNat ≤ line) : binP .Mult (.lst xs) (.int k) = some (.lst (List.replicate k.toNat xs).flatten) := by
  show (if decide (0 ≤ k) && decide (k ≤ 1000) && decide (xs.length * k.toNat ≤ line) then _ else _) = _
  rw [decide_eq_true h1, decide_eq_true h2, decide_eq_true h3]
  rfl
theorem z_mod {i j : Int} (h : 0 < j) : binP .Mod (.int i) (.int j) = some (.int (i % j)) := by
  show (if 0 < j then _ else _) = _
  rw [if_pos h]
theorem z_div {i j : Int} (h : 0 < j) (h2 : j < 1000000000000000000) : binP .FloorDiv (.int i) (.int j) = some (.int (i / j)) := by
  show (if decide (0 < j) && decide (j < p64) then _ else _) = _
  unfold p64
  rw [decide_eq_true h, decide_eq_true (by omega : j < 18446744073709551616)]
  rfl
theorem z_lt {i j : Int} : cmpD .Lt (.pur (.int i)) (.pur (.int j)) = some (decide (i < j)) := (rfl)
theorem z_le {i j : Int} : cmpD .LtE (.pur (.int i)) (.pur (.int j)) = some (decide (i ≤ j)) := (rfl)
theorem z_gt {i j : Int} : cmpD .Gt (.pur (.int i)) (.pur (.int j)) = some (decide (j < i)) := (rfl)
theorem z_ge {i j : Int} : cmpD .GtE (.pur (.int i)) (.pur (.int j)) = some (decide (j ≤ i)) := (rfl)
theorem z_eqI {i j : Int} : cmpD .Eq (.pur (.int i)) (.pur (.int j)) = some (decide (i = j)) := by
  show some (i == j) = _
  exact congrArg some (by by_cases h : i = j <;> simp [h])
theorem z_neI {i j : Int} : cmpD .NotEq (.pur (.int i)) (.pur (.int j)) = some (!decide (i = j)) := by
  show some (!(i == j)) = _
  exact congrArg (fun b => some (!b)) (by by_cases h : i = j <;> simp [h])
theorem z_eqS {i j : Str} : cmpD .Eq (.pur (.str i)) (.pur (.str j)) = some (i == j) := (rfl)
theorem z_isN {d : D} : cmpD .Is d (.pur .non) = some (isNon d) := (rfl)
theorem z_isnN {d : D} : cmpD .IsNot d (.pur .non) = some (!isNon d) := (rfl)
theorem z_calpF {F : Fn} {ps : List P} {p : P} {m : List Cell} {s : S} (h : F (ps.map D.pur) [] = .ok (.pur p) m) : calpF F (ps.map D.pur) s = .ok (.pur p) s := by
  unfold calpF
  have : ∀ ps : List P, purs (ps.map D.pur) = some ps := fun ps => by
    induction ps with
    | nil => rfl
    | cons p ps ih => simp [purs, ih]
  rw [this, h]
end
/-! methods, properties, own operators -/
def methH (b : Bool) (r : R D) : R D := if b then r else .st
theorem z_methH {r : R D} : methH true r = r := (rfl)
def kMeth2 (Γ : Cfg) (i : Nat) (x : D) : List D → S → R D := fun ds s => calmF (Γ.mts i) x ds s
theorem z_kMeth2 {Γ : Cfg} {i : Nat} {x : D} {ds : List D} {s : S} : kMeth2 Γ i x ds s = calmF (Γ.mts i) x ds s := (rfl)
def kMeth (Γ : Cfg) (c : Nat) (m : Str) (i : Nat) (es : Es) : D → S → R D := fun x s => methH (isRec s c m x) ((evEs Γ es s).bind (kMeth2 Γ i x))
theorem z_kMeth {Γ : Cfg} {c i : Nat} {m : Str} {es : Es} {x : D} {s : S} : kMeth Γ c m i es x s = methH (isRec s c m x) ((evEs Γ es s).bind (kMeth2 Γ i x)) := (rfl)
theorem z_meth {Γ : Cfg} {c i : Nat} {m : Str} {a : E} {es : Es} {s : S} : evE Γ (.meth c m i a es) s = (evE Γ a s).bind (kMeth Γ c m i es) := (rfl)
theorem z_recP {s : S} {c c' : Nat} {m : Str} {ns : List Str} {ps : List P} : isRec s c m (.pur (.obj c' ns ps)) = (c' == c && !ns.contains m) := (rfl)
theorem z_calmP {F : Fn} {p : P} {ds : List D} {s : S} : calmF F (.pur p) ds s = calpF F (.pur p :: ds) s := (rfl)
theorem z_calmC {F : Fn} {k : Nat} {ds : List D} {s : S} : calmF F (.cel k) ds s = callF F (.cel k :: ds) s := (rfl)
def prpG (r : RF) (s : S) : R D := match r with
  | .ok (.pur p) [] => .ok (.pur p) s
  | _ => .st
theorem z_prpG {p : P} {s : S} : prpG (.ok (.pur p) []) s = .ok (.pur p) s := (rfl)
theorem z_prpP {F : Fn} {p : P} {s : S} : prpF F (.pur p) s = prpG (F [.pur p] []) s := (rfl)
def kProp (Γ : Cfg) (c i : Nat) : D → S → R D := fun x s => methH (isObj s c x) (prpF (Γ.prs i) x s)
theorem z_kProp {Γ : Cfg} {c i : Nat} {x : D} {s : S} : kProp Γ c i x s = methH (isObj s c x) (prpF (Γ.prs i) x s) := (rfl)
theorem z_prop {Γ : Cfg} {c i : Nat} {m : Str} {a : E} {s : S} : evE Γ (.prop c m i a) s = (evE Γ a s).bind (kProp Γ c i) := (rfl)
theorem z_objP {s : S} {c c' : Nat} {ns : List Str} {ps : List P} : isObj s c (.pur (.obj c' ns ps)) = (c' == c) := (rfl)
def kOwn2 (Γ : Cfg) (c i : Nat) (x : D) : D → S → R D := fun y s => ownF (Γ.mts i) c x y s
theorem z_kOwn2 {Γ : Cfg} {c i : Nat} {x y : D} {s : S} : kOwn2 Γ c i x y s = ownF (Γ.mts i) c x y s := (rfl)
def kOwn (Γ : Cfg) (c i : Nat) (b : E) : D → S → R D := fun x s => (evE Γ b s).bind (kOwn2 Γ c i x)
theorem z_kOwn {Γ : Cfg} {c i : Nat} {b : E} {x : D} {s : S} : kOwn Γ c i b x s = (evE Γ b s).bind (kOwn2 Γ c i x) := (rfl)
def kOwnC2 (Γ : Cfg) (c i : Nat) (x : D) : D → S → R D := fun y s => ownC (Γ.mts i) c x y s
theorem z_kOwnC2 {Γ : Cfg} {c i : Nat} {x y : D} {s : S} : kOwnC2 Γ c i x y s = ownC (Γ.mts i) c x y s := (rfl)
def kOwnC (Γ : Cfg) (c i : Nat) (b : E) : D → S → R D := fun x s => (evE Γ b s).bind (kOwnC2 Γ c i x)
theorem z_kOwnC {Γ : Cfg} {c i : Nat} {b : E} {x : D} {s : S} : kOwnC Γ c i b x s = (evE Γ b s).bind (kOwnC2 Γ c i x) := (rfl)
theorem z_opc {Γ : Cfg} {o : CmpOp} {c i : Nat} {a b : E} {s : S} : evE Γ (.opc o c i a b) s = (evE Γ a s).bind (kOwnC Γ c i b) := (rfl)
theorem z_opb {Γ : Cfg} {o : Operator} {c i : Nat} {a b : E} {s : S} : evE Γ (.opb o c i a b) s = (evE Γ a s).bind (kOwn Γ c i b) := (rfl)
theorem z_own {F : Fn} {c c1 c2 : Nat} {n1 n2 : List Str} {p1 p2 : List P} {s : S} : ownF F c (.pur (.obj c1 n1 p1)) (.pur (.obj c2 n2 p2)) s = methH (c1 == c && c2 == c) (calpF F [.pur (.obj c1 n1 p1), .pur (.obj c2 n2 p2)] s) := (rfl)
theorem z_ownP {p : P} {s : S} : ownRes (.ok (.pur p) []) s = .ok (.pur p) s := (rfl)
theorem z_ownC {F : Fn} {c c1 c2 : Nat} {n1 n2 : List Str} {p1 p2 : List P} {s : S} : ownC F c (.pur (.obj c1 n1 p1)) (.pur (.obj c2 n2 p2)) s = methH (c1 == c && c2 == c) (ownRes (F [.pur (.obj c1 n1 p1), .pur (.obj c2 n2 p2)] []) s) := (rfl)
theorem z_ownT {F : Fn} {c c1 : Nat} {n1 : List Str} {p1 p2 : List P} {s : S} : ownC F c (.pur (.obj c1 n1 p1)) (.pur (.tup p2)) s = methH (c1 == c) (ownRes (F [.pur (.obj c1 n1 p1), .pur (.tup p2)] []) s) := (rfl)
def kLenO (Γ : Cfg) (c i : Nat) : D → S → R D := fun x s => lenF (Γ.mts i) c x s
theorem z_kLenO {Γ : Cfg} {c i c1 : Nat} {n1 : List Str} {p1 : List P} {s : S} : kLenO Γ c i (.pur (.obj c1 n1 p1)) s = methH (c1 == c) (lenRes (Γ.mts i [.pur (.obj c1 n1 p1)] []) s) := (rfl)
theorem z_lenO {Γ : Cfg} {c i : Nat} {a : E} {s : S} : evE Γ (.lenO c i a) s = (evE Γ a s).bind (kLenO Γ c i) := (rfl)
theorem z_lenP {n : Int} {s : S} : lenRes (.ok (.pur (.int n)) []) s = if decide (0 ≤ n) && decide (n < 4611686018427387904) then .ok (.pur (.int n)) s else .st := (rfl)
def kIsc (c : Nat) : D → S → R D := fun x s => match x with
  | .pur (.obj c' _ _) => if c' == c then .ok (.pur (.bl true)) s else .st
  | .pur (.tup _) => .ok (.pur (.bl false)) s
  | _ => .st
theorem z_kIsc {c c' : Nat} {ns : List Str} {ps : List P} {s : S} : kIsc c (.pur (.obj c' ns ps)) s = if c' == c then .ok (.pur (.bl true)) s else .st := (rfl)
theorem z_isc {Γ : Cfg} {c : Nat} {a : E} {s : S} : evE Γ (.isc c a) s = (evE Γ a s).bind (kIsc c) := (rfl)
/-! exceptions -/
theorem z_bindX {α β : Type} {x : Exc} {s : S} {k : α → S → R β} : (R.ex x s).bind k = .ex x s := (rfl)
def kRai (Γ : Cfg) (c : Nat) : List D → S → R Fl := fun ds s => raiF (Γ.xf c) c ds s
theorem z_kRai {Γ : Cfg} {c : Nat} {ds : List D} {s : S} : kRai Γ c ds s = raiF (Γ.xf c) c ds s := (rfl)
theorem z_rai {Γ : Cfg} {c : Nat} {es : Es} {s : S} : exS Γ (.rai c es) s = (evEs Γ es s).bind (kRai Γ c) := (rfl)
theorem z_rai0 {c : Nat} {s : S} : raiF (some []) c [] s = .ex ⟨c, []⟩ s := (rfl)
theorem z_rai1 {c : Nat} {f : Str} {p : P} {s : S} : raiF (some [f]) c [.pur p] s = .ex ⟨c, [(f, p)]⟩ s := (rfl)
theorem z_rai2 {c : Nat} {f g : Str} {p q : P} {s : S} : raiF (some [f, g]) c [.pur p, .pur q] s = .ex ⟨c, [(g, q), (f, p)]⟩ s := (rfl)
def hdG (b : Bool) (h : Hd) (x : Exc) (s : S) (r : R Fl) : R Fl := if b then (if nmOK s.r h then (match htV x.fs h.t with
    | some p => .ok .nx { s with r := rmN (s.r.set h.i (some (.pur p))) h.nm }
    | none => .st) else .st) else r
theorem z_hd {h : Hd} {hs : List Hd} {x : Exc} {s : S} : hdF (h :: hs) x s = hdG (x.cls == h.c) h x s (hdF hs x s) := (rfl)
theorem z_hdF {h : Hd} {x : Exc} {s : S} {r : R Fl} : hdG false h x s r = r := (rfl)
theorem z_hdT {h : Hd} {x : Exc} {s : S} {r : R Fl} : hdG true h x s r = if nmOK s.r h then (match htV x.fs h.t with
    | some p => .ok .nx { s with r := rmN (s.r.set h.i (some (.pur p))) h.nm }
    | none => .st) else .st := (rfl)
theorem z_nm0 {r : List (Option D)} {c i : Nat} {p : P} : nmOK r ⟨c, none, i, none, .cst p⟩ = true := (rfl)
theorem y_nm1 {r : List (Option D)} {c i j : Nat} {o : Option Nat} {t : HTm} : nmOK r ⟨c, some j, i, o, t⟩ = decide (j < r.length) := (rfl)
theorem z_rm0 {r : List (Option D)} : rmN r none = r := (rfl)
theorem z_rm1 {r : List (Option D)} {i : Nat} : rmN r (some i) = r.set i none := (rfl)
theorem z_ht0 {fs : List (Str × P)} {p : P} : htV fs (.cst p) = some p := (rfl)
theorem z_ht1 {fs : List (Str × P)} {f : Str} : htV fs (.fld f) = fs.lookup f := (rfl)
theorem z_ht2 {fs : List (Str × P)} {f : Str} : htV fs (.lst f) = (fs.lookup f).map fun p => .lst [p] := (rfl)
theorem z_ht3 {fs : List (Str × P)} {f g : Str} : htV fs (.tup f g) = (fs.lookup f).bind fun p => (fs.lookup g).map fun q => .tup [p, q] := (rfl)
theorem z_try {Γ : Cfg} {b : Stms} {hs : List Hd} {s : S} : exS Γ (.tryS b hs) s = tryF Γ.xf hs (exSs Γ b s) := (rfl)
theorem z_try0 {xf : Nat → Option (List Str)} {hs : List Hd} {f : Fl} {s : S} : tryF xf hs (.ok f s) = .ok f s := (rfl)
theorem z_tryX {xf : Nat → Option (List Str)} {hs : List Hd} {x : Exc} {s : S} : tryF xf hs (.ex x s) = if (xf x.cls).isSome then hdF hs x s else .st := (rfl)
theorem z_kSX {Γ : Cfg} {r : Stms} {x : Exc} {s : S} : (R.ex x s).bind (kS Γ r) = .ex x s := (rfl)
/-! calls without arguments; texts; instances that change -/
def clpG (r : RF) (s : S) : R D := match r with
  | .ok (.pur p) _ => .ok (.pur p) s
  | _ => .st
theorem z_clpG {p : P} {m : List Cell} {s : S} : clpG (.ok (.pur p) m) s = .ok (.pur p) s := (rfl)
theorem z_clp0 {F : Fn} {s : S} : clp0F F s = clpG (F [] []) s := (rfl)
theorem z_calp0 {Γ : Cfg} {f : Nat} {s : S} : evE Γ (.calp0 f) s = clp0F (Γ.fns f) s := (rfl)
theorem z_kIscT {c : Nat} {ps : List P} {s : S} : kIsc c (.pur (.tup ps)) s = .ok (.pur (.bl false)) s := (rfl)
def kSpl2 (a : Str) : D → S → R D := fun y s => R.pure ((splD a y).map D.pur) s
theorem z_kSpl2 {a : Str} {y : D} {s : S} : kSpl2 a y s = R.pure ((splD a y).map D.pur) s := (rfl)
def kSpl (Γ : Cfg) (e : E) : D → S → R D := fun x s => match x with
  | .pur (.str a) => (evE Γ e s).bind (kSpl2 a)
  | _ => .st
theorem z_kSpl {Γ : Cfg} {e : E} {a : Str} {s : S} : kSpl Γ e (.pur (.str a)) s = (evE Γ e s).bind (kSpl2 a) := (rfl)
theorem z_spl {Γ : Cfg} {a b : E} {s : S} : evE Γ (.spl a b) s = (evE Γ a s).bind (kSpl Γ b) := (rfl)
def kJoi2 (a : Str) : D → S → R D := fun y s => R.pure ((joiD a y).map D.pur) s
theorem z_kJoi2 {a : Str} {y : D} {s : S} : kJoi2 a y s = R.pure ((joiD a y).map D.pur) s := (rfl)
def kJoi (Γ : Cfg) (e : E) : D → S → R D := fun x s => match x with
  | .pur (.str a) => (evE Γ e s).bind (kJoi2 a)
  | _ => .st
theorem z_kJoi {Γ : Cfg} {e : E} {a : Str} {s : S} : kJoi Γ e (.pur (.str a)) s = (evE Γ e s).bind (kJoi2 a) := (rfl)
theorem z_joi {Γ : Cfg} {a b : E} {s : S} : evE Γ (.joi a b) s = (evE Γ a s).bind (kJoi Γ b) := (rfl)
def kMkc (Γ : Cfg) (c : Nat) : List D → S → R D := fun ds s => mkcF c (Γ.ini c) ds s
theorem z_kMkc {Γ : Cfg} {c : Nat} {ds : List D} {s : S} : kMkc Γ c ds s = mkcF c (Γ.ini c) ds s := (rfl)
theorem z_mkc {Γ : Cfg} {c : Nat} {es : Es} {s : S} : evE Γ (.mkc c es) s = (evEs Γ es s).bind (kMkc Γ c) := (rfl)
def mkcG (k : Nat) (s : S) : RF → R D
  | .ok (.pur .non) m => .ok (.cel k) { s with m := m }
  | _ => .st
theorem z_mkcG {k : Nat} {s : S} {m : List Cell} : mkcG k s (.ok (.pur .non) m) = .ok (.cel k) { s with m := m } := (rfl)
def mkcH (b : Bool) (r : R D) : R D := if b then r else .st
theorem z_mkcH {r : R D} : mkcH true r = r := (rfl)
theorem z_mkcF {c : Nat} {F : Fn} {ds : List D} {s : S} : mkcF c F ds s = mkcH (noloc ds) (mkcG s.m.length s (F (.cel s.m.length :: ds) (s.m ++ [.ins c []]))) := by
  unfold mkcF mkcH
  cases noloc ds with
  | false => rfl
  | true =>
    show (match F (.cel s.m.length :: ds) (s.m ++ [.ins c []]) with
      | .ok (.pur .non) m => R.ok (D.cel s.m.length) { s with m := m }
      | _ => .st) = mkcG _ _ _
    unfold mkcG
    rfl
def kAugf2 (op : Operator) (f : Str) (k c : Nat) (p : P) : D → S → R Fl := fun v s => augF2 op f k c p v s
theorem z_kAugf2 {op : Operator} {f : Str} {k c : Nat} {p : P} {v : D} {s : S} : kAugf2 op f k c p v s = augF2 op f k c p v s := (rfl)
def kAugf (Γ : Cfg) (op : Operator) (f : Str) (e : E) : D → S → R Fl := fun x s => match x with
  | .cel k => (match insC s k, fldD Γ.fa s (.cel k) f with
    | some c, some (.pur p) => (evE Γ e s).bind (kAugf2 op f k c p)
    | _, _ => .st)
  | _ => .st
theorem z_kAugf {Γ : Cfg} {op : Operator} {f : Str} {e : E} {k : Nat} {s : S} : kAugf Γ op f e (.cel k) s = match insC s k, fldD Γ.fa s (.cel k) f with
    | some c, some (.pur p) => (evE Γ e s).bind (kAugf2 op f k c p)
    | _, _ => .st := (rfl)
theorem z_augf {Γ : Cfg} {op : Operator} {o e : E} {f : Str} {s : S} : exS Γ (.augf op o f e) s = (evE Γ o s).bind (kAugf Γ op f e) := (rfl)
end Ev
end

section
set_option Elab.async false
set_option linter.all false
set_option maxRecDepth 100000
set_option maxHeartbeats 4000000
/-! EvLaw: courses, in plain Lean. -/
namespace Ev
open PySem
theorem z_fns {g : Str → Option P} {fa : Nat → Str → Bool} {l li : List (Nat × Fn)} {i : Nat} : (mkG g fa l li).fns i = (l.lookup i).getD noFn := (rfl)
theorem z_ini {g : Str → Option P} {fa : Nat → Str → Bool} {l li : List (Nat × Fn)} {i : Nat} : (mkG g fa l li).ini i = (li.lookup i).getD noFn := (rfl)
theorem z_gl {g : Str → Option P} {fa : Nat → Str → Bool} {l li : List (Nat × Fn)} {x : Str} : (mkG g fa l li).glb x = g x := (rfl)
theorem z_xf {g : Str → Option P} {fa : Nat → Str → Bool} {l li : List (Nat × Fn)} {lx : List (Nat × List Str)} {c : Nat} : (mkG g fa l li [] [] lx).xf c = lx.lookup c := (rfl)
theorem z_fa {g : Str → Option P} {fa : Nat → Str → Bool} {l li : List (Nat × Fn)} : (mkG g fa l li).fa = fa := (rfl)
/-! ### stores -/
abbrev ints' (ds : List Int) : List D := ds.map fun i => D.pur (P.int i)
theorem z_pI (ds : List Int) : purs (ds.map fun i => D.pur (P.int i)) = some (ds.map P.int) := by
  induction ds with
  | nil => rfl
  | cons d ds ih => simp [purs, ih]
theorem z_binC {s : S} {k : Nat} {qs : List P} : binD s .Add (.cel k) (.pur (.lst qs)) = match s.m[k]? with
    | some (.lst ds) => (purs ds).bind fun ps => if ps.length + qs.length ≤ line then some (.lst (ps ++ qs)) else none
    | _ => none := by
  unfold binD
  dsimp only
  cases s.m[k]? with
  | none => rfl
  | some c => cases c <;> rfl
theorem z_ixC {s : S} {k : Nat} {i : Int} : idxD s (.cel k) (.pur (.int i)) = match s.m[k]? with
    | some (.lst ds) => atP ds i
    | _ => none := (rfl)
theorem z_stC {s : S} {k : Nat} {i : Int} {v : D} : stoD s (.cel k) (.pur (.int i)) v = match s.m[k]?, noloc [v] with
    | some (.lst ds), true => (ixOf ds.length i).map fun j => { s with m := s.m.set k (.lst (ds.set j v)) }
    | _, _ => none := (rfl)
theorem z_lenC {s : S} {k : Nat} : bifD s .len [.cel k] = (lenD s (.cel k)).map fun (n : Nat) => P.int (n : Int) := (rfl)
theorem z_lenD {s : S} {k : Nat} : lenD s (.cel k) = match s.m[k]? with
    | some (.lst ds) => some ds.length
    | _ => none := (rfl)
theorem z_max {s : S} {i j : Int} : bifD s .max [.pur (.int i), .pur (.int j)] = some (.int (max i j)) := by
  show some (P.int (if j > i then j else i)) = _
  congr 2
  omega
theorem z_min {s : S} {i j : Int} : bifD s .min [.pur (.int i), .pur (.int j)] = some (.int (min i j)) := by
  show some (P.int (if j < i then j else i)) = _
  congr 2
  omega
theorem z_int {s : S} {i : Int} : bifD s .int [.pur (.int i)] = some (.int i) := (rfl)
theorem z_lenL {s : S} {ps : List P} : bifD s .len [.pur (.lst ps)] = some (.int (ps.length : Int)) := (rfl)
theorem z_lenT {s : S} {ps : List P} : bifD s .len [.pur (.tup ps)] = some (.int (ps.length : Int)) := (rfl)
theorem z_ten18 : binP .Pow (.int 10) (.int 18) = some (.int 1000000000000000000) := by kernel_rfl
theorem z_ix0 {n : Nat} : ixOf (n + 1) 0 = some 0 := by unfold ixOf; rw [if_pos (by omega), if_pos (by omega)]; rfl
theorem z_ix2 {n : Nat} : ixOf (n + 3) 2 = some 2 := by unfold ixOf; rw [if_pos (by omega), if_pos (by omega)]; rfl
theorem ixOf_of {n : Nat} {i : Int} (h0 : 0 ≤ i) (h1 : i < n) : ixOf n i = some i.toNat := by unfold ixOf; rw [if_pos h0, if_pos h1]
theorem z_line0 : 0 ≤ line := by unfold line; omega
theorem z_line1 : 1 ≤ line := by unfold line; omega
theorem z_line2 : 2 ≤ line := by unfold line; omega
theorem z_line3 : 3 ≤ line := by unfold line; omega
theorem z_line4 : 4 ≤ line := by unfold line; omega
theorem z_line5 : 5 ≤ line := by unfold line; omega
theorem z_line6 : 6 ≤ line := by unfold line; omega
theorem z_line7 : 7 ≤ line := by unfold line; omega
theorem z_line8 : 8 ≤ line := by unfold line; omega
/-- the draws' store -/
def Dr (m : List Cell) : Prop := ∃ (a t : Int) (ds : List Int), ds.length ≤ 63 ∧ m = [.lst (ds.map fun i => D.pur (P.int i)), .lst [.pur (.int a), .cel 0, .pur (.int t)]]
theorem at_ints (ds : List Int) (i : Int) (h0 : 0 ≤ i) (h1 : i < ds.length + 1) : ∃ x, atP (ds.map P.int ++ [.int 0]) i = some (.int x) ∧ (ds = [] → x = 0) := by
  obtain ⟨j, rfl⟩ := Int.eq_ofNat_of_zero_le h0
  have hj : j < ds.length + 1 := by omega
  by_cases hlt : j < ds.length
  · exact ⟨ds[j], z_atP (by rw [List.getElem?_append_left (by simpa using hlt)]; simp [hlt]), fun h => by subst h; simp at hlt⟩
  · have e : j = ds.length := by omega
    subst e
    exact ⟨0, z_atP (by rw [List.getElem?_append_right (by simp)]; simp), fun _ => rfl⟩
end Ev
end

section
set_option Elab.async false
set_option linter.all false
set_option maxRecDepth 100000
set_option maxHeartbeats 4000000
/-! EvCrs: courses in plain Lean; loops of the evaluator. -/
namespace Ev
open PySem
theorem z_q1 : (("lid" : Str) == "lid") = true := by decide +kernel
theorem z_q2 : (("wall" : Str) == "lid") = false := by decide +kernel
theorem z_q3 : (("full" : Str) == "full") = true := by decide +kernel
theorem z_q4 : (("full" : Str) == "less") = false := by decide +kernel
theorem z_q5 : (("full" : Str) == "more") = false := by decide +kernel
theorem z_q6 : (("less" : Str) == "full") = false := by decide +kernel
theorem z_q7 : (("less" : Str) == "less") = true := by decide +kernel
theorem z_q8 : (("less" : Str) == "more") = false := by decide +kernel
theorem z_q9 : (("more" : Str) == "full") = false := by decide +kernel
theorem z_q10 : (("more" : Str) == "less") = false := by decide +kernel
theorem z_q11 : (("more" : Str) == "more") = true := by decide +kernel
theorem z_q12 : (("left" : Str) == "left") = true := by decide +kernel
theorem z_q13 : (("right" : Str) == "left") = false := by decide +kernel
theorem z_q14 : (("left" : Str) == "right") = false := by decide +kernel
theorem z_q15 : (("right" : Str) == "right") = true := by decide +kernel
/-! ### courses -/
inductive W3 where
  | full | less | more
def wS : W3 → Str
  | .full => "full" | .less => "less" | .more => "more"
def sS : Bool → Str
  | true => "left" | false => "right"
inductive Crs where
  | lid (k : Int) | wall (w : W3) (l b : Bool) (h0 h1 h2 m0 m1 : Int)
def enc : Crs → P
  | .lid k => .tup [.str "lid", .int k]
  | .wall w l b h0 h1 h2 m0 m1 => .tup [.str "wall", .str (wS w), .str (sS l), .bl b, .tup [.int h0, .int h1, .int h2], .tup [.int m0, .int m1]]
def hs : List (Int × Int × Int) := [(0, 0, 0), (2, 0, 0), (2, 0, 1), (2, 1, 0), (2, 1, 1), (2, 2, 0), (2, 2, 1), (3, 0, 0), (3, 0, 1), (3, 0, 2), (3, 1, 0), (3, 1, 1), (3, 1, 2), (3, 2, 0), (3, 2, 1), (3, 2, 2)]
def ms : List (Int × Int) := [(1, 0), (1, 1), (1, 2), (2, 0), (2, 1), (2, 2), (3, 0), (3, 1), (3, 2)]
def okC : Crs → Prop
  | .lid k => 0 ≤ k ∧ k ≤ 2
  | .wall _ _ _ h0 h1 h2 m0 m1 => (h0, h1, h2) ∈ hs ∧ (m0, m1) ∈ ms
theorem three {i : Int} (h0 : 0 ≤ i) (h1 : i < 3) : i = 0 ∨ i = 1 ∨ i = 2 := by omega
theorem two {i : Int} (h0 : 0 ≤ i) (h1 : i < 2) : i = 0 ∨ i = 1 := by omega
theorem hs_mk0 : ((0, 0, 0) : Int × Int × Int) ∈ hs := by decide +kernel
theorem hs_mk {h0 h1 h2 : Int} (h : h0 = 2 ∨ h0 = 3) (a : 0 ≤ h1) (b : h1 < 3) (c : 0 ≤ h2) (d : h2 < h0) : (h0, h1, h2) ∈ hs := by
  rcases h with rfl | rfl
  · rcases three a b with rfl | rfl | rfl <;> rcases two c d with rfl | rfl <;> decide +kernel
  · rcases three a b with rfl | rfl | rfl <;> rcases three c d with rfl | rfl | rfl <;> decide +kernel
theorem ms_mk {m0 m1 : Int} (h : m0 = 1 ∨ m0 = 2 ∨ m0 = 3) (a : 0 ≤ m1) (b : m1 < 3) : (m0, m1) ∈ ms := by
  rcases h with rfl | rfl | rfl <;> rcases three a b with rfl | rfl | rfl <;> decide +kernel
theorem hs_all : (hs.all fun h => (decide (h.1 = 0) && decide (h.2.1 = 0) && decide (h.2.2 = 0)) || ((decide (h.1 = 2) || decide (h.1 = 3)) && decide (0 ≤ h.2.1) && decide (h.2.1 < 3) && decide (0 ≤ h.2.2) && decide (h.2.2 < h.1))) = true := by decide +kernel
theorem ms_all : (ms.all fun h => decide (1 ≤ h.1) && decide (h.1 ≤ 3) && decide (0 ≤ h.2) && decide (h.2 < 3)) = true := by decide +kernel
theorem hs_of {h0 h1 h2 : Int} (h : (h0, h1, h2) ∈ hs) : (h0 = 0 ∧ h1 = 0 ∧ h2 = 0) ∨ ((h0 = 2 ∨ h0 = 3) ∧ 0 ≤ h1 ∧ h1 < 3 ∧ 0 ≤ h2 ∧ h2 < h0) := by
  have := List.all_eq_true.mp hs_all _ h
  simp only [Bool.or_eq_true, Bool.and_eq_true, decide_eq_true_eq] at this
  rcases this with h | h
  · exact .inl ⟨h.1.1, h.1.2, h.2⟩
  · exact .inr ⟨h.1.1.1.1, h.1.1.1.2, h.1.1.2, h.1.2, h.2⟩
theorem ms_of {m0 m1 : Int} (h : (m0, m1) ∈ ms) : 1 ≤ m0 ∧ m0 ≤ 3 ∧ 0 ≤ m1 ∧ m1 < 3 := by
  have := List.all_eq_true.mp ms_all _ h
  simp only [Bool.and_eq_true, decide_eq_true_eq] at this
  exact ⟨this.1.1.1, this.1.1.2, this.1.2, this.2⟩
def lev (c : Crs) (n : Int) : Int := match c with
  | .lid _ => 1
  | .wall .. => n
def wid : W3 → Int → Int → Int
  | .full, n, _ => n
  | .less, n, i => n - i
  | .more, _, i => i + 1
def fst' (c : Crs) (n i : Int) : Int := match c with
  | .lid _ => 0
  | .wall w l _ _ _ _ _ _ => if l = true then 0 else n - wid w n i
def lst' (c : Crs) (n i : Int) : Int := match c with
  | .lid _ => n
  | .wall w l _ _ _ _ _ _ => if l = true then wid w n i else n
def ptn (n : Int) (b : Bool) (h0 h1 h2 m0 m1 i col : Int) : P :=
  if 0 < h0 ∧ ((if b = true then n - 1 - col else col) + h1 * i) % h0 = h2 then .non else .int (((if b = true then n - 1 - col else col) + m1 * i) % m0)
def pc (c : Crs) (n i col : Int) : P :=
  if fst' c n i ≤ col ∧ col < lst' c n i then (match c with
    | .lid k => .int k
    | .wall w l b h0 h1 h2 m0 m1 => ptn n b h0 h1 h2 m0 m1 i col) else .non
def isPc (p : P) : Prop := p = .non ∨ ∃ i, p = .int i
theorem isPc_ite {c : Prop} [Decidable c] {p q : P} (hp : isPc p) (hq : isPc q) : isPc (if c then p else q) := by
  by_cases h : c
  · rw [if_pos h]; exact hp
  · rw [if_neg h]; exact hq
theorem pc_is (c : Crs) (n i col : Int) : isPc (pc c n i col) := by
  unfold pc
  refine isPc_ite ?_ (.inl rfl)
  cases c with
  | lid k => exact .inr ⟨_, rfl⟩
  | wall w l b h0 h1 h2 m0 m1 => exact isPc_ite (.inl rfl) (.inr ⟨_, rfl⟩)
theorem sub_mod {t r k : Int} (h : k = 2 ∨ k = 3) (h0 : 0 ≤ r) (h1 : r < k) : ((t - r) % k = 0) ↔ (t % k = r) := by
  rcases h with rfl | rfl <;> omega
/-! ### loops -/
section
variable {t : T} {own : List Nat} {c : S → R Bool} {f : S → R D}
theorem z_comp0 {r0 : List (Option D)} {s : S} : compF t own r0 c f [] s = .ok [] { s with r := r0 } := (rfl)
theorem z_comp1 {r0 : List (Option D)} {x : P} {xs : List P} {s : S} : compF t own r0 c f (x :: xs) s = match asgT t (.pur x) { s with r := wipe r0 own } with
    | none => .st
    | some s1 => match c s1 with
      | .ok false s2 => compF t own r0 c f xs s2
      | .ok true s2 => (match f s2 with
        | .ok (.pur p) s3 => (match compF t own r0 c f xs s3 with
          | .ok ps s4 => .ok (p :: ps) s4
          | _ => .st)
        | _ => .st)
      | _ => .st := (rfl)
/-- each item is counted in, the store may change -/
theorem comp_st {r0 : List (Option D)} {l : List (Option (List P))} (I : List Cell → Prop) (Q : P → Prop) : ∀ {xs : List P} {r : List (Option D)} {m : List Cell},
    (∀ x ∈ xs, ∀ m, I m → ∃ s1 s2 s3 p, asgT t (.pur x) { r := wipe r0 own, m := m, l := l } = some s1 ∧ c s1 = .ok true s2 ∧ f s2 = .ok (.pur p) s3 ∧ s3.l = l ∧ I s3.m ∧ Q p) → I m →
    ∃ ps m', compF t own r0 c f xs { r := r, m := m, l := l } = .ok ps { r := r0, m := m', l := l } ∧ I m' ∧ ps.length = xs.length ∧ ∀ p ∈ ps, Q p
  | [], r, m, h, hI => ⟨[], m, rfl, hI, rfl, fun p hp => nomatch hp⟩
  | x :: xs, r, m, h, hI => by
    obtain ⟨s1, s2, s3, p, e1, e2, e3, el, hI3, hq⟩ := h x List.mem_cons_self m hI
    obtain ⟨ps, m', e4, hI4, hl, hQ⟩ := comp_st I Q (r := s3.r) (m := s3.m) (fun y hy => h y (List.mem_cons_of_mem _ hy)) hI3
    refine ⟨p :: ps, m', ?_, hI4, by simp [hl], fun y hy => ?_⟩
    · rw [z_comp1, e1]
      dsimp only
      rw [e2]
      dsimp only
      rw [e3]
      dsimp only
      have es : s3 = { r := s3.r, m := s3.m, l := l } := by rw [← el]
      rw [es, e4]
    · rcases List.mem_cons.mp hy with rfl | hy
      · exact hq
      · exact hQ y hy
/-- each item is counted in, nothing changes -/
theorem comp_map {r0 : List (Option D)} (g : P → P) : ∀ {xs : List P} {s : S},
    (∀ x ∈ xs, ∃ s1 s2 s3, asgT t (.pur x) { s with r := wipe r0 own } = some s1 ∧ c s1 = .ok true s2 ∧ f s2 = .ok (.pur (g x)) s3 ∧ s3.l = s.l ∧ s3.m = s.m) →
    compF t own r0 c f xs s = .ok (xs.map g) { s with r := r0 }
  | [], s, h => rfl
  | x :: xs, s, h => by
    obtain ⟨s1, s2, s3, e1, e2, e3, el, em⟩ := h x List.mem_cons_self
    have ih := comp_map g (xs := xs) (s := s3) (fun y hy => by
      have := h y (List.mem_cons_of_mem _ hy)
      rw [el, em]
      exact this)
    rw [z_comp1, e1]
    dsimp only
    rw [e2]
    dsimp only
    rw [e3]
    dsimp only
    rw [ih, el, em]
    rfl
/-- each item is left out, nothing changes -/
theorem comp_none {r0 : List (Option D)} : ∀ {xs : List P} {s : S},
    (∀ x ∈ xs, ∃ s1 s2, asgT t (.pur x) { s with r := wipe r0 own } = some s1 ∧ c s1 = .ok false s2 ∧ s2.l = s.l ∧ s2.m = s.m) →
    compF t own r0 c f xs s = .ok [] { s with r := r0 }
  | [], s, h => rfl
  | x :: xs, s, h => by
    obtain ⟨s1, s2, e1, e2, el, em⟩ := h x List.mem_cons_self
    have ih := comp_none (xs := xs) (s := s2) (fun y hy => by
      have := h y (List.mem_cons_of_mem _ hy)
      rw [el, em]
      exact this)
    rw [z_comp1, e1]
    dsimp only
    rw [e2]
    dsimp only
    rw [ih, el, em]
end
theorem z_for0 {t : T} {b : S → R Fl} {s : S} : forF t b [] s = .ok .nx s := (rfl)
theorem z_for1 {t : T} {b : S → R Fl} {x : P} {xs : List P} {s : S} : forF t b (x :: xs) s = match asgT t (.pur x) s with
    | none => .st
    | some s1 => (b s1).bind fun f s2 => match f with
      | .nx => forF t b xs s2
      | .ct => forF t b xs s2
      | .bk => .ok .nx s2
      | .rt d => .ok (.rt d) s2 := (rfl)
section
variable {s : S}
theorem z_sqT {ps : List P} : seqP (.tup ps) = some ps := (rfl)
theorem z_sqL {ps : List P} : seqP (.lst ps) = some ps := (rfl)
theorem z_sqS {ps : List P} : seqP (.sq ps) = some ps := (rfl)
theorem z_as1 {i : Nat} {d : D} : asgT (.nm i) d s = some { s with r := s.r.set i (some d) } := (rfl)
theorem z_as2 {is : List Nat} {ps : List P} : asgT (.tp is) (.pur (.tup ps)) s = (setN s.r is (ps.map D.pur)).map fun r => { s with r := r } := (rfl)
theorem z_tupL {ps : List P} : bifD s .tuple [.pur (.lst ps)] = some (.tup ps) := (rfl)
theorem z_sumT {ps : List P} : bifD s .sum [.pur (.tup ps)] = (intsP ps).map fun ns => .int ns.sum := (rfl)
theorem z_sum {ps : List P} : bifD s .sum [.pur (.lst ps)] = (intsP ps).map fun ns => .int ns.sum := (rfl)
theorem z_w0 {r : List (Option D)} : wipe r [] = r := (rfl)
theorem z_w1 {r : List (Option D)} {v : Nat} {vs : List Nat} : wipe r (v :: vs) = (wipe r vs).set v none := (rfl)
theorem z_augS {i j : Int} : augP .Sub (.int i) (.int j) = some (.int (i - j)) := (rfl)
theorem z_augA {i j : Int} : augP .Add (.int i) (.int j) = some (.int (i + j)) := (rfl)
end
theorem rng_mem {lo : Int} {n : Nat} {p : P} (h : p ∈ rngP lo n) : ∃ i : Nat, i < n ∧ p = .int (lo + i) := by
  unfold rngP at h
  obtain ⟨i, h1, h2⟩ := List.mem_map.mp h
  exact ⟨i, List.mem_range.mp h1, h2.symm⟩
theorem rng_length {lo : Int} {n : Nat} : (rngP lo n).length = n := by unfold rngP; simp
theorem ints_map {α : Type} (g : α → Int) (xs : List α) : intsP (xs.map fun x => .int (g x)) = some (xs.map g) := by
  induction xs with
  | nil => rfl
  | cons x xs ih => simp [intsP, ih]
/-! ### a heap -/
def sumL (n : Int) : List Crs → Int
  | [] => 0
  | c :: cs => lev c n + sumL n cs
def patt (n : Int) : List Crs → Int → Int → P
  | [], _, _ => .non
  | c :: cs, i, col => if i < lev c n then pc c n i col else patt n cs (i - lev c n) col
end Ev
end

section
set_option Elab.async false
set_option linter.all false
set_option maxRecDepth 100000
set_option maxHeartbeats 4000000
/-! EvLp: rules of loops and comprehensions. -/
namespace Ev
open PySem
section
variable {Γ : Cfg} {e : E} {t : T} {it : I} {own : List Nat} {s s0 : S} {items : List P}
theorem comp_mapD {α : Type} {t : T} {own : List Nat} {c : S → R Bool} {f : S → R D} {r0 : List (Option D)} (e g : α → P) : ∀ {xs : List α} {s : S},
    (∀ x ∈ xs, ∃ s1 s2 s3, asgT t (.pur (e x)) { s with r := wipe r0 own } = some s1 ∧ c s1 = .ok true s2 ∧ f s2 = .ok (.pur (g x)) s3 ∧ s3.l = s.l ∧ s3.m = s.m) →
    compF t own r0 c f (xs.map e) s = .ok (xs.map g) { s with r := r0 }
  | [], s, h => rfl
  | x :: xs, s, h => by
    obtain ⟨s1, s2, s3, e1, e2, e3, el, em⟩ := h x List.mem_cons_self
    have ih := comp_mapD e g (xs := xs) (s := s3) (fun y hy => by
      have := h y (List.mem_cons_of_mem _ hy)
      rw [el, em]
      exact this)
    rw [List.map_cons, z_comp1, e1]
    dsimp only
    rw [e2]
    dsimp only
    rw [e3]
    dsimp only
    rw [ih, el, em]
    rfl
/-- a comprehension without a test: each item is counted in, nothing else changes -/
theorem lc_map {α : Type} (q g : α → P) (xs : List α) (hi : evI Γ it s = .ok (xs.map q) s0) (hl : xs.length ≤ line)
    (h : ∀ x ∈ xs, ∃ s1 s3, asgT t (.pur (q x)) { s0 with r := wipe s0.r own } = some s1 ∧ evE Γ e s1 = .ok (.pur (g x)) s3 ∧ s3.l = s0.l ∧ s3.m = s0.m) :
    evE Γ (.lc e t it .nil own) s = .ok (.pur (.lst (xs.map g))) s0 := by
  have ec := comp_mapD (t := t) (own := own) (c := evC Γ .nil) (f := evE Γ e) (r0 := s0.r) q g (xs := xs) (s := s0) fun x hx => by
    obtain ⟨s1, s3, e1, e2, e3, e4⟩ := h x hx
    exact ⟨s1, s1, s3, e1, rfl, e2, e3, e4⟩
  rw [z_lc, hi, z_bind, z_kLc, ec]
  show (if (xs.map g).length ≤ line then _ else _) = _
  rw [List.length_map, if_pos hl]
theorem asgT_lm {t : T} {d : D} {s s1 : S} (h : asgT t d s = some s1) : s1.l = s.l ∧ s1.m = s.m := by
  cases t with
  | nm i => cases h; exact ⟨rfl, rfl⟩
  | tp is =>
    cases d with
    | pur p =>
      cases p with
      | tup ps =>
        have h : (setN s.r is (ps.map D.pur)).map (fun r => { s with r := r }) = some s1 := h
        cases e : setN s.r is (ps.map D.pur) with
        | none => rw [e] at h; cases h
        | some r => rw [e] at h; cases h; exact ⟨rfl, rfl⟩
      | _ => cases h
    | _ => cases h
/-- a comprehension whose items change nothing -/
theorem lc_mapc {α : Type} (q g : α → P) (xs : List α) (hi : evI Γ it s = .ok (xs.map q) s0) (hl : xs.length ≤ line)
    (h : ∀ x ∈ xs, ∃ s1, asgT t (.pur (q x)) { s0 with r := wipe s0.r own } = some s1 ∧ evE Γ e s1 = .ok (.pur (g x)) s1) :
    evE Γ (.lc e t it .nil own) s = .ok (.pur (.lst (xs.map g))) s0 := lc_map q g xs hi hl fun x hx => by
  obtain ⟨s1, e1, e2⟩ := h x hx
  obtain ⟨h1, h2⟩ := asgT_lm e1
  exact ⟨s1, s1, e1, e2, h1, h2⟩
theorem comp_fil {α : Type} {t : T} {own : List Nat} {c : S → R Bool} {f : S → R D} {r0 : List (Option D)} (e g : α → P) (p : α → Bool) : ∀ {xs : List α} {s : S},
    (∀ x ∈ xs, ∃ s1 s2 s3, asgT t (.pur (e x)) { s with r := wipe r0 own } = some s1 ∧ c s1 = .ok (p x) s2 ∧ s2.l = s.l ∧ s2.m = s.m ∧ (p x = true → f s2 = .ok (.pur (g x)) s3 ∧ s3.l = s.l ∧ s3.m = s.m)) →
    compF t own r0 c f (xs.map e) s = .ok ((xs.filter p).map g) { s with r := r0 }
  | [], s, h => rfl
  | x :: xs, s, h => by
    obtain ⟨s1, s2, s3, e1, e2, e3, e4, e5⟩ := h x List.mem_cons_self
    rw [List.map_cons, z_comp1, e1]
    dsimp only
    rw [e2, List.filter_cons]
    cases hp : p x with
    | false =>
      have ih := comp_fil e g p (xs := xs) (s := s2) (fun y hy => by
        have := h y (List.mem_cons_of_mem _ hy)
        rw [e3, e4]
        exact this)
      dsimp only
      rw [ih, e3, e4]
      rfl
    | true =>
      obtain ⟨e6, e7, e8⟩ := e5 hp
      have ih := comp_fil e g p (xs := xs) (s := s3) (fun y hy => by
        have := h y (List.mem_cons_of_mem _ hy)
        rw [e7, e8]
        exact this)
      dsimp only
      rw [e6]
      dsimp only
      rw [ih, e7, e8]
      rfl
/-- a comprehension with a test -/
theorem lc_fil {α : Type} {c : E} (q g : α → P) (p : α → Bool) (xs : List α) (hi : evI Γ it s = .ok (xs.map q) s0) (hl : xs.length ≤ line)
    (h : ∀ x ∈ xs, ∃ s1 s2 s3, asgT t (.pur (q x)) { s0 with r := wipe s0.r own } = some s1 ∧ evE Γ c s1 = .ok (.pur (.bl (p x))) s2 ∧ s2.l = s0.l ∧ s2.m = s0.m ∧ (p x = true → evE Γ e s2 = .ok (.pur (g x)) s3 ∧ s3.l = s0.l ∧ s3.m = s0.m)) :
    evE Γ (.lc e t it (.cons c .nil) own) s = .ok (.pur (.lst ((xs.filter p).map g))) s0 := by
  have ec := comp_fil (t := t) (own := own) (c := evC Γ (.cons c .nil)) (f := evE Γ e) (r0 := s0.r) q g p (xs := xs) (s := s0) fun x hx => by
    obtain ⟨s1, s2, s3, e1, e2, e3, e4, e5⟩ := h x hx
    refine ⟨s1, s2, s3, e1, ?_, e3, e4, e5⟩
    rw [z_c1, e2, z_bind]
    rfl
  rw [z_lc, hi, z_bind, z_kLc, ec]
  have : ((xs.filter p).map g).length ≤ line := by
    rw [List.length_map]
    exact Nat.le_trans (List.length_filter_le _ _) hl
  show (if _ then _ else _) = _
  rw [if_pos this]
/-- a comprehension with a test, whose items change nothing -/
theorem lc_filc {α : Type} {c : E} (q g : α → P) (p : α → Bool) (xs : List α) (hi : evI Γ it s = .ok (xs.map q) s0) (hl : xs.length ≤ line)
    (h : ∀ x ∈ xs, ∃ s1, asgT t (.pur (q x)) { s0 with r := wipe s0.r own } = some s1 ∧ evE Γ c s1 = .ok (.pur (.bl (p x))) s1 ∧ (p x = true → evE Γ e s1 = .ok (.pur (g x)) s1)) :
    evE Γ (.lc e t it (.cons c .nil) own) s = .ok (.pur (.lst ((xs.filter p).map g))) s0 := lc_fil q g p xs hi hl fun x hx => by
  obtain ⟨s1, e1, e2, e3⟩ := h x hx
  obtain ⟨h1, h2⟩ := asgT_lm e1
  exact ⟨s1, s1, s1, e1, e2, h1, h2, fun z => ⟨e3 z, h1, h2⟩⟩
/-- a comprehension of draws: the store may change -/
theorem lc_st {l : List (Option (List P))} {r : List (Option D)} {m m0 : List Cell} (I : List Cell → Prop) (Q : P → Prop) (hi : evI Γ it { r := r, m := m, l := l } = .ok items { r := r, m := m0, l := l }) (hI : I m0) (hl : items.length ≤ line)
    (h : ∀ x ∈ items, ∀ m, I m → ∃ s1 s3 p, asgT t (.pur x) { r := wipe r own, m := m, l := l } = some s1 ∧ evE Γ e s1 = .ok (.pur p) s3 ∧ s3.l = l ∧ I s3.m ∧ Q p) :
    ∃ ps m', evE Γ (.lc e t it .nil own) { r := r, m := m, l := l } = .ok (.pur (.lst ps)) { r := r, m := m', l := l } ∧ I m' ∧ ps.length = items.length ∧ ∀ p ∈ ps, Q p := by
  obtain ⟨ps, m', ec, h1, h2, h3⟩ := comp_st (t := t) (own := own) (c := evC Γ .nil) (f := evE Γ e) (r0 := r) (l := l) I Q (xs := items) (r := r) (m := m0) (fun x hx m hm => by
    obtain ⟨s1, s3, p, e1, e2, e3, e4, e5⟩ := h x hx m hm
    exact ⟨s1, s1, s3, p, e1, rfl, e2, e3, e4, e5⟩) hI
  refine ⟨ps, m', ?_, h1, h2, h3⟩
  rw [z_lc, hi, z_bind, z_kLc]
  dsimp only
  rw [ec]
  show (if _ then _ else _) = _
  rw [if_pos (by omega)]
end
/-- a loop's invariant over what is left -/
theorem for_inv {t : T} {b : S → R Fl} (J : List P → S → Prop) (Q : Fl → S → Prop) : ∀ {xs : List P} {s : S}, J xs s →
    (∀ x xs s, J (x :: xs) s → ∃ s1, asgT t (.pur x) s = some s1 ∧ ((∃ s2, (b s1 = .ok .nx s2 ∨ b s1 = .ok .ct s2) ∧ J xs s2) ∨ (∃ s2, b s1 = .ok .bk s2 ∧ Q .nx s2) ∨ ∃ d s2, b s1 = .ok (.rt d) s2 ∧ Q (.rt d) s2)) →
    (∀ s, J [] s → Q .nx s) → ∃ f s', forF t b xs s = .ok f s' ∧ Q f s'
  | [], s, h, hs, he => ⟨.nx, s, rfl, he s h⟩
  | x :: xs, s, h, hs, he => by
    obtain ⟨s1, e1, h2⟩ := hs x xs s h
    rw [z_for1, e1]
    rcases h2 with ⟨s2, e2, h2⟩ | ⟨s2, e2, h2⟩ | ⟨d, s2, e2, h2⟩
    · obtain ⟨f, s', e3, q⟩ := for_inv J Q h2 hs he
      refine ⟨f, s', ?_, q⟩
      rcases e2 with e2 | e2 <;> (dsimp only; rw [e2]; exact e3)
    · exact ⟨.nx, s2, by dsimp only; rw [e2]; rfl, h2⟩
    · exact ⟨.rt d, s2, by dsimp only; rw [e2]; rfl, h2⟩
/-- a loop whose body never leaves -/
theorem for_all {t : T} {b : S → R Fl} (J : List P → S → Prop) {xs : List P} {s : S} (h : J xs s)
    (hs : ∀ x xs s, J (x :: xs) s → ∃ s1, asgT t (.pur x) s = some s1 ∧ ∃ s2, b s1 = .ok .nx s2 ∧ J xs s2) : ∃ s', forF t b xs s = .ok .nx s' ∧ J [] s' := by
  obtain ⟨f, s', e, q⟩ := for_inv J (fun f s => f = .nx ∧ J [] s) h (fun x xs s h => by
    obtain ⟨s1, e1, s2, e2, h2⟩ := hs x xs s h
    exact ⟨s1, e1, .inl ⟨s2, .inl e2, h2⟩⟩) fun s h => ⟨rfl, h⟩
  obtain ⟨rfl, q⟩ := q
  exact ⟨s', e, q⟩
/-- how a search ends -/
def fnd : Option P → S → R Fl
  | some p, s => .ok (.rt (.pur p)) s
  | none, s => .ok .nx s
theorem z_fnd {Γ : Cfg} {o : Option P} {s : S} : (fnd o s).bind (kS Γ .nil) = fnd o s := by cases o <;> rfl
theorem fnd_then {Γ : Cfg} {o : Option P} {s : S} {r : Stms} : (fnd o s).bind (kS Γ r) = match o with
    | some p => .ok (.rt (.pur p)) s
    | none => exSs Γ r s := by cases o <;> rfl
/-- a loop that looks for something -/
theorem for_find {α : Type} {t : T} {b : S → R Fl} (q : α → P) (g : α → Option P) (J : S → Prop) : ∀ {xs : List α} {s : S}, J s →
    (∀ x ∈ xs, ∀ s, J s → ∃ s1 s2, asgT t (.pur (q x)) s = some s1 ∧ J s2 ∧ b s1 = fnd (g x) s2) → ∃ s', J s' ∧ forF t b (xs.map q) s = fnd (xs.findSome? g) s'
  | [], s, h, _ => ⟨s, h, rfl⟩
  | x :: xs, s, h, hs => by
    obtain ⟨s1, s2, e1, h2, e2⟩ := hs x List.mem_cons_self s h
    rw [List.map_cons, z_for1, e1, List.findSome?_cons]
    dsimp only
    rw [e2]
    cases hg : g x with
    | some p => exact ⟨s2, h2, rfl⟩
    | none =>
      obtain ⟨s', h', e'⟩ := for_find q g J h2 (xs := xs) fun y hy => hs y (List.mem_cons_of_mem _ hy)
      exact ⟨s', h', e'⟩
theorem it_rng2 {Γ : Cfg} {a b : E} {s s1 s2 : S} {i j : Int} (h1 : evE Γ a s = .ok (.pur (.int i)) s1) (h2 : evE Γ b s1 = .ok (.pur (.int j)) s2) (i0 : -1000000 ≤ i) (i1 : i ≤ 1000000) (j0 : -1000000 ≤ j) (j1 : j ≤ 1000000) : evI Γ (.rng2 a b) s = .ok ((List.range (j - i).toNat).map fun (k : Nat) => P.int (i + (k : Int))) s2 := by
  rw [z_rng2, h1, z_bind, z_kRng2, h2, z_bind, z_kRng3]
  rfl
theorem it_rng2L {Γ : Cfg} {a b : E} {s s1 s2 : S} {i j : Int} (h1 : evE Γ a s = .ok (.pur (.int i)) s1) (h2 : evE Γ b s1 = .ok (.pur (.int j)) s2) : evI Γ (.rng2 a b) s = .ok ((List.range (j - i).toNat).map fun (k : Nat) => P.int (i + (k : Int))) s2 := by
  rw [z_rng2, h1, z_bind, z_kRng2, h2, z_bind, z_kRng3]
  rfl
theorem rng0 (k : Nat) : rngP 0 k = (List.range k).map fun (i : Nat) => P.int (i : Int) := by
  unfold rngP
  have e : (fun (i : Nat) => P.int (0 + (i : Int))) = fun (i : Nat) => P.int (i : Int) := funext fun i => by rw [Int.zero_add]
  rw [e]
theorem z_lenA {s : S} {k : Nat} : bifD s .len [.loc k] = (lenD s (.loc k)).map fun (n : Nat) => P.int (n : Int) := (rfl)
theorem z_lenB {s : S} {k : Nat} : lenD s (.loc k) = match s.l[k]? with
    | some (some ps) => some ps.length
    | _ => none := (rfl)
theorem z_rcA {s : S} {k : Nat} : recv s (.loc k) .append = match s.l[k]? with
    | some (some _) => true
    | _ => false := (rfl)
theorem z_mtA {s : S} {k : Nat} {p : P} : mthD s (.loc k) .append [.pur p] = match s.l[k]? with
    | some (some ps) => if ps.length < line then .ok (.pur .non) { s with l := s.l.set k (some (ps ++ [p])) } else .st
    | _ => .st := (rfl)
theorem z_lcat {l : List (Option (List P))} {x : Option (List P)} : (l ++ [x])[l.length]? = some x := List.getElem?_concat_length
theorem z_lset {l : List (Option (List P))} {x y : Option (List P)} : (l ++ [x]).set l.length y = l ++ [y] := by
  rw [List.set_append_right _ _ (Nat.le_refl _), Nat.sub_self, List.set_cons_zero]
theorem z_stA {s : S} {k : Nat} {i : Int} {p : P} : stoD s (.loc k) (.pur (.int i)) (.pur p) = match s.l[k]? with
    | some (some ps) => (ixOf ps.length i).map fun j => { s with l := s.l.set k (some (ps.set j p)) }
    | _ => none := (rfl)
theorem z_ixA {s : S} {k : Nat} {i : Int} : idxD s (.loc k) (.pur (.int i)) = match s.l[k]? with
    | some (some ps) => (atP ps i).map D.pur
    | _ => none := (rfl)
theorem z_ixM {s : S} {k : Nat} {y : D} : idxM s (.loc k) y = idxD s (.loc k) y := (rfl)
theorem z_i0 {n : Nat} : ixOf (n + 1) 0 = some 0 := by unfold ixOf; rw [if_pos (by omega), if_pos (by omega)]; rfl
theorem z_i1 {n : Nat} : ixOf (n + 2) 1 = some 1 := by unfold ixOf; rw [if_pos (by omega), if_pos (by omega)]; rfl
theorem z_i2 {n : Nat} : ixOf (n + 3) 2 = some 2 := by unfold ixOf; rw [if_pos (by omega), if_pos (by omega)]; rfl
theorem z_i3 {n : Nat} : ixOf (n + 4) 3 = some 3 := by unfold ixOf; rw [if_pos (by omega), if_pos (by omega)]; rfl
theorem z_fdiv2 {i : Int} : binP .FloorDiv (.int i) (.int 2) = some (.int (i / 2)) := z_div (by decide) (by decide)
theorem z_fdiv6 {i : Int} : binP .FloorDiv (.int i) (.int 6) = some (.int (i / 6)) := z_div (by decide) (by decide)
theorem z_fmod6 {i : Int} : binP .Mod (.int i) (.int 6) = some (.int (i % 6)) := z_mod (by decide)
theorem z_mul6 {i : Int} : binP .Mult (.int 6) (.int i) = some (.int (6 * i)) := z_mul (mulL (by decide) (by decide))
theorem z_mul2 {i : Int} : binP .Mult (.int 2) (.int i) = some (.int (2 * i)) := z_mul (mulL (by decide) (by decide))
theorem log_small {i : Int} (h1 : -10000000000000000000000000000000000000000000000000000000000000000000000000000000000000000000000000000 < i) (h2 : i < 10000000000000000000000000000000000000000000000000000000000000000000000000000000000000000000000000000) : i.natAbs.log2 < 400000 := by
  have h : i.natAbs < 10000000000000000000000000000000000000000000000000000000000000000000000000000000000000000000000000000 := by omega
  by_cases z : i.natAbs = 0
  · rw [z]
    decide
  · have : i.natAbs.log2 < 400 := (Nat.log2_lt z).mpr (Nat.lt_trans h (by decide))
    omega
/-- numbers of a hundred digits may be multiplied -/
theorem mulB {i j : Int} (h1 : -10000000000000000000000000000000000000000000000000000000000000000000000000000000000000000000000000000 < i) (h2 : i < 10000000000000000000000000000000000000000000000000000000000000000000000000000000000000000000000000000) (h3 : -10000000000000000000000000000000000000000000000000000000000000000000000000000000000000000000000000000 < j) (h4 : j < 10000000000000000000000000000000000000000000000000000000000000000000000000000000000000000000000000000) : mulOK i j = true := by
  unfold mulOK
  rw [decide_eq_true (log_small h1 h2), decide_eq_true (log_small h3 h4)]
  simp
/-- a loop over 0, 1, .. that never leaves -/
theorem for_rng {t : T} {b : S → R Fl} (q : Nat → P) (J : Nat → S → Prop) : ∀ {M : Nat} {s : S}, J 0 s → (∀ j, j < M → ∀ s, J j s → ∃ s1 s2, asgT t (.pur (q j)) s = some s1 ∧ b s1 = .ok .nx s2 ∧ J (j + 1) s2) → ∃ s', forF t b ((List.range M).map q) s = .ok .nx s' ∧ J M s'
  | 0, s, h, _ => ⟨s, rfl, h⟩
  | M + 1, s, h, hs => by
    obtain ⟨s1, s2, e1, e2, h2⟩ := hs 0 (by omega) s h
    obtain ⟨s', e3, h3⟩ := for_rng (M := M) (fun j => q (j + 1)) (fun j => J (j + 1)) h2 fun j hj => hs (j + 1) (by omega)
    refine ⟨s', ?_, h3⟩
    rw [List.range_succ_eq_map, List.map_cons, List.map_map, z_for1, e1]
    dsimp only
    rw [e2]
    exact e3
/-- a loop over a list that never leaves -/
theorem for_lst {α : Type} {t : T} {b : S → R Fl} (q : α → P) (J : List α → S → Prop) : ∀ {xs : List α} {s : S}, J xs s → (∀ x xs s, J (x :: xs) s → ∃ s1 s2, asgT t (.pur (q x)) s = some s1 ∧ b s1 = .ok .nx s2 ∧ J xs s2) → ∃ s', forF t b (xs.map q) s = .ok .nx s' ∧ J [] s'
  | [], s, h, _ => ⟨s, rfl, h⟩
  | x :: xs, s, h, hs => by
    obtain ⟨s1, s2, e1, e2, h2⟩ := hs x xs s h
    obtain ⟨s', e3, h3⟩ := for_lst q J h2 hs
    refine ⟨s', ?_, h3⟩
    rw [List.map_cons, z_for1, e1]
    dsimp only
    rw [e2]
    exact e3
theorem wh_S {c : S → R D} {b : S → R Fl} {k : Nat} {s : S} : whileF c b (k + 1) s = (c s).bind fun d s1 => match d with
    | .pur (.bl true) => (b s1).bind fun f s2 => match f with
      | .nx => whileF c b k s2
      | .ct => whileF c b k s2
      | .bk => .ok .nx s2
      | .rt d => .ok (.rt d) s2
    | .pur (.bl false) => .ok .nx s1
    | _ => .st := rfl
theorem wh_end {c : S → R D} {b : S → R Fl} {k : Nat} {s s1 : S} (h : c s = .ok (.pur (.bl false)) s1) : whileF c b (k + 1) s = .ok .nx s1 := by
  rw [wh_S, h]
  rfl
theorem wh_go {c : S → R D} {b : S → R Fl} {k : Nat} {s s1 s2 : S} (h : c s = .ok (.pur (.bl true)) s1) (h2 : b s1 = .ok .nx s2) : whileF c b (k + 1) s = whileF c b k s2 := by
  rw [wh_S, h, z_bind]
  dsimp only
  rw [h2]
  rfl
/-- range(n) with n given by a state -/
theorem it_rng1 {Γ : Cfg} {a : E} {s s' : S} {n : Nat} (h : evE Γ a s = .ok (.pur (.int (n : Int))) s') (hn : n ≤ 4000000000000000000) : evI Γ (.rng1 a) s = .ok ((List.range n).map fun (i : Nat) => P.int (i : Int)) s' := by
  rw [z_rng1, h, z_bind, z_kRng1]
  have g1 : -p62 ≤ (n : Int) := by unfold p62; omega
  have g2 : (n : Int) < p62 := by unfold p62; omega
  dsimp only
  rw [decide_eq_true g1, decide_eq_true g2, ← rng0]
  rfl
theorem it_rng1' {Γ : Cfg} {a : E} {s s' : S} {n : Int} (h : evE Γ a s = .ok (.pur (.int n)) s') (h0 : 0 ≤ n) (hn : n ≤ 4000000000000000000) : evI Γ (.rng1 a) s = .ok ((List.range n.toNat).map fun (i : Nat) => P.int (i : Int)) s' :=
  it_rng1 (by rw [Int.toNat_of_nonneg h0]; exact h) (by omega)
/-- a def that returns data -/
theorem run_rt {Γ : Cfg} {np n : Nat} {b : Stms} {ds : List D} {m : List Cell} {p : P} {s' : S} (hl : ds.length = np) (h : exSs Γ b { r := ds.map some ++ List.replicate (n - ds.length) none, m := m, l := [] } = .ok (.rt (.pur p)) s') : runDef Γ np n b ds m = .ok (.pur p) s'.m := by
  unfold runDef
  rw [if_pos hl, h]
/-! ### slices -/
section
variable {α : Type}
theorem sIx_nat (n d k : Nat) : sIx n d (some (k : Int)) = min k n := by
  unfold sIx
  dsimp only
  rw [if_neg (by omega)]
  omega
theorem cut_take (xs : List α) (k : Nat) : cutP xs none (some (k : Int)) = xs.take k := by
  unfold cutP
  rw [sIx_nat]
  show (xs.drop 0).take (min k xs.length - 0) = _
  rw [List.drop_zero, Nat.sub_zero]
  by_cases h : k ≤ xs.length
  · rw [Nat.min_eq_left h]
  · rw [Nat.min_eq_right (by omega), List.take_length, List.take_of_length_le (by omega)]
theorem cut_drop (xs : List α) (k : Nat) : cutP xs (some (k : Int)) none = xs.drop k := by
  unfold cutP
  rw [sIx_nat]
  show (xs.drop (min k xs.length)).take (xs.length - min k xs.length) = _
  by_cases h : k ≤ xs.length
  · rw [Nat.min_eq_left h, List.take_of_length_le (by rw [List.length_drop]; omega)]
  · rw [Nat.min_eq_right (by omega), Nat.sub_self, List.take_zero, List.drop_eq_nil_of_le (by omega)]
theorem cut_mid (xs : List α) (k j : Nat) (h : k + j ≤ xs.length) : cutP xs (some (k : Int)) (some ((k : Int) + (j : Int))) = (xs.drop k).take j := by
  have e : (k : Int) + (j : Int) = ((k + j : Nat) : Int) := by omega
  unfold cutP
  rw [e, sIx_nat, sIx_nat, Nat.min_eq_left (show k ≤ xs.length by omega), Nat.min_eq_left h]
  congr 1
  omega
end
theorem z_slT {ps : List P} {lo hi : Option Int} : slcP (.tup ps) lo hi = some (.tup (cutP ps lo hi)) := (rfl)
theorem z_slL {ps : List P} {lo hi : Option Int} : slcP (.lst ps) lo hi = some (.lst (cutP ps lo hi)) := (rfl)
theorem z_p1 (ps : List P) : purs (ps.map D.pur) = some ps := by
  induction ps with
  | nil => rfl
  | cons p ps ih => simp only [List.map_cons, purs, ih, Option.map_some]
theorem z_p2 (ps : List P) (r : List D) : purs (ps.map D.pur ++ r) = (purs r).map (ps ++ ·) := by
  induction ps with
  | nil => cases h : purs r <;> simp [h]
  | cons p ps ih =>
    rw [List.map_cons, List.cons_append]
    show (purs (ps.map D.pur ++ r)).map (p :: ·) = _
    rw [ih]
    cases purs r <;> rfl
end Ev
end

section
set_option Elab.async false
set_option linter.all false
set_option maxRecDepth 100000
set_option maxHeartbeats 4000000
/-! the defs of a law, printed by prt.py -/
namespace HL
open PySem L2 Ev
def top (i : Nat) : Stmt := PySem.Challenge.pw_heaplevels_k01_heaps_refused.main.body.getD i (.Pass ⟨0, 0, 0, 0⟩)
def nm (i : Nat) : Str := ((([(6, "_law_alike"), (0, "is_integer"), (1, "are_integers"), (2, "are_marks"), (3, "are_holes"), (4, "is_one_of"), (5, "is_course"), (28, "mirrored_course"), (34, "_law_joined"), (17, "_law_next"), (18, "_law_pick"), (24, "_law_course")] : List (Nat × Str)) ++ ([(25, "_law_courses"), (33, "_law_mirror"), (35, "_law_are_told"), (29, "_law_whole"), (30, "_law_is_shut"), (31, "_law_is_course"), (32, "_law_tried"), (36, "_law_odd"), (26, "_law_mix"), (27, "law")] : List (Nat × Str))).lookup i).getD ""
def cn (i : Nat) : Str := ((([(0, "Heap"), (2, "InvalidCourse"), (3, "TooHigh"), (1, "HeapError")] : List (Nat × Str)).lookup i).getD "")
def mtab (i : Nat) : Nat × Str := ((([(0, (0, "mirrored")), (1, (0, "__eq__")), (3, (0, "__len__")), (2, (0, "__add__"))] : List (Nat × (Nat × Str))).lookup i).getD (0, Str.empty))
def ptab (i : Nat) : Nat × Str := ((([(4, (0, "courses"))] : List (Nat × (Nat × Str))).lookup i).getD (0, Str.empty))
def lx : List (Nat × List Str) := [(2, ["index"]), (3, [])]
def lb : List Nat := [1]
def xfs (c : Nat) : Option (List Str) := lx.lookup c
theorem v_x_InvalidCourse : xfs 2 = some (["index"] : List Str) := by kernel_rfl
theorem bx_InvalidCourse : BindsX ["index"] (inClass (top 2) 0) := fun _ _ _ _ _ _ _ _ _ us hd hl => by
  subst hd
  exact match us, hl with | [_, _], _ => rfl
theorem xo_InvalidCourse : xok ["index"] (inClass (top 2) 0) = true := by decide +kernel
theorem v_x_TooHigh : xfs 3 = some ([] : List Str) := by kernel_rfl
theorem bx_TooHigh : BindsX [] (inClass (top 3) 0) := fun _ _ _ _ _ _ _ _ _ us hd hl => by
  subst hd
  exact match us, hl with | [_], _ => rfl
theorem xo_TooHigh : xok [] (inClass (top 3) 0) = true := by decide +kernel
def gl : List (Str × P) := [("MOST_COURSES", (.int 3)), ("MOST_KIND", (.int 2)), ("NO_HOLES", (.tup [(.int 0), (.int 0), (.int 0)])), ("SIDES", (.tup [(.str "left"), (.str "right")])), ("WIDTHS", (.tup [(.str "full"), (.str "less"), (.str "more")]))]
def glb (x : Str) : Option P := gl.lookup x
theorem v_MOST_COURSES : glb "MOST_COURSES" = some (.int 3) := by kernel_rfl
theorem v_MOST_KIND : glb "MOST_KIND" = some (.int 2) := by kernel_rfl
theorem v_NO_HOLES : glb "NO_HOLES" = some (.tup [(.int 0), (.int 0), (.int 0)]) := by kernel_rfl
theorem v_SIDES : glb "SIDES" = some (.tup [(.str "left"), (.str "right")]) := by kernel_rfl
theorem v_WIDTHS : glb "WIDTHS" = some (.tup [(.str "full"), (.str "less"), (.str "more")]) := by kernel_rfl
def fl : List (Nat × Str) := [(0, "layers")]
def fa (c : Nat) (x : Str) : Bool := fl.contains (c, x)
/-! _law_alike -/
def k__law_alike_1 : E := (.lc (.slot 2) (.nm 2) (.rng1 (.bif .len (.cons (.slot 1) .nil))) (.cons (.not (.calp 6 (.cons (.idx (.slot 0) (.slot 2)) (.cons (.idx (.slot 1) (.slot 2)) .nil)))) .nil) [2])
def b__law_alike : Stms := (.cons (.ifs (.isi (.slot 1) .dict) (.cons (.ret (.bop .And (.cons (.isi (.slot 0) .dict) (.cons (.calp 6 (.cons (.bif .list (.cons (.slot 0) .nil)) (.cons (.bif .list (.cons (.slot 1) .nil)) .nil))) (.cons (.cmp .Eq (.slot 0) (.slot 1)) .nil))))) .nil) .nil) (.cons (.ifs (.isT (.slot 1) [.tuple, .list]) (.cons (.ifs (.bop .Or (.cons (.not (.isT (.slot 0) [.tuple, .list])) (.cons (.cmp .NotEq (.isi (.slot 0) .list) (.isi (.slot 1) .list)) .nil))) (.cons (.ret (.cst (.bl false))) .nil) .nil) (.cons (.ifs (.cmp .NotEq (.bif .len (.cons (.slot 0) .nil)) (.bif .len (.cons (.slot 1) .nil))) (.cons (.ret (.cst (.bl false))) .nil) .nil) (.cons (.ret (.cmp .Eq k__law_alike_1 (.lst .nil))) .nil))) .nil) (.cons (.ifs (.bop .Or (.cons (.cmp .Is (.slot 1) (.cst .non)) (.cons (.isi (.slot 1) .str) .nil))) (.cons (.ret (.bop .And (.cons (.cmp .Eq (.slot 0) (.slot 1)) (.cons (.cmp .Eq (.isi (.slot 0) .str) (.isi (.slot 1) .str)) .nil)))) .nil) .nil) (.cons (.ret (.bop .And (.cons (.isi (.slot 0) .int) (.cons (.cmp .Eq (.isi (.slot 0) .bool) (.isi (.slot 1) .bool)) (.cons (.cmp .Eq (.slot 0) (.slot 1)) .nil))))) .nil))))
def d__law_alike : Dat := ⟨"_law_alike", "_law_alike", top 21, ["_law_found", "_law_due", "_law_k"], ["_law_found", "_law_due"], b__law_alike⟩
def G__law_alike (F : Fn) : Cfg := mkG glb fa [(6, F)] [] [] []
def F__law_alike_at : Nat → Fn
  | 0 => noFn
  | j + 1 => d__law_alike.run (G__law_alike (F__law_alike_at j))
theorem g__law_alike__law_alike {F : Fn} : (G__law_alike F).fns 6 = F := (rfl)
theorem g__law_alike_g {F : Fn} : (G__law_alike F).glb = glb := (rfl)
theorem g__law_alike_a {F : Fn} : (G__law_alike F).fa = fa := (rfl)
def F__law_alike : Fn := F__law_alike_at 6
theorem ok__law_alike (F : Fn) : d__law_alike.ok (mkT nm cn [(6, F)] [] [] [] mtab ptab []) = true := by
  show d__law_alike.ok (mkT nm cn [(6, noFn)] [] [] [] mtab ptab []) = true
  decide +kernel
/-! is_integer -/
def b_is_integer : Stms := (.cons (.ret (.bop .And (.cons (.isi (.slot 0) .int) (.cons (.not (.isi (.slot 0) .bool)) (.cons (.chn .LtE .LtE (.slot 1) (.slot 0) (.slot 2)) .nil))))) .nil)
def d_is_integer : Dat := ⟨"is_integer", "is_integer", top 10, ["thing", "low", "high"], ["thing", "low", "high"], b_is_integer⟩
def G_is_integer : Cfg := mkG glb fa [] [] [] [] lx
def F_is_integer : Fn := d_is_integer.run G_is_integer
theorem g_is_integer_x : G_is_integer.xf = xfs := (rfl)
theorem g_is_integer_g : G_is_integer.glb = glb := (rfl)
theorem g_is_integer_a : G_is_integer.fa = fa := (rfl)
theorem ok_is_integer : d_is_integer.ok (mkT nm cn [] [] [] [] mtab ptab [] lx lb) = true := by decide +kernel
/-! are_integers -/
def k_are_integers_1 : E := (.lc (.calp 0 (.cons (.slot 2) (.cons (.cst (.int 0)) (.cons (.cst (.int 3)) .nil)))) (.nm 2) (.seq (.slot 0)) .nil [2])
def b_are_integers : Stms := (.cons (.ret (.bop .And (.cons (.isi (.slot 0) .tuple) (.cons (.cmp .Eq (.bif .len (.cons (.slot 0) .nil)) (.slot 1)) (.cons (.bif .all (.cons k_are_integers_1 .nil)) .nil))))) .nil)
def d_are_integers : Dat := ⟨"are_integers", "are_integers", top 12, ["thing", "many", "part"], ["thing", "many"], b_are_integers⟩
def G_are_integers : Cfg := mkG glb fa [(0, F_is_integer)] [] [] [] lx
def F_are_integers : Fn := d_are_integers.run G_are_integers
theorem g_are_integers_x : G_are_integers.xf = xfs := (rfl)
theorem g_are_integers_is_integer : G_are_integers.fns 0 = F_is_integer := (rfl)
theorem g_are_integers_g : G_are_integers.glb = glb := (rfl)
theorem g_are_integers_a : G_are_integers.fa = fa := (rfl)
theorem ok_are_integers : d_are_integers.ok (mkT nm cn [(0, F_is_integer)] [] [] [] mtab ptab [] lx lb) = true := by decide +kernel
/-! are_marks -/
def b_are_marks : Stms := (.cons (.ret (.bop .And (.cons (.calp 1 (.cons (.slot 0) (.cons (.cst (.int 2)) .nil))) (.cons (.cmp .Gt (.idx (.slot 0) (.cst (.int 0))) (.cst (.int 0))) (.cons (.cmp .LtE (.idx (.slot 0) (.cst (.int 1))) (.cst (.int 2))) .nil))))) .nil)
def d_are_marks : Dat := ⟨"are_marks", "are_marks", top 14, ["thing"], ["thing"], b_are_marks⟩
def G_are_marks : Cfg := mkG glb fa [(1, F_are_integers)] [] [] [] lx
def F_are_marks : Fn := d_are_marks.run G_are_marks
theorem g_are_marks_x : G_are_marks.xf = xfs := (rfl)
theorem g_are_marks_are_integers : G_are_marks.fns 1 = F_are_integers := (rfl)
theorem g_are_marks_g : G_are_marks.glb = glb := (rfl)
theorem g_are_marks_a : G_are_marks.fa = fa := (rfl)
theorem ok_are_marks : d_are_marks.ok (mkT nm cn [(1, F_are_integers)] [] [] [] mtab ptab [] lx lb) = true := by decide +kernel
/-! are_holes -/
def b_are_holes : Stms := (.cons (.ifs (.not (.calp 1 (.cons (.slot 0) (.cons (.cst (.int 3)) .nil)))) (.cons (.ret (.cst (.bl false))) .nil) .nil) (.cons (.ret (.bop .Or (.cons (.cmp .Eq (.slot 0) (.glb "NO_HOLES")) (.cons (.bop .And (.cons (.cmp .Gt (.idx (.slot 0) (.cst (.int 0))) (.cst (.int 1))) (.cons (.cmp .LtE (.idx (.slot 0) (.cst (.int 1))) (.cst (.int 2))) (.cons (.cmp .Lt (.idx (.slot 0) (.cst (.int 2))) (.idx (.slot 0) (.cst (.int 0)))) .nil)))) .nil)))) .nil))
def d_are_holes : Dat := ⟨"are_holes", "are_holes", top 13, ["thing"], ["thing"], b_are_holes⟩
def G_are_holes : Cfg := mkG glb fa [(1, F_are_integers)] [] [] [] lx
def F_are_holes : Fn := d_are_holes.run G_are_holes
theorem g_are_holes_x : G_are_holes.xf = xfs := (rfl)
theorem g_are_holes_are_integers : G_are_holes.fns 1 = F_are_integers := (rfl)
theorem g_are_holes_g : G_are_holes.glb = glb := (rfl)
theorem g_are_holes_a : G_are_holes.fa = fa := (rfl)
theorem ok_are_holes : d_are_holes.ok (mkT nm cn [(1, F_are_integers)] [] [] [] mtab ptab [] lx lb) = true := by decide +kernel
/-! is_one_of -/
def b_is_one_of : Stms := (.cons (.ret (.bop .And (.cons (.isi (.slot 0) .str) (.cons (.cmp .In (.slot 0) (.slot 1)) .nil)))) .nil)
def d_is_one_of : Dat := ⟨"is_one_of", "is_one_of", top 11, ["thing", "some"], ["thing", "some"], b_is_one_of⟩
def G_is_one_of : Cfg := mkG glb fa [] [] [] [] lx
def F_is_one_of : Fn := d_is_one_of.run G_is_one_of
theorem g_is_one_of_x : G_is_one_of.xf = xfs := (rfl)
theorem g_is_one_of_g : G_is_one_of.glb = glb := (rfl)
theorem g_is_one_of_a : G_is_one_of.fa = fa := (rfl)
theorem ok_is_one_of : d_is_one_of.ok (mkT nm cn [] [] [] [] mtab ptab [] lx lb) = true := by decide +kernel
/-! is_course -/
def b_is_course : Stms := (.cons (.ifs (.bop .Or (.cons (.not (.isi (.slot 0) .tuple)) (.cons (.cmp .Eq (.slot 0) (.tup .nil)) .nil))) (.cons (.ret (.cst (.bl false))) .nil) .nil) (.cons (.ifs (.calp 4 (.cons (.idx (.slot 0) (.cst (.int 0))) (.cons (.tup (.cons (.cst (.str "lid")) .nil)) .nil))) (.cons (.ret (.bop .And (.cons (.cmp .Eq (.bif .len (.cons (.slot 0) .nil)) (.cst (.int 2))) (.cons (.calp 0 (.cons (.idx (.slot 0) (.cst (.int 1))) (.cons (.cst (.int 0)) (.cons (.glb "MOST_KIND") .nil)))) .nil)))) .nil) .nil) (.cons (.ifs (.bop .Or (.cons (.not (.calp 4 (.cons (.idx (.slot 0) (.cst (.int 0))) (.cons (.tup (.cons (.cst (.str "wall")) .nil)) .nil)))) (.cons (.cmp .NotEq (.bif .len (.cons (.slot 0) .nil)) (.cst (.int 6))) .nil))) (.cons (.ret (.cst (.bl false))) .nil) .nil) (.cons (.ifs (.bop .Or (.cons (.not (.calp 4 (.cons (.idx (.slot 0) (.cst (.int 1))) (.cons (.glb "WIDTHS") .nil)))) (.cons (.not (.calp 4 (.cons (.idx (.slot 0) (.cst (.int 2))) (.cons (.glb "SIDES") .nil)))) (.cons (.not (.isi (.idx (.slot 0) (.cst (.int 3))) .bool)) .nil)))) (.cons (.ret (.cst (.bl false))) .nil) .nil) (.cons (.ret (.bop .And (.cons (.calp 3 (.cons (.idx (.slot 0) (.cst (.int 4))) .nil)) (.cons (.calp 2 (.cons (.idx (.slot 0) (.cst (.int 5))) .nil)) .nil)))) .nil)))))
def d_is_course : Dat := ⟨"is_course", "is_course", top 15, ["thing"], ["thing"], b_is_course⟩
def G_is_course : Cfg := mkG glb fa [(2, F_are_marks), (3, F_are_holes), (4, F_is_one_of), (0, F_is_integer)] [] [] [] lx
def F_is_course : Fn := d_is_course.run G_is_course
theorem g_is_course_x : G_is_course.xf = xfs := (rfl)
theorem g_is_course_are_marks : G_is_course.fns 2 = F_are_marks := (rfl)
theorem g_is_course_are_holes : G_is_course.fns 3 = F_are_holes := (rfl)
theorem g_is_course_is_one_of : G_is_course.fns 4 = F_is_one_of := (rfl)
theorem g_is_course_is_integer : G_is_course.fns 0 = F_is_integer := (rfl)
theorem g_is_course_g : G_is_course.glb = glb := (rfl)
theorem g_is_course_a : G_is_course.fa = fa := (rfl)
theorem ok_is_course : d_is_course.ok (mkT nm cn [(2, F_are_marks), (3, F_are_holes), (4, F_is_one_of), (0, F_is_integer)] [] [] [] mtab ptab [] lx lb) = true := by decide +kernel
/-! Heap_init -/
def b_Heap_init_l1 : Stms := (.cons (.ifs (.not (.calp 5 (.cons (.slot 3) .nil))) (.cons (.rai 2 (.cons (.slot 2) .nil)) .nil) .nil) .nil)
def b_Heap_init : Stms := (.cons (.ifs (.bop .Or (.cons (.not (.isi (.slot 1) .tuple)) (.cons (.not (.chn .LtE .LtE (.cst (.int 1)) (.bif .len (.cons (.slot 1) .nil)) (.glb "MOST_COURSES"))) .nil))) (.cons (.rai 2 (.cons (.cst .non) .nil)) .nil) .nil) (.cons (.forr (.tp [2, 3]) (.enu (.slot 1)) b_Heap_init_l1) (.cons (.stf (.slot 0) "layers" (.slot 1)) .nil)))
def d_Heap_init : Dat := ⟨"__init__", "Heap.__init__", inClass (top 17) 0, ["self", "courses", "index", "course"], ["self", "courses"], b_Heap_init⟩
def G_Heap_init : Cfg := mkG glb fa [(5, F_is_course)] [] [] [] lx
def F_Heap_init : Fn := d_Heap_init.run G_Heap_init
theorem g_Heap_init_x : G_Heap_init.xf = xfs := (rfl)
theorem g_Heap_init_is_course : G_Heap_init.fns 5 = F_is_course := (rfl)
theorem g_Heap_init_g : G_Heap_init.glb = glb := (rfl)
theorem g_Heap_init_a : G_Heap_init.fa = fa := (rfl)
theorem ok_Heap_init : d_Heap_init.ok (mkT nm cn [(5, F_is_course)] [] [] [] mtab ptab [] lx lb) = true := by decide +kernel
/-! mirrored_course -/
def b_mirrored_course : Stms := (.cons (.ifs (.cmp .Eq (.idx (.slot 0) (.cst (.int 0))) (.cst (.str "lid"))) (.cons (.ret (.slot 0)) .nil) .nil) (.cons (.unp [1, 2, 3, 4, 5, 6] (.slot 0)) (.cons (.ret (.tup (.cons (.slot 1) (.cons (.slot 2) (.cons (.ite (.cmp .Eq (.slot 3) (.cst (.str "left"))) (.cst (.str "right")) (.cst (.str "left"))) (.cons (.not (.slot 4)) (.cons (.slot 5) (.cons (.slot 6) .nil)))))))) .nil)))
def d_mirrored_course : Dat := ⟨"mirrored_course", "mirrored_course", top 16, ["course", "word", "width", "side", "back", "holes", "marks"], ["course"], b_mirrored_course⟩
def G_mirrored_course : Cfg := mkG glb fa [] [] [] [] lx
def F_mirrored_course : Fn := d_mirrored_course.run G_mirrored_course
theorem g_mirrored_course_x : G_mirrored_course.xf = xfs := (rfl)
theorem g_mirrored_course_g : G_mirrored_course.glb = glb := (rfl)
theorem g_mirrored_course_a : G_mirrored_course.fa = fa := (rfl)
theorem ok_mirrored_course : d_mirrored_course.ok (mkT nm cn [] [] [] [] mtab ptab [] lx lb) = true := by decide +kernel
/-! Heap_mirrored -/
def k_Heap_mirrored_1 : E := (.lc (.calp 28 (.cons (.slot 1) .nil)) (.nm 1) (.seq (.fld (.slot 0) "layers")) .nil [1])
def b_Heap_mirrored : Stms := (.cons (.ret (.mkf 0 (.cons (.bif .tuple (.cons k_Heap_mirrored_1 .nil)) .nil))) .nil)
def d_Heap_mirrored : Dat := ⟨"mirrored", "Heap.mirrored", inClass (top 17) 2, ["self", "course"], ["self"], b_Heap_mirrored⟩
def G_Heap_mirrored : Cfg := mkG glb fa [(28, F_mirrored_course)] [(0, F_Heap_init)] [] [] lx
def F_Heap_mirrored : Fn := d_Heap_mirrored.run G_Heap_mirrored
theorem g_Heap_mirrored_x : G_Heap_mirrored.xf = xfs := (rfl)
theorem g_Heap_mirrored_mirrored_course : G_Heap_mirrored.fns 28 = F_mirrored_course := (rfl)
theorem g_Heap_mirrored_Heap : G_Heap_mirrored.ini 0 = F_Heap_init := (rfl)
theorem g_Heap_mirrored_g : G_Heap_mirrored.glb = glb := (rfl)
theorem g_Heap_mirrored_a : G_Heap_mirrored.fa = fa := (rfl)
theorem ok_Heap_mirrored : d_Heap_mirrored.ok (mkT nm cn [(28, F_mirrored_course)] [(0, F_Heap_init)] [] [] mtab ptab [] lx lb) = true := by decide +kernel
/-! Heap___eq__ -/
def b_Heap___eq__ : Stms := (.cons (.ret (.bop .And (.cons (.isc 0 (.slot 1)) (.cons (.cmp .Eq (.fld (.slot 0) "layers") (.fld (.slot 1) "layers")) .nil)))) .nil)
def d_Heap___eq__ : Dat := ⟨"__eq__", "Heap.__eq__", inClass (top 17) 4, ["self", "other"], ["self", "other"], b_Heap___eq__⟩
def G_Heap___eq__ : Cfg := mkG glb fa [] [] [] [] lx
def F_Heap___eq__ : Fn := d_Heap___eq__.run G_Heap___eq__
theorem g_Heap___eq___x : G_Heap___eq__.xf = xfs := (rfl)
theorem g_Heap___eq___g : G_Heap___eq__.glb = glb := (rfl)
theorem g_Heap___eq___a : G_Heap___eq__.fa = fa := (rfl)
theorem ok_Heap___eq__ : d_Heap___eq__.ok (mkT nm cn [] [] [] [] mtab ptab [0] lx lb) = true := by decide +kernel
/-! Heap___len__ -/
def b_Heap___len__ : Stms := (.cons (.ret (.bif .len (.cons (.fld (.slot 0) "layers") .nil))) .nil)
def d_Heap___len__ : Dat := ⟨"__len__", "Heap.__len__", inClass (top 17) 3, ["self"], ["self"], b_Heap___len__⟩
def G_Heap___len__ : Cfg := mkG glb fa [] [] [] [] lx
def F_Heap___len__ : Fn := d_Heap___len__.run G_Heap___len__
theorem g_Heap___len___x : G_Heap___len__.xf = xfs := (rfl)
theorem g_Heap___len___g : G_Heap___len__.glb = glb := (rfl)
theorem g_Heap___len___a : G_Heap___len__.fa = fa := (rfl)
theorem ok_Heap___len__ : d_Heap___len__.ok (mkT nm cn [] [] [] [] mtab ptab [] lx lb) = true := by decide +kernel
/-! Heap_courses -/
def b_Heap_courses : Stms := (.cons (.ret (.fld (.slot 0) "layers")) .nil)
def d_Heap_courses : Dat := ⟨"courses", "Heap.courses", inClass (top 17) 1, ["self"], ["self"], b_Heap_courses⟩
def G_Heap_courses : Cfg := mkG glb fa [] [] [] [] lx
def F_Heap_courses : Fn := d_Heap_courses.run G_Heap_courses
theorem g_Heap_courses_x : G_Heap_courses.xf = xfs := (rfl)
theorem g_Heap_courses_g : G_Heap_courses.glb = glb := (rfl)
theorem g_Heap_courses_a : G_Heap_courses.fa = fa := (rfl)
theorem ok_Heap_courses : d_Heap_courses.ok (mkT nm cn [] [] [] [] mtab ptab [] lx lb) = true := by decide +kernel
/-! Heap___add__ -/
def b_Heap___add__ : Stms := (.cons (.ifs (.cmp .Gt (.bin .Add (.bif .len (.cons (.fld (.slot 0) "layers") .nil)) (.bif .len (.cons (.fld (.slot 1) "layers") .nil))) (.glb "MOST_COURSES")) (.cons (.rai 3 .nil) .nil) .nil) (.cons (.ret (.mkf 0 (.cons (.bin .Add (.fld (.slot 0) "layers") (.fld (.slot 1) "layers")) .nil))) .nil))
def d_Heap___add__ : Dat := ⟨"__add__", "Heap.__add__", inClass (top 17) 5, ["self", "other"], ["self", "other"], b_Heap___add__⟩
def G_Heap___add__ : Cfg := mkG glb fa [] [(0, F_Heap_init)] [] [] lx
def F_Heap___add__ : Fn := d_Heap___add__.run G_Heap___add__
theorem g_Heap___add___x : G_Heap___add__.xf = xfs := (rfl)
theorem g_Heap___add___Heap : G_Heap___add__.ini 0 = F_Heap_init := (rfl)
theorem g_Heap___add___g : G_Heap___add__.glb = glb := (rfl)
theorem g_Heap___add___a : G_Heap___add__.fa = fa := (rfl)
theorem ok_Heap___add__ : d_Heap___add__.ok (mkT nm cn [] [(0, F_Heap_init)] [] [] mtab ptab [] lx lb) = true := by decide +kernel
/-! _law_joined -/
def b__law_joined : Stms := (.cons (.asg 2 (.cst .non)) (.cons (.tryS (.cons (.asg 2 (.opb .Add 0 2 (.slot 0) (.slot 1))) .nil) [⟨3, none, 2, none, .cst .non⟩]) (.cons (.ret (.slot 2)) .nil)))
def d__law_joined : Dat := ⟨"_law_joined", "_law_joined", top 30, ["_law_one", "_law_two", "_law_found"], ["_law_one", "_law_two"], b__law_joined⟩
def G__law_joined : Cfg := mkG glb fa [] [] [(2, F_Heap___add__)] [] lx
def F__law_joined : Fn := d__law_joined.run G__law_joined
theorem g__law_joined_x : G__law_joined.xf = xfs := (rfl)
theorem g__law_joined_Heap___add__ : G__law_joined.mts 2 = F_Heap___add__ := (rfl)
theorem g__law_joined_g : G__law_joined.glb = glb := (rfl)
theorem g__law_joined_a : G__law_joined.fa = fa := (rfl)
theorem ok__law_joined : d__law_joined.ok (mkT nm cn [] [] [(2, F_Heap___add__)] [] mtab ptab [0] lx lb) = true := by decide +kernel
/-! _law_next -/
def b__law_next : Stms := (.cons (.asg 2 (.idx (.bin .Add (.idx (.slot 0) (.cst (.int 1))) (.lst (.cons (.cst (.int 0)) .nil))) (.bin .Mod (.bif .int (.cons (.idx (.slot 0) (.cst (.int 2))) .nil)) (.bif .max (.cons (.cst (.int 1)) (.cons (.bif .len (.cons (.idx (.slot 0) (.cst (.int 1))) .nil)) .nil)))))) (.cons (.ifs (.cmp .GtE (.slot 2) (.bin .Pow (.cst (.int 10)) (.cst (.int 18)))) (.cons (.sto (.idx (.slot 0) (.cst (.int 1))) (.bin .Mod (.bif .int (.cons (.idx (.slot 0) (.cst (.int 2))) .nil)) (.bif .len (.cons (.idx (.slot 0) (.cst (.int 1))) .nil))) (.bin .FloorDiv (.slot 2) (.slot 1))) (.cons (.ret (.bin .Mod (.bif .int (.cons (.slot 2) .nil)) (.slot 1))) .nil)) .nil) (.cons (.sto (.slot 0) (.cst (.int 0)) (.bin .Mod (.bif .int (.cons (.bin .Add (.bin .Add (.bin .Mult (.idx (.slot 0) (.cst (.int 0))) (.cst (.int 48271))) (.bin .Mult (.slot 2) (.cst (.int 69621)))) (.cst (.int 11))) .nil)) (.cst (.int 2147483647)))) (.cons (.sto (.slot 0) (.cst (.int 2)) (.bin .Add (.idx (.slot 0) (.cst (.int 2))) (.cst (.int 1)))) (.cons (.ret (.bin .Mod (.bif .int (.cons (.bin .FloorDiv (.idx (.slot 0) (.cst (.int 0))) (.cst (.int 7))) .nil)) (.slot 1))) .nil)))))
def d__law_next : Dat := ⟨"_law_next", "_law_next", top 20, ["_law_h", "_law_cap", "_law_cell"], ["_law_h", "_law_cap"], b__law_next⟩
def G__law_next : Cfg := mkG glb fa [] [] [] [] lx
def F__law_next : Fn := d__law_next.run G__law_next
theorem g__law_next_x : G__law_next.xf = xfs := (rfl)
theorem g__law_next_g : G__law_next.glb = glb := (rfl)
theorem g__law_next_a : G__law_next.fa = fa := (rfl)
theorem ok__law_next : d__law_next.ok (mkT nm cn [] [] [] [] mtab ptab [] lx lb) = true := by decide +kernel
/-! _law_pick -/
def b__law_pick : Stms := (.cons (.ret (.idx (.slot 1) (.call 17 (.cons (.slot 0) (.cons (.bif .len (.cons (.slot 1) .nil)) .nil))))) .nil)
def d__law_pick : Dat := ⟨"_law_pick", "_law_pick", top 22, ["_law_h", "_law_things"], ["_law_h", "_law_things"], b__law_pick⟩
def G__law_pick : Cfg := mkG glb fa [(17, F__law_next)] [] [] [] lx
def F__law_pick : Fn := d__law_pick.run G__law_pick
theorem g__law_pick_x : G__law_pick.xf = xfs := (rfl)
theorem g__law_pick__law_next : G__law_pick.fns 17 = F__law_next := (rfl)
theorem g__law_pick_g : G__law_pick.glb = glb := (rfl)
theorem g__law_pick_a : G__law_pick.fa = fa := (rfl)
theorem ok__law_pick : d__law_pick.ok (mkT nm cn [(17, F__law_next)] [] [] [] mtab ptab [] lx lb) = true := by decide +kernel
/-! _law_course -/
def b__law_course : Stms := (.cons (.ifs (.cmp .Eq (.call 17 (.cons (.slot 0) (.cons (.cst (.int 5)) .nil))) (.cst (.int 0))) (.cons (.ret (.tup (.cons (.cst (.str "lid")) (.cons (.call 17 (.cons (.slot 0) (.cons (.cst (.int 3)) .nil))) .nil)))) .nil) .nil) (.cons (.par [1, 2] (.cons (.call 18 (.cons (.slot 0) (.cons (.lst (.cons (.cst (.int 0)) (.cons (.cst (.int 0)) (.cons (.cst (.int 2)) (.cons (.cst (.int 3)) .nil))))) .nil))) (.cons (.tup (.cons (.cst (.int 0)) (.cons (.cst (.int 0)) (.cons (.cst (.int 0)) .nil)))) .nil))) (.cons (.ifs (.cmp .Gt (.slot 1) (.cst (.int 0))) (.cons (.asg 2 (.tup (.cons (.slot 1) (.cons (.call 17 (.cons (.slot 0) (.cons (.cst (.int 3)) .nil))) (.cons (.call 17 (.cons (.slot 0) (.cons (.slot 1) .nil))) .nil))))) .nil) .nil) (.cons (.par [3, 4] (.cons (.call 18 (.cons (.slot 0) (.cons (.lst (.cons (.cst (.str "full")) (.cons (.cst (.str "less")) (.cons (.cst (.str "more")) .nil)))) .nil))) (.cons (.call 18 (.cons (.slot 0) (.cons (.lst (.cons (.cst (.str "left")) (.cons (.cst (.str "right")) .nil))) .nil))) .nil))) (.cons (.ret (.tup (.cons (.cst (.str "wall")) (.cons (.slot 3) (.cons (.slot 4) (.cons (.cmp .Eq (.call 17 (.cons (.slot 0) (.cons (.cst (.int 2)) .nil))) (.cst (.int 0))) (.cons (.slot 2) (.cons (.tup (.cons (.bin .Add (.cst (.int 1)) (.call 17 (.cons (.slot 0) (.cons (.cst (.int 3)) .nil)))) (.cons (.call 17 (.cons (.slot 0) (.cons (.cst (.int 3)) .nil))) .nil))) .nil)))))))) .nil)))))
def d__law_course : Dat := ⟨"_law_course", "_law_course", top 23, ["_law_h", "_law_k", "_law_holes", "_law_width", "_law_side"], ["_law_h"], b__law_course⟩
def G__law_course : Cfg := mkG glb fa [(17, F__law_next), (18, F__law_pick)] [] [] [] lx
def F__law_course : Fn := d__law_course.run G__law_course
theorem g__law_course_x : G__law_course.xf = xfs := (rfl)
theorem g__law_course__law_next : G__law_course.fns 17 = F__law_next := (rfl)
theorem g__law_course__law_pick : G__law_course.fns 18 = F__law_pick := (rfl)
theorem g__law_course_g : G__law_course.glb = glb := (rfl)
theorem g__law_course_a : G__law_course.fa = fa := (rfl)
theorem ok__law_course : d__law_course.ok (mkT nm cn [(17, F__law_next), (18, F__law_pick)] [] [] [] mtab ptab [] lx lb) = true := by decide +kernel
/-! _law_courses -/
def k__law_courses_1 : E := (.lc (.call 24 (.cons (.slot 0) .nil)) (.nm 2) (.rng1 (.bin .Add (.cst (.int 1)) (.call 17 (.cons (.slot 0) (.cons (.slot 1) .nil))))) .nil [2])
def b__law_courses : Stms := (.cons (.ret (.bif .tuple (.cons k__law_courses_1 .nil))) .nil)
def d__law_courses : Dat := ⟨"_law_courses", "_law_courses", top 24, ["_law_h", "_law_most", "_law_k"], ["_law_h", "_law_most"], b__law_courses⟩
def G__law_courses : Cfg := mkG glb fa [(24, F__law_course), (17, F__law_next)] [] [] [] lx
def F__law_courses : Fn := d__law_courses.run G__law_courses
theorem g__law_courses_x : G__law_courses.xf = xfs := (rfl)
theorem g__law_courses__law_course : G__law_courses.fns 24 = F__law_course := (rfl)
theorem g__law_courses__law_next : G__law_courses.fns 17 = F__law_next := (rfl)
theorem g__law_courses_g : G__law_courses.glb = glb := (rfl)
theorem g__law_courses_a : G__law_courses.fa = fa := (rfl)
theorem ok__law_courses : d__law_courses.ok (mkT nm cn [(24, F__law_course), (17, F__law_next)] [] [] [] mtab ptab [] lx lb) = true := by decide +kernel
/-! _law_mirror -/
def b__law_mirror : Stms := (.cons (.ifs (.cmp .Eq (.idx (.slot 0) (.cst (.int 0))) (.cst (.str "lid"))) (.cons (.ret (.slot 0)) .nil) .nil) (.cons (.asg 1 (.dsel ["left", "right"] (.cons (.cst (.str "right")) (.cons (.cst (.str "left")) .nil)) (.idx (.slot 0) (.cst (.int 2))))) (.cons (.ret (.bin .Add (.bin .Add (.slc (.slot 0) .none (.some (.cst (.int 2)))) (.tup (.cons (.slot 1) (.cons (.not (.idx (.slot 0) (.cst (.int 3)))) .nil)))) (.slc (.slot 0) (.some (.cst (.int 4))) .none))) .nil)))
def d__law_mirror : Dat := ⟨"_law_mirror", "_law_mirror", top 29, ["_law_course_here", "_law_side"], ["_law_course_here"], b__law_mirror⟩
def G__law_mirror : Cfg := mkG glb fa [] [] [] [] lx
def F__law_mirror : Fn := d__law_mirror.run G__law_mirror
theorem g__law_mirror_x : G__law_mirror.xf = xfs := (rfl)
theorem g__law_mirror_g : G__law_mirror.glb = glb := (rfl)
theorem g__law_mirror_a : G__law_mirror.fa = fa := (rfl)
theorem ok__law_mirror : d__law_mirror.ok (mkT nm cn [] [] [] [] mtab ptab [] lx lb) = true := by decide +kernel
/-! _law_are_told -/
def k__law_are_told_1 : E := (.lc (.calp 33 (.cons (.slot 5) .nil)) (.nm 5) (.seq (.slot 2)) .nil [5])
def b__law_are_told : Stms := (.cons (.ifs (.bop .Or (.cons (.not (.calp 6 (.cons (.prop 0 "courses" 4 (.slot 1)) (.cons (.slot 2) .nil)))) (.cons (.cmp .NotEq (.lenO 0 3 (.slot 1)) (.bif .len (.cons (.slot 2) .nil))) .nil))) (.cons (.ret (.cst (.bl false))) .nil) .nil) (.cons (.ifs (.bop .Or (.cons (.not (.opc .Eq 0 1 (.slot 1) (.mkf 0 (.cons (.slot 2) .nil)))) (.cons (.opc .Eq 0 1 (.slot 1) (.slot 2)) .nil))) (.cons (.ret (.cst (.bl false))) .nil) .nil) (.cons (.ifs (.cmp .NotEq (.prop 0 "courses" 4 (.meth 0 "mirrored" 0 (.slot 1) .nil)) (.bif .tuple (.cons k__law_are_told_1 .nil))) (.cons (.ret (.cst (.bl false))) .nil) .nil) (.cons (.asg 3 (.call 25 (.cons (.slot 0) (.cons (.cst (.int 2)) .nil)))) (.cons (.asg 4 (.calp 34 (.cons (.slot 1) (.cons (.mkf 0 (.cons (.slot 3) .nil)) .nil)))) (.cons (.ifs (.cmp .Gt (.bif .len (.cons (.bin .Add (.slot 2) (.slot 3)) .nil)) (.cst (.int 3))) (.cons (.ret (.cmp .Is (.slot 4) (.cst .non))) .nil) .nil) (.cons (.ret (.bop .And (.cons (.cmp .IsNot (.slot 4) (.cst .non)) (.cons (.cmp .Eq (.prop 0 "courses" 4 (.slot 4)) (.bin .Add (.slot 2) (.slot 3))) .nil)))) .nil)))))))
def d__law_are_told : Dat := ⟨"_law_are_told", "_law_are_told", top 31, ["_law_h", "_law_heap", "_law_courses_here", "_law_more", "_law_joined_here", "_law_course_here"], ["_law_h", "_law_heap", "_law_courses_here"], b__law_are_told⟩
def G__law_are_told : Cfg := mkG glb fa [(34, F__law_joined), (25, F__law_courses), (33, F__law_mirror), (6, F__law_alike)] [(0, F_Heap_init)] [(0, F_Heap_mirrored), (1, F_Heap___eq__), (3, F_Heap___len__)] [(4, F_Heap_courses)] lx
def F__law_are_told : Fn := d__law_are_told.run G__law_are_told
theorem g__law_are_told_x : G__law_are_told.xf = xfs := (rfl)
theorem g__law_are_told__law_joined : G__law_are_told.fns 34 = F__law_joined := (rfl)
theorem g__law_are_told__law_courses : G__law_are_told.fns 25 = F__law_courses := (rfl)
theorem g__law_are_told__law_mirror : G__law_are_told.fns 33 = F__law_mirror := (rfl)
theorem g__law_are_told__law_alike : G__law_are_told.fns 6 = F__law_alike := (rfl)
theorem g__law_are_told_Heap : G__law_are_told.ini 0 = F_Heap_init := (rfl)
theorem g__law_are_told_Heap_mirrored : G__law_are_told.mts 0 = F_Heap_mirrored := (rfl)
theorem g__law_are_told_Heap___eq__ : G__law_are_told.mts 1 = F_Heap___eq__ := (rfl)
theorem g__law_are_told_Heap___len__ : G__law_are_told.mts 3 = F_Heap___len__ := (rfl)
theorem g__law_are_told_Heap_courses : G__law_are_told.prs 4 = F_Heap_courses := (rfl)
theorem g__law_are_told_g : G__law_are_told.glb = glb := (rfl)
theorem g__law_are_told_a : G__law_are_told.fa = fa := (rfl)
theorem ok__law_are_told : d__law_are_told.ok (mkT nm cn [(34, F__law_joined), (25, F__law_courses), (33, F__law_mirror), (6, F__law_alike)] [(0, F_Heap_init)] [(0, F_Heap_mirrored), (1, F_Heap___eq__), (3, F_Heap___len__)] [(4, F_Heap_courses)] mtab ptab [] lx lb) = true := by decide +kernel
/-! _law_whole -/
def b__law_whole : Stms := (.cons (.ret (.bop .And (.cons (.isi (.slot 0) .int) (.cons (.not (.isi (.slot 0) .bool)) (.cons (.chn .LtE .LtE (.slot 1) (.slot 0) (.slot 2)) .nil))))) .nil)
def d__law_whole : Dat := ⟨"_law_whole", "_law_whole", top 25, ["_law_thing", "_law_low", "_law_high"], ["_law_thing", "_law_low", "_law_high"], b__law_whole⟩
def G__law_whole : Cfg := mkG glb fa [] [] [] [] lx
def F__law_whole : Fn := d__law_whole.run G__law_whole
theorem g__law_whole_x : G__law_whole.xf = xfs := (rfl)
theorem g__law_whole_g : G__law_whole.glb = glb := (rfl)
theorem g__law_whole_a : G__law_whole.fa = fa := (rfl)
theorem ok__law_whole : d__law_whole.ok (mkT nm cn [] [] [] [] mtab ptab [] lx lb) = true := by decide +kernel
/-! _law_is_shut -/
def b__law_is_shut : Stms := (.cons (.unp [1, 2, 3, 4, 5, 6] (.slot 0)) (.cons (.ifs (.bop .Or (.cons (.cmp .NotEq (.slot 1) (.cst (.str "wall"))) (.cons (.cmp .NotIn (.slot 2) (.lst (.cons (.cst (.str "full")) (.cons (.cst (.str "less")) (.cons (.cst (.str "more")) .nil))))) (.cons (.cmp .NotIn (.slot 3) (.lst (.cons (.cst (.str "left")) (.cons (.cst (.str "right")) .nil)))) .nil)))) (.cons (.ret (.cst (.bl false))) .nil) .nil) (.cons (.ifs (.bop .Or (.cons (.not (.isi (.slot 4) .bool)) (.cons (.not (.isi (.slot 5) .tuple)) (.cons (.not (.isi (.slot 6) .tuple)) .nil)))) (.cons (.ret (.cst (.bl false))) .nil) .nil) (.cons (.ifs (.bop .Or (.cons (.cmp .NotEq (.bif .len (.cons (.slot 6) .nil)) (.cst (.int 2))) (.cons (.not (.calp 29 (.cons (.idx (.slot 6) (.cst (.int 0))) (.cons (.cst (.int 1)) (.cons (.cst (.int 3)) .nil))))) (.cons (.not (.calp 29 (.cons (.idx (.slot 6) (.cst (.int 1))) (.cons (.cst (.int 0)) (.cons (.cst (.int 2)) .nil))))) .nil)))) (.cons (.ret (.cst (.bl false))) .nil) .nil) (.cons (.ifs (.bop .Or (.cons (.cmp .NotEq (.bif .len (.cons (.slot 5) .nil)) (.cst (.int 3))) (.cons (.not (.calp 29 (.cons (.idx (.slot 5) (.cst (.int 0))) (.cons (.cst (.int 0)) (.cons (.cst (.int 3)) .nil))))) (.cons (.not (.calp 29 (.cons (.idx (.slot 5) (.cst (.int 1))) (.cons (.cst (.int 0)) (.cons (.cst (.int 2)) .nil))))) .nil)))) (.cons (.ret (.cst (.bl false))) .nil) .nil) (.cons (.ifs (.bop .Or (.cons (.not (.calp 29 (.cons (.idx (.slot 5) (.cst (.int 2))) (.cons (.cst (.int 0)) (.cons (.cst (.int 2)) .nil))))) (.cons (.cmp .Eq (.idx (.slot 5) (.cst (.int 0))) (.cst (.int 1))) .nil))) (.cons (.ret (.cst (.bl false))) .nil) .nil) (.cons (.ret (.bop .Or (.cons (.cmp .Eq (.slot 5) (.tup (.cons (.cst (.int 0)) (.cons (.cst (.int 0)) (.cons (.cst (.int 0)) .nil))))) (.cons (.cmp .Lt (.idx (.slot 5) (.cst (.int 2))) (.idx (.slot 5) (.cst (.int 0)))) .nil)))) .nil)))))))
def d__law_is_shut : Dat := ⟨"_law_is_shut", "_law_is_shut", top 26, ["_law_thing", "_law_word", "_law_width", "_law_side", "_law_back", "_law_holes", "_law_marks"], ["_law_thing"], b__law_is_shut⟩
def G__law_is_shut : Cfg := mkG glb fa [(29, F__law_whole)] [] [] [] lx
def F__law_is_shut : Fn := d__law_is_shut.run G__law_is_shut
theorem g__law_is_shut_x : G__law_is_shut.xf = xfs := (rfl)
theorem g__law_is_shut__law_whole : G__law_is_shut.fns 29 = F__law_whole := (rfl)
theorem g__law_is_shut_g : G__law_is_shut.glb = glb := (rfl)
theorem g__law_is_shut_a : G__law_is_shut.fa = fa := (rfl)
theorem ok__law_is_shut : d__law_is_shut.ok (mkT nm cn [(29, F__law_whole)] [] [] [] mtab ptab [] lx lb) = true := by decide +kernel
/-! _law_is_course -/
def b__law_is_course : Stms := (.cons (.ifs (.bop .Or (.cons (.not (.isi (.slot 0) .tuple)) (.cons (.cmp .NotIn (.bif .len (.cons (.slot 0) .nil)) (.lst (.cons (.cst (.int 2)) (.cons (.cst (.int 6)) .nil)))) .nil))) (.cons (.ret (.cst (.bl false))) .nil) .nil) (.cons (.ifs (.cmp .Eq (.bif .len (.cons (.slot 0) .nil)) (.cst (.int 6))) (.cons (.ret (.calp 30 (.cons (.slot 0) .nil))) .nil) .nil) (.cons (.ret (.bop .And (.cons (.cmp .Eq (.idx (.slot 0) (.cst (.int 0))) (.cst (.str "lid"))) (.cons (.calp 29 (.cons (.idx (.slot 0) (.cst (.int 1))) (.cons (.cst (.int 0)) (.cons (.cst (.int 2)) .nil)))) .nil)))) .nil)))
def d__law_is_course : Dat := ⟨"_law_is_course", "_law_is_course", top 27, ["_law_thing"], ["_law_thing"], b__law_is_course⟩
def G__law_is_course : Cfg := mkG glb fa [(29, F__law_whole), (30, F__law_is_shut)] [] [] [] lx
def F__law_is_course : Fn := d__law_is_course.run G__law_is_course
theorem g__law_is_course_x : G__law_is_course.xf = xfs := (rfl)
theorem g__law_is_course__law_whole : G__law_is_course.fns 29 = F__law_whole := (rfl)
theorem g__law_is_course__law_is_shut : G__law_is_course.fns 30 = F__law_is_shut := (rfl)
theorem g__law_is_course_g : G__law_is_course.glb = glb := (rfl)
theorem g__law_is_course_a : G__law_is_course.fa = fa := (rfl)
theorem ok__law_is_course : d__law_is_course.ok (mkT nm cn [(29, F__law_whole), (30, F__law_is_shut)] [] [] [] mtab ptab [] lx lb) = true := by decide +kernel
/-! _law_tried -/
def b__law_tried : Stms := (.cons (.asg 1 (.cst .non)) (.cons (.tryS (.cons (.asg 1 (.mkf 0 (.cons (.slot 0) .nil))) .nil) [⟨2, some 2, 1, some 1, .lst "index"⟩]) (.cons (.ret (.slot 1)) .nil)))
def d__law_tried : Dat := ⟨"_law_tried", "_law_tried", top 28, ["_law_courses_here", "_law_found", "error"], ["_law_courses_here"], b__law_tried⟩
def G__law_tried : Cfg := mkG glb fa [] [(0, F_Heap_init)] [] [] lx
def F__law_tried : Fn := d__law_tried.run G__law_tried
theorem g__law_tried_x : G__law_tried.xf = xfs := (rfl)
theorem g__law_tried_Heap : G__law_tried.ini 0 = F_Heap_init := (rfl)
theorem g__law_tried_g : G__law_tried.glb = glb := (rfl)
theorem g__law_tried_a : G__law_tried.fa = fa := (rfl)
theorem ok__law_tried : d__law_tried.ok (mkT nm cn [] [(0, F_Heap_init)] [] [] mtab ptab [] lx lb) = true := by decide +kernel
/-! _law_odd -/
def k__law_odd_1 : E := (.lc (.bin .Add (.tup (.cons (.cst (.str "wall")) .nil)) (.slot 2)) (.nm 2) (.seq (.slot 1)) .nil [2])
def b__law_odd : Stms := (.cons (.asg 0 (.lst (.cons (.cst .non) (.cons (.tup .nil) (.cons (.tup (.cons (.cst (.str "lid")) .nil)) (.cons (.tup (.cons (.cst (.str "lid")) (.cons (.cst (.int 3)) .nil))) (.cons (.tup (.cons (.cst (.str "lid")) (.cons (.cst (.bl true)) .nil))) (.cons (.tup (.cons (.cst (.str "lid")) (.cons (.neg (.cst (.int 1))) .nil))) (.cons (.tup (.cons (.cst (.str "wall")) .nil)) .nil))))))))) (.cons (.asg 0 (.bin .Add (.slot 0) (.lst (.cons (.lst (.cons (.cst (.str "lid")) (.cons (.cst (.int 0)) .nil))) (.cons (.cst (.str "lid")) (.cons (.tup (.cons (.cst (.str "lid")) (.cons (.cst (.int 0)) (.cons (.cst (.int 0)) .nil)))) .nil)))))) (.cons (.asg 1 (.lst (.cons (.tup (.cons (.cst (.str "wide")) (.cons (.cst (.str "left")) (.cons (.cst (.bl false)) (.cons (.tup (.cons (.cst (.int 0)) (.cons (.cst (.int 0)) (.cons (.cst (.int 0)) .nil)))) (.cons (.tup (.cons (.cst (.int 1)) (.cons (.cst (.int 0)) .nil))) .nil)))))) (.cons (.tup (.cons (.cst (.str "full")) (.cons (.cst (.str "back")) (.cons (.cst (.bl false)) (.cons (.tup (.cons (.cst (.int 0)) (.cons (.cst (.int 0)) (.cons (.cst (.int 0)) .nil)))) (.cons (.tup (.cons (.cst (.int 1)) (.cons (.cst (.int 0)) .nil))) .nil)))))) .nil)))) (.cons (.asg 1 (.bin .Add (.slot 1) (.lst (.cons (.tup (.cons (.cst (.str "full")) (.cons (.cst (.str "left")) (.cons (.cst (.int 0)) (.cons (.tup (.cons (.cst (.int 0)) (.cons (.cst (.int 0)) (.cons (.cst (.int 0)) .nil)))) (.cons (.tup (.cons (.cst (.int 1)) (.cons (.cst (.int 0)) .nil))) .nil)))))) .nil)))) (.cons (.asg 1 (.bin .Add (.slot 1) (.lst (.cons (.tup (.cons (.cst (.str "full")) (.cons (.cst (.str "left")) (.cons (.cst (.bl true)) (.cons (.tup (.cons (.cst (.int 1)) (.cons (.cst (.int 0)) (.cons (.cst (.int 0)) .nil)))) (.cons (.tup (.cons (.cst (.int 1)) (.cons (.cst (.int 0)) .nil))) .nil)))))) .nil)))) (.cons (.asg 1 (.bin .Add (.slot 1) (.lst (.cons (.tup (.cons (.cst (.str "full")) (.cons (.cst (.str "left")) (.cons (.cst (.bl true)) (.cons (.tup (.cons (.cst (.int 2)) (.cons (.cst (.int 0)) (.cons (.cst (.int 2)) .nil)))) (.cons (.tup (.cons (.cst (.int 1)) (.cons (.cst (.int 0)) .nil))) .nil)))))) .nil)))) (.cons (.asg 1 (.bin .Add (.slot 1) (.lst (.cons (.tup (.cons (.cst (.str "full")) (.cons (.cst (.str "left")) (.cons (.cst (.bl true)) (.cons (.tup (.cons (.cst (.int 0)) (.cons (.cst (.int 1)) (.cons (.cst (.int 0)) .nil)))) (.cons (.tup (.cons (.cst (.int 1)) (.cons (.cst (.int 0)) .nil))) .nil)))))) .nil)))) (.cons (.asg 1 (.bin .Add (.slot 1) (.lst (.cons (.tup (.cons (.cst (.str "full")) (.cons (.cst (.str "left")) (.cons (.cst (.bl true)) (.cons (.tup (.cons (.cst (.int 3)) (.cons (.cst (.int 3)) (.cons (.cst (.int 0)) .nil)))) (.cons (.tup (.cons (.cst (.int 1)) (.cons (.cst (.int 0)) .nil))) .nil)))))) .nil)))) (.cons (.asg 1 (.bin .Add (.slot 1) (.lst (.cons (.tup (.cons (.cst (.str "full")) (.cons (.cst (.str "left")) (.cons (.cst (.bl true)) (.cons (.tup (.cons (.cst (.int 0)) (.cons (.cst (.int 0)) (.cons (.cst (.int 0)) .nil)))) (.cons (.tup (.cons (.cst (.int 0)) (.cons (.cst (.int 0)) .nil))) .nil)))))) .nil)))) (.cons (.asg 1 (.bin .Add (.slot 1) (.lst (.cons (.tup (.cons (.cst (.str "full")) (.cons (.cst (.str "left")) (.cons (.cst (.bl true)) (.cons (.tup (.cons (.cst (.int 0)) (.cons (.cst (.int 0)) (.cons (.cst (.int 0)) .nil)))) (.cons (.tup (.cons (.cst (.int 1)) (.cons (.cst (.int 3)) .nil))) .nil)))))) .nil)))) (.cons (.asg 1 (.bin .Add (.slot 1) (.lst (.cons (.tup (.cons (.cst (.str "full")) (.cons (.cst (.str "left")) (.cons (.cst (.bl true)) (.cons (.tup (.cons (.cst (.int 0)) (.cons (.cst (.int 0)) (.cons (.cst (.bl false)) .nil)))) (.cons (.tup (.cons (.cst (.int 1)) (.cons (.cst (.int 0)) .nil))) .nil)))))) .nil)))) (.cons (.asg 1 (.bin .Add (.slot 1) (.lst (.cons (.tup (.cons (.cst (.str "full")) (.cons (.cst (.str "left")) (.cons (.cst (.bl true)) (.cons (.lst (.cons (.cst (.int 0)) (.cons (.cst (.int 0)) (.cons (.cst (.int 0)) .nil)))) (.cons (.tup (.cons (.cst (.int 1)) (.cons (.cst (.int 0)) .nil))) .nil)))))) .nil)))) (.cons (.asg 1 (.bin .Add (.slot 1) (.lst (.cons (.tup (.cons (.cst (.str "full")) (.cons (.cst (.str "left")) (.cons (.cst (.bl true)) (.cons (.tup (.cons (.cst (.int 4)) (.cons (.cst (.int 0)) (.cons (.cst (.int 0)) .nil)))) (.cons (.tup (.cons (.cst (.int 1)) (.cons (.cst (.int 0)) .nil))) .nil)))))) .nil)))) (.cons (.ret (.bin .Add (.slot 0) k__law_odd_1)) .nil))))))))))))))
def d__law_odd : Dat := ⟨"_law_odd", "_law_odd", top 32, ["_law_odd_here", "_law_shuts", "_law_shut"], [], b__law_odd⟩
def G__law_odd : Cfg := mkG glb fa [] [] [] [] lx
def F__law_odd : Fn := d__law_odd.run G__law_odd
theorem g__law_odd_x : G__law_odd.xf = xfs := (rfl)
theorem g__law_odd_g : G__law_odd.glb = glb := (rfl)
theorem g__law_odd_a : G__law_odd.fa = fa := (rfl)
theorem ok__law_odd : d__law_odd.ok (mkT nm cn [] [] [] [] mtab ptab [] lx lb) = true := by decide +kernel
/-! _law_mix -/
def b__law_mix_l1 : Stms := (.cons (.asg 2 (.bin .Mod (.bif .int (.cons (.bin .Add (.bin .Add (.bin .Mult (.slot 2) (.cst (.int 48271))) (.bin .Mod (.bif .int (.cons (.slot 3) .nil)) (.cst (.int 2147483629)))) (.cst (.int 1))) .nil)) (.cst (.int 2147483647)))) .nil)
def b__law_mix : Stms := (.cons (.asg 2 (.slot 1)) (.cons (.forr (.nm 3) (.seq (.slot 0)) b__law_mix_l1) (.cons (.ret (.lstC (.cons (.slot 2) (.cons (.listC (.slot 0)) (.cons (.cst (.int 0)) .nil))))) .nil)))
def d__law_mix : Dat := ⟨"_law_mix", "_law_mix", top 19, ["_law_script", "_law_seed", "_law_state", "_law_cell"], ["_law_script", "_law_seed"], b__law_mix⟩
def G__law_mix : Cfg := mkG glb fa [] [] [] [] lx
def F__law_mix : Fn := d__law_mix.run G__law_mix
theorem g__law_mix_x : G__law_mix.xf = xfs := (rfl)
theorem g__law_mix_g : G__law_mix.glb = glb := (rfl)
theorem g__law_mix_a : G__law_mix.fa = fa := (rfl)
theorem ok__law_mix : d__law_mix.ok (mkT nm cn [] [] [] [] mtab ptab [] lx lb) = true := by decide +kernel
/-! law -/
def k_law_1 : E := (.lc (.slot 10) (.nm 10) (.rng1 (.bif .len (.cons (.slot 3) .nil))) (.cons (.not (.calp 31 (.cons (.idx (.slot 3) (.slot 10)) .nil))) .nil) [10])
def b_law_l2 : Stms := (.cons (.asg 7 (.call 17 (.cons (.slot 1) (.cons (.bin .Add (.bif .len (.cons (.slot 3) .nil)) (.cst (.int 1))) .nil)))) (.cons (.par [8, 9] (.cons (.call 18 (.cons (.slot 1) (.cons (.bin .Add (.calp0 36) (.lst (.cons (.call 24 (.cons (.slot 1) .nil)) .nil))) .nil))) (.cons (.slc (.slot 3) (.some (.bin .Add (.slot 7) (.call 17 (.cons (.slot 1) (.cons (.cst (.int 2)) .nil))))) .none) .nil))) (.cons (.asg 3 (.bin .Add (.bin .Add (.slc (.slot 3) .none (.some (.slot 7))) (.tup (.cons (.slot 8) .nil))) (.slot 9))) .nil)))
def b_law_l1 : Stms := (.cons (.asg 3 (.call 25 (.cons (.slot 1) (.cons (.cst (.int 3)) .nil)))) (.cons (.forr (.nm 4) (.rng1 (.call 17 (.cons (.slot 1) (.cons (.cst (.int 2)) .nil)))) b_law_l2) (.cons (.asg 3 (.call 18 (.cons (.slot 1) (.cons (.lst (.cons (.slot 3) (.cons (.slot 3) (.cons (.slot 3) (.cons (.slot 3) (.cons (.bif .list (.cons (.slot 3) .nil)) (.cons (.cst .non) (.cons (.tup .nil) (.cons (.bin .Mult (.slot 3) (.cst (.int 4))) .nil))))))))) .nil)))) (.cons (.par [5, 6] (.cons (.calp 32 (.cons (.slot 3) .nil)) (.cons (.cst .non) .nil))) (.cons (.ifs (.bop .Or (.cons (.not (.isi (.slot 3) .tuple)) (.cons (.not (.chn .LtE .LtE (.cst (.int 1)) (.bif .len (.cons (.slot 3) .nil)) (.cst (.int 3)))) .nil))) (.cons (.asg 6 (.lst (.cons (.cst .non) .nil))) .nil) (.cons (.asg 6 (.slc k_law_1 .none (.some (.cst (.int 1))))) .nil)) (.cons (.ifs (.cmp .NotEq (.slot 6) (.lst .nil)) (.cons (.ifs (.not (.calp 6 (.cons (.slot 5) (.cons (.slot 6) .nil)))) (.cons (.ret (.cst (.bl false))) .nil) .nil) .nil) (.cons (.ifs (.not (.call 35 (.cons (.slot 1) (.cons (.slot 5) (.cons (.slot 3) .nil))))) (.cons (.ret (.cst (.bl false))) .nil) .nil) .nil)) .nil))))))
def b_law : Stms := (.cons (.asg 1 (.call 26 (.cons (.slot 0) (.cons (.cst (.int 1)) .nil)))) (.cons (.forr (.nm 2) (.rng1 (.cst (.int 6))) b_law_l1) (.cons (.ret (.cst (.bl true))) .nil)))
def d_law : Dat := ⟨"law", "law", top 33, ["_law_script", "_law_h", "_law_turn", "_law_courses_here", "_law_change", "_law_found", "_law_due", "_law_spot", "_law_more", "_law_rest", "_law_k"], ["_law_script"], b_law⟩
def G_law : Cfg := mkG glb fa [(6, F__law_alike), (35, F__law_are_told), (31, F__law_is_course), (32, F__law_tried), (18, F__law_pick), (17, F__law_next), (36, F__law_odd), (24, F__law_course), (25, F__law_courses), (26, F__law_mix)] [] [] [] lx
def F_law : Fn := d_law.run G_law
theorem g_law_x : G_law.xf = xfs := (rfl)
theorem g_law__law_alike : G_law.fns 6 = F__law_alike := (rfl)
theorem g_law__law_are_told : G_law.fns 35 = F__law_are_told := (rfl)
theorem g_law__law_is_course : G_law.fns 31 = F__law_is_course := (rfl)
theorem g_law__law_tried : G_law.fns 32 = F__law_tried := (rfl)
theorem g_law__law_pick : G_law.fns 18 = F__law_pick := (rfl)
theorem g_law__law_next : G_law.fns 17 = F__law_next := (rfl)
theorem g_law__law_odd : G_law.fns 36 = F__law_odd := (rfl)
theorem g_law__law_course : G_law.fns 24 = F__law_course := (rfl)
theorem g_law__law_courses : G_law.fns 25 = F__law_courses := (rfl)
theorem g_law__law_mix : G_law.fns 26 = F__law_mix := (rfl)
theorem g_law_g : G_law.glb = glb := (rfl)
theorem g_law_a : G_law.fa = fa := (rfl)
theorem ok_law : d_law.ok (mkT nm cn [(6, F__law_alike), (35, F__law_are_told), (31, F__law_is_course), (32, F__law_tried), (18, F__law_pick), (17, F__law_next), (36, F__law_odd), (24, F__law_course), (25, F__law_courses), (26, F__law_mix)] [] [] [] mtab ptab [] lx lb) = true := by decide +kernel
theorem bd__law_alike : BindsN d__law_alike := fun _ _ _ _ _ _ us hl => match us, hl with | [_, _], _ => rfl
theorem bd_is_integer : BindsN d_is_integer := fun _ _ _ _ _ _ us hl => match us, hl with | [_, _, _], _ => rfl
theorem bd_are_integers : BindsN d_are_integers := fun _ _ _ _ _ _ us hl => match us, hl with | [_, _], _ => rfl
theorem bd_are_marks : BindsN d_are_marks := fun _ _ _ _ _ _ us hl => match us, hl with | [_], _ => rfl
theorem bd_are_holes : BindsN d_are_holes := fun _ _ _ _ _ _ us hl => match us, hl with | [_], _ => rfl
theorem bd_is_one_of : BindsN d_is_one_of := fun _ _ _ _ _ _ us hl => match us, hl with | [_, _], _ => rfl
theorem bd_is_course : BindsN d_is_course := fun _ _ _ _ _ _ us hl => match us, hl with | [_], _ => rfl
theorem bd_Heap_init : BindsN d_Heap_init := fun _ _ _ _ _ _ us hl => match us, hl with | [_, _], _ => rfl
theorem bd_mirrored_course : BindsN d_mirrored_course := fun _ _ _ _ _ _ us hl => match us, hl with | [_], _ => rfl
theorem bd_Heap_mirrored : BindsN d_Heap_mirrored := fun _ _ _ _ _ _ us hl => match us, hl with | [_], _ => rfl
theorem bd_Heap___eq__ : BindsN d_Heap___eq__ := fun _ _ _ _ _ _ us hl => match us, hl with | [_, _], _ => rfl
theorem bd_Heap___len__ : BindsN d_Heap___len__ := fun _ _ _ _ _ _ us hl => match us, hl with | [_], _ => rfl
theorem bd_Heap_courses : BindsN d_Heap_courses := fun _ _ _ _ _ _ us hl => match us, hl with | [_], _ => rfl
theorem bd_Heap___add__ : BindsN d_Heap___add__ := fun _ _ _ _ _ _ us hl => match us, hl with | [_, _], _ => rfl
theorem bd__law_joined : BindsN d__law_joined := fun _ _ _ _ _ _ us hl => match us, hl with | [_, _], _ => rfl
theorem bd__law_next : BindsN d__law_next := fun _ _ _ _ _ _ us hl => match us, hl with | [_, _], _ => rfl
theorem bd__law_pick : BindsN d__law_pick := fun _ _ _ _ _ _ us hl => match us, hl with | [_, _], _ => rfl
theorem bd__law_course : BindsN d__law_course := fun _ _ _ _ _ _ us hl => match us, hl with | [_], _ => rfl
theorem bd__law_courses : BindsN d__law_courses := fun _ _ _ _ _ _ us hl => match us, hl with | [_, _], _ => rfl
theorem bd__law_mirror : BindsN d__law_mirror := fun _ _ _ _ _ _ us hl => match us, hl with | [_], _ => rfl
theorem bd__law_are_told : BindsN d__law_are_told := fun _ _ _ _ _ _ us hl => match us, hl with | [_, _, _], _ => rfl
theorem bd__law_whole : BindsN d__law_whole := fun _ _ _ _ _ _ us hl => match us, hl with | [_, _, _], _ => rfl
theorem bd__law_is_shut : BindsN d__law_is_shut := fun _ _ _ _ _ _ us hl => match us, hl with | [_], _ => rfl
theorem bd__law_is_course : BindsN d__law_is_course := fun _ _ _ _ _ _ us hl => match us, hl with | [_], _ => rfl
theorem bd__law_tried : BindsN d__law_tried := fun _ _ _ _ _ _ us hl => match us, hl with | [_], _ => rfl
theorem bd__law_odd : BindsN d__law_odd := fun _ _ _ _ _ _ us hl => match us, hl with | [], _ => rfl
theorem bd__law_mix : BindsN d__law_mix := fun _ _ _ _ _ _ us hl => match us, hl with | [_, _], _ => rfl
theorem bd_law : BindsN d_law := fun _ _ _ _ _ _ us hl => match us, hl with | [_], _ => rfl
section
variable {Ω : Wd}
/-- what the walk takes from the top -/
structure Txt (Ω : Wd) : Prop where
  top : Top Ω glb fa
  h__law_alike : ∃ f, Has Ω d__law_alike f ∧ Ω.mg "_law_alike" = some (.ref f)
  h_is_integer : ∃ f, Has Ω d_is_integer f ∧ Ω.mg "is_integer" = some (.ref f)
  h_are_integers : ∃ f, Has Ω d_are_integers f ∧ Ω.mg "are_integers" = some (.ref f)
  h_are_marks : ∃ f, Has Ω d_are_marks f ∧ Ω.mg "are_marks" = some (.ref f)
  h_are_holes : ∃ f, Has Ω d_are_holes f ∧ Ω.mg "are_holes" = some (.ref f)
  h_is_one_of : ∃ f, Has Ω d_is_one_of f ∧ Ω.mg "is_one_of" = some (.ref f)
  h_is_course : ∃ f, Has Ω d_is_course f ∧ Ω.mg "is_course" = some (.ref f)
  h_Heap_init : ∃ f, Has Ω d_Heap_init f ∧ Ω.mg "Heap" = some (.ref (Ω.ca 0)) ∧ Mk Ω.K (Ω.ca 0) f
  h_mirrored_course : ∃ f, Has Ω d_mirrored_course f ∧ Ω.mg "mirrored_course" = some (.ref f)
  h_Heap_mirrored : ∃ f, Has Ω d_Heap_mirrored f ∧ Meth Ω.K (Ω.ca 0) "mirrored" f ∧ Cls Ω.K (Ω.ca 0)
  h_Heap___eq__ : ∃ f, Has Ω d_Heap___eq__ f ∧ Meth Ω.K (Ω.ca 0) "__eq__" f ∧ Cls Ω.K (Ω.ca 0)
  h_Heap___len__ : ∃ f, Has Ω d_Heap___len__ f ∧ Meth Ω.K (Ω.ca 0) "__len__" f ∧ Cls Ω.K (Ω.ca 0)
  h_Heap_courses : ∃ p f, Has Ω d_Heap_courses f ∧ PropOf Ω.K (Ω.ca 0) "courses" p f ∧ Cls Ω.K (Ω.ca 0)
  h_Heap___add__ : ∃ f, Has Ω d_Heap___add__ f ∧ Meth Ω.K (Ω.ca 0) "__add__" f ∧ Cls Ω.K (Ω.ca 0)
  h__law_joined : ∃ f, Has Ω d__law_joined f ∧ Ω.mg "_law_joined" = some (.ref f)
  h__law_next : ∃ f, Has Ω d__law_next f ∧ Ω.mg "_law_next" = some (.ref f)
  h__law_pick : ∃ f, Has Ω d__law_pick f ∧ Ω.mg "_law_pick" = some (.ref f)
  h__law_course : ∃ f, Has Ω d__law_course f ∧ Ω.mg "_law_course" = some (.ref f)
  h__law_courses : ∃ f, Has Ω d__law_courses f ∧ Ω.mg "_law_courses" = some (.ref f)
  h__law_mirror : ∃ f, Has Ω d__law_mirror f ∧ Ω.mg "_law_mirror" = some (.ref f)
  h__law_are_told : ∃ f, Has Ω d__law_are_told f ∧ Ω.mg "_law_are_told" = some (.ref f)
  h__law_whole : ∃ f, Has Ω d__law_whole f ∧ Ω.mg "_law_whole" = some (.ref f)
  h__law_is_shut : ∃ f, Has Ω d__law_is_shut f ∧ Ω.mg "_law_is_shut" = some (.ref f)
  h__law_is_course : ∃ f, Has Ω d__law_is_course f ∧ Ω.mg "_law_is_course" = some (.ref f)
  h__law_tried : ∃ f, Has Ω d__law_tried f ∧ Ω.mg "_law_tried" = some (.ref f)
  h__law_odd : ∃ f, Has Ω d__law_odd f ∧ Ω.mg "_law_odd" = some (.ref f)
  h__law_mix : ∃ f, Has Ω d__law_mix f ∧ Ω.mg "_law_mix" = some (.ref f)
  h_law : ∃ f, Has Ω d_law f ∧ Ω.mg "law" = some (.ref f)
  i_Heap : InsF Ω "Heap" (Ω.ca 0)
  x : XTop Ω cn lx lb
theorem e__law_alike_0 (t : Txt Ω) : FnF Ω 0 "_law_alike" (F__law_alike_at 0) := by
  obtain ⟨f, h, m⟩ := t.h__law_alike
  exact dat_never h m
theorem e__law_alike_1 (t : Txt Ω) : FnF Ω 2 "_law_alike" (F__law_alike_at 1) := by
  obtain ⟨f, h, m⟩ := t.h__law_alike
  exact dat_fn (nm := nm) (cl := cn) (k := 0) (l := [(6, F__law_alike_at 0)]) (li := []) (lm := []) (lp := []) (mc := mtab) (pc := ptab) (lk := []) (lx := []) (lb := []) t.top ⟨e__law_alike_0 t, trivial⟩ trivial trivial trivial trivial XTop.nil h m (ok__law_alike _)
theorem e__law_alike_2 (t : Txt Ω) : FnF Ω 4 "_law_alike" (F__law_alike_at 2) := by
  obtain ⟨f, h, m⟩ := t.h__law_alike
  exact dat_fn (nm := nm) (cl := cn) (k := 2) (l := [(6, F__law_alike_at 1)]) (li := []) (lm := []) (lp := []) (mc := mtab) (pc := ptab) (lk := []) (lx := []) (lb := []) t.top ⟨e__law_alike_1 t, trivial⟩ trivial trivial trivial trivial XTop.nil h m (ok__law_alike _)
theorem e__law_alike_3 (t : Txt Ω) : FnF Ω 6 "_law_alike" (F__law_alike_at 3) := by
  obtain ⟨f, h, m⟩ := t.h__law_alike
  exact dat_fn (nm := nm) (cl := cn) (k := 4) (l := [(6, F__law_alike_at 2)]) (li := []) (lm := []) (lp := []) (mc := mtab) (pc := ptab) (lk := []) (lx := []) (lb := []) t.top ⟨e__law_alike_2 t, trivial⟩ trivial trivial trivial trivial XTop.nil h m (ok__law_alike _)
theorem e__law_alike_4 (t : Txt Ω) : FnF Ω 8 "_law_alike" (F__law_alike_at 4) := by
  obtain ⟨f, h, m⟩ := t.h__law_alike
  exact dat_fn (nm := nm) (cl := cn) (k := 6) (l := [(6, F__law_alike_at 3)]) (li := []) (lm := []) (lp := []) (mc := mtab) (pc := ptab) (lk := []) (lx := []) (lb := []) t.top ⟨e__law_alike_3 t, trivial⟩ trivial trivial trivial trivial XTop.nil h m (ok__law_alike _)
theorem e__law_alike_5 (t : Txt Ω) : FnF Ω 10 "_law_alike" (F__law_alike_at 5) := by
  obtain ⟨f, h, m⟩ := t.h__law_alike
  exact dat_fn (nm := nm) (cl := cn) (k := 8) (l := [(6, F__law_alike_at 4)]) (li := []) (lm := []) (lp := []) (mc := mtab) (pc := ptab) (lk := []) (lx := []) (lb := []) t.top ⟨e__law_alike_4 t, trivial⟩ trivial trivial trivial trivial XTop.nil h m (ok__law_alike _)
theorem e__law_alike_6 (t : Txt Ω) : FnF Ω 12 "_law_alike" (F__law_alike_at 6) := by
  obtain ⟨f, h, m⟩ := t.h__law_alike
  exact dat_fn (nm := nm) (cl := cn) (k := 10) (l := [(6, F__law_alike_at 5)]) (li := []) (lm := []) (lp := []) (mc := mtab) (pc := ptab) (lk := []) (lx := []) (lb := []) t.top ⟨e__law_alike_5 t, trivial⟩ trivial trivial trivial trivial XTop.nil h m (ok__law_alike _)
theorem e__law_alike (t : Txt Ω) : FnF Ω 12 "_law_alike" F__law_alike := e__law_alike_6 t
theorem e_is_integer (t : Txt Ω) : FnF Ω 2 "is_integer" F_is_integer := by
  obtain ⟨f, h, m⟩ := t.h_is_integer
  exact dat_fn (nm := nm) (cl := cn) (k := 0) (l := []) (li := []) (lm := []) (lp := []) (mc := mtab) (pc := ptab) (lk := []) (lx := lx) (lb := lb) t.top trivial trivial trivial trivial trivial t.x h m ok_is_integer
theorem e_are_integers (t : Txt Ω) : FnF Ω 4 "are_integers" F_are_integers := by
  obtain ⟨f, h, m⟩ := t.h_are_integers
  exact dat_fn (nm := nm) (cl := cn) (k := 2) (l := [(0, F_is_integer)]) (li := []) (lm := []) (lp := []) (mc := mtab) (pc := ptab) (lk := []) (lx := lx) (lb := lb) t.top ⟨(e_is_integer t).mono (by decide), trivial⟩ trivial trivial trivial trivial t.x h m ok_are_integers
theorem e_are_marks (t : Txt Ω) : FnF Ω 6 "are_marks" F_are_marks := by
  obtain ⟨f, h, m⟩ := t.h_are_marks
  exact dat_fn (nm := nm) (cl := cn) (k := 4) (l := [(1, F_are_integers)]) (li := []) (lm := []) (lp := []) (mc := mtab) (pc := ptab) (lk := []) (lx := lx) (lb := lb) t.top ⟨(e_are_integers t).mono (by decide), trivial⟩ trivial trivial trivial trivial t.x h m ok_are_marks
theorem e_are_holes (t : Txt Ω) : FnF Ω 6 "are_holes" F_are_holes := by
  obtain ⟨f, h, m⟩ := t.h_are_holes
  exact dat_fn (nm := nm) (cl := cn) (k := 4) (l := [(1, F_are_integers)]) (li := []) (lm := []) (lp := []) (mc := mtab) (pc := ptab) (lk := []) (lx := lx) (lb := lb) t.top ⟨(e_are_integers t).mono (by decide), trivial⟩ trivial trivial trivial trivial t.x h m ok_are_holes
theorem e_is_one_of (t : Txt Ω) : FnF Ω 2 "is_one_of" F_is_one_of := by
  obtain ⟨f, h, m⟩ := t.h_is_one_of
  exact dat_fn (nm := nm) (cl := cn) (k := 0) (l := []) (li := []) (lm := []) (lp := []) (mc := mtab) (pc := ptab) (lk := []) (lx := lx) (lb := lb) t.top trivial trivial trivial trivial trivial t.x h m ok_is_one_of
theorem e_is_course (t : Txt Ω) : FnF Ω 8 "is_course" F_is_course := by
  obtain ⟨f, h, m⟩ := t.h_is_course
  exact dat_fn (nm := nm) (cl := cn) (k := 6) (l := [(2, F_are_marks), (3, F_are_holes), (4, F_is_one_of), (0, F_is_integer)]) (li := []) (lm := []) (lp := []) (mc := mtab) (pc := ptab) (lk := []) (lx := lx) (lb := lb) t.top ⟨(e_are_marks t).mono (by decide), (e_are_holes t).mono (by decide), (e_is_one_of t).mono (by decide), (e_is_integer t).mono (by decide), trivial⟩ trivial trivial trivial trivial t.x h m ok_is_course
theorem e_Heap_init (t : Txt Ω) : MkFct Ω 10 "Heap" (Ω.ca 0) F_Heap_init := by
  obtain ⟨f, h, m, z⟩ := t.h_Heap_init
  exact dat_mk (nm := nm) (cl := cn) (k := 8) (l := [(5, F_is_course)]) (li := []) (lm := []) (lp := []) (mc := mtab) (pc := ptab) (lk := []) (lx := lx) (lb := lb) t.top ⟨(e_is_course t).mono (by decide), trivial⟩ trivial trivial trivial trivial t.x h m z ok_Heap_init
theorem e_mirrored_course (t : Txt Ω) : FnF Ω 2 "mirrored_course" F_mirrored_course := by
  obtain ⟨f, h, m⟩ := t.h_mirrored_course
  exact dat_fn (nm := nm) (cl := cn) (k := 0) (l := []) (li := []) (lm := []) (lp := []) (mc := mtab) (pc := ptab) (lk := []) (lx := lx) (lb := lb) t.top trivial trivial trivial trivial trivial t.x h m ok_mirrored_course
theorem e_Heap_mirrored (t : Txt Ω) : MetF Ω 12 (Ω.ca 0) "mirrored" F_Heap_mirrored := by
  obtain ⟨f, h, m, z⟩ := t.h_Heap_mirrored
  exact dat_met (nm := nm) (cl := cn) (k := 10) (l := [(28, F_mirrored_course)]) (li := [(0, F_Heap_init)]) (lm := []) (lp := []) (mc := mtab) (pc := ptab) (lk := []) (lx := lx) (lb := lb) t.top ⟨(e_mirrored_course t).mono (by decide), trivial⟩ ⟨(e_Heap_init t).mono (by decide), trivial⟩ trivial trivial trivial t.x h m z ok_Heap_mirrored
theorem e_Heap___eq__ (t : Txt Ω) : MetF Ω 2 (Ω.ca 0) "__eq__" F_Heap___eq__ := by
  obtain ⟨f, h, m, z⟩ := t.h_Heap___eq__
  exact dat_met (nm := nm) (cl := cn) (k := 0) (l := []) (li := []) (lm := []) (lp := []) (mc := mtab) (pc := ptab) (lk := [0]) (lx := lx) (lb := lb) t.top trivial trivial trivial trivial ⟨t.i_Heap, trivial⟩ t.x h m z ok_Heap___eq__
theorem e_Heap___len__ (t : Txt Ω) : MetF Ω 2 (Ω.ca 0) "__len__" F_Heap___len__ := by
  obtain ⟨f, h, m, z⟩ := t.h_Heap___len__
  exact dat_met (nm := nm) (cl := cn) (k := 0) (l := []) (li := []) (lm := []) (lp := []) (mc := mtab) (pc := ptab) (lk := []) (lx := lx) (lb := lb) t.top trivial trivial trivial trivial trivial t.x h m z ok_Heap___len__
theorem e_Heap_courses (t : Txt Ω) : PrpF Ω 2 (Ω.ca 0) "courses" F_Heap_courses := by
  obtain ⟨_, f, h, m, z⟩ := t.h_Heap_courses
  exact dat_prp (nm := nm) (cl := cn) (k := 0) (l := []) (li := []) (lm := []) (lp := []) (mc := mtab) (pc := ptab) (lk := []) (lx := lx) (lb := lb) t.top trivial trivial trivial trivial trivial t.x h m z ok_Heap_courses
theorem e_Heap___add__ (t : Txt Ω) : MetF Ω 12 (Ω.ca 0) "__add__" F_Heap___add__ := by
  obtain ⟨f, h, m, z⟩ := t.h_Heap___add__
  exact dat_met (nm := nm) (cl := cn) (k := 10) (l := []) (li := [(0, F_Heap_init)]) (lm := []) (lp := []) (mc := mtab) (pc := ptab) (lk := []) (lx := lx) (lb := lb) t.top trivial ⟨(e_Heap_init t).mono (by decide), trivial⟩ trivial trivial trivial t.x h m z ok_Heap___add__
theorem e__law_joined (t : Txt Ω) : FnF Ω 14 "_law_joined" F__law_joined := by
  obtain ⟨f, h, m⟩ := t.h__law_joined
  exact dat_fn (nm := nm) (cl := cn) (k := 12) (l := []) (li := []) (lm := [(2, F_Heap___add__)]) (lp := []) (mc := mtab) (pc := ptab) (lk := [0]) (lx := lx) (lb := lb) t.top trivial trivial ⟨(e_Heap___add__ t).mono (by decide), trivial⟩ trivial ⟨t.i_Heap, trivial⟩ t.x h m ok__law_joined
theorem e__law_next (t : Txt Ω) : FnF Ω 2 "_law_next" F__law_next := by
  obtain ⟨f, h, m⟩ := t.h__law_next
  exact dat_fn (nm := nm) (cl := cn) (k := 0) (l := []) (li := []) (lm := []) (lp := []) (mc := mtab) (pc := ptab) (lk := []) (lx := lx) (lb := lb) t.top trivial trivial trivial trivial trivial t.x h m ok__law_next
theorem e__law_pick (t : Txt Ω) : FnF Ω 4 "_law_pick" F__law_pick := by
  obtain ⟨f, h, m⟩ := t.h__law_pick
  exact dat_fn (nm := nm) (cl := cn) (k := 2) (l := [(17, F__law_next)]) (li := []) (lm := []) (lp := []) (mc := mtab) (pc := ptab) (lk := []) (lx := lx) (lb := lb) t.top ⟨(e__law_next t).mono (by decide), trivial⟩ trivial trivial trivial trivial t.x h m ok__law_pick
theorem e__law_course (t : Txt Ω) : FnF Ω 6 "_law_course" F__law_course := by
  obtain ⟨f, h, m⟩ := t.h__law_course
  exact dat_fn (nm := nm) (cl := cn) (k := 4) (l := [(17, F__law_next), (18, F__law_pick)]) (li := []) (lm := []) (lp := []) (mc := mtab) (pc := ptab) (lk := []) (lx := lx) (lb := lb) t.top ⟨(e__law_next t).mono (by decide), (e__law_pick t).mono (by decide), trivial⟩ trivial trivial trivial trivial t.x h m ok__law_course
theorem e__law_courses (t : Txt Ω) : FnF Ω 8 "_law_courses" F__law_courses := by
  obtain ⟨f, h, m⟩ := t.h__law_courses
  exact dat_fn (nm := nm) (cl := cn) (k := 6) (l := [(24, F__law_course), (17, F__law_next)]) (li := []) (lm := []) (lp := []) (mc := mtab) (pc := ptab) (lk := []) (lx := lx) (lb := lb) t.top ⟨(e__law_course t).mono (by decide), (e__law_next t).mono (by decide), trivial⟩ trivial trivial trivial trivial t.x h m ok__law_courses
theorem e__law_mirror (t : Txt Ω) : FnF Ω 2 "_law_mirror" F__law_mirror := by
  obtain ⟨f, h, m⟩ := t.h__law_mirror
  exact dat_fn (nm := nm) (cl := cn) (k := 0) (l := []) (li := []) (lm := []) (lp := []) (mc := mtab) (pc := ptab) (lk := []) (lx := lx) (lb := lb) t.top trivial trivial trivial trivial trivial t.x h m ok__law_mirror
theorem e__law_are_told (t : Txt Ω) : FnF Ω 16 "_law_are_told" F__law_are_told := by
  obtain ⟨f, h, m⟩ := t.h__law_are_told
  exact dat_fn (nm := nm) (cl := cn) (k := 14) (l := [(34, F__law_joined), (25, F__law_courses), (33, F__law_mirror), (6, F__law_alike)]) (li := [(0, F_Heap_init)]) (lm := [(0, F_Heap_mirrored), (1, F_Heap___eq__), (3, F_Heap___len__)]) (lp := [(4, F_Heap_courses)]) (mc := mtab) (pc := ptab) (lk := []) (lx := lx) (lb := lb) t.top ⟨(e__law_joined t).mono (by decide), (e__law_courses t).mono (by decide), (e__law_mirror t).mono (by decide), (e__law_alike t).mono (by decide), trivial⟩ ⟨(e_Heap_init t).mono (by decide), trivial⟩ ⟨(e_Heap_mirrored t).mono (by decide), (e_Heap___eq__ t).mono (by decide), (e_Heap___len__ t).mono (by decide), trivial⟩ ⟨(e_Heap_courses t).mono (by decide), trivial⟩ trivial t.x h m ok__law_are_told
theorem e__law_whole (t : Txt Ω) : FnF Ω 2 "_law_whole" F__law_whole := by
  obtain ⟨f, h, m⟩ := t.h__law_whole
  exact dat_fn (nm := nm) (cl := cn) (k := 0) (l := []) (li := []) (lm := []) (lp := []) (mc := mtab) (pc := ptab) (lk := []) (lx := lx) (lb := lb) t.top trivial trivial trivial trivial trivial t.x h m ok__law_whole
theorem e__law_is_shut (t : Txt Ω) : FnF Ω 4 "_law_is_shut" F__law_is_shut := by
  obtain ⟨f, h, m⟩ := t.h__law_is_shut
  exact dat_fn (nm := nm) (cl := cn) (k := 2) (l := [(29, F__law_whole)]) (li := []) (lm := []) (lp := []) (mc := mtab) (pc := ptab) (lk := []) (lx := lx) (lb := lb) t.top ⟨(e__law_whole t).mono (by decide), trivial⟩ trivial trivial trivial trivial t.x h m ok__law_is_shut
theorem e__law_is_course (t : Txt Ω) : FnF Ω 6 "_law_is_course" F__law_is_course := by
  obtain ⟨f, h, m⟩ := t.h__law_is_course
  exact dat_fn (nm := nm) (cl := cn) (k := 4) (l := [(29, F__law_whole), (30, F__law_is_shut)]) (li := []) (lm := []) (lp := []) (mc := mtab) (pc := ptab) (lk := []) (lx := lx) (lb := lb) t.top ⟨(e__law_whole t).mono (by decide), (e__law_is_shut t).mono (by decide), trivial⟩ trivial trivial trivial trivial t.x h m ok__law_is_course
theorem e__law_tried (t : Txt Ω) : FnF Ω 12 "_law_tried" F__law_tried := by
  obtain ⟨f, h, m⟩ := t.h__law_tried
  exact dat_fn (nm := nm) (cl := cn) (k := 10) (l := []) (li := [(0, F_Heap_init)]) (lm := []) (lp := []) (mc := mtab) (pc := ptab) (lk := []) (lx := lx) (lb := lb) t.top trivial ⟨(e_Heap_init t).mono (by decide), trivial⟩ trivial trivial trivial t.x h m ok__law_tried
theorem e__law_odd (t : Txt Ω) : FnF Ω 2 "_law_odd" F__law_odd := by
  obtain ⟨f, h, m⟩ := t.h__law_odd
  exact dat_fn (nm := nm) (cl := cn) (k := 0) (l := []) (li := []) (lm := []) (lp := []) (mc := mtab) (pc := ptab) (lk := []) (lx := lx) (lb := lb) t.top trivial trivial trivial trivial trivial t.x h m ok__law_odd
theorem e__law_mix (t : Txt Ω) : FnF Ω 2 "_law_mix" F__law_mix := by
  obtain ⟨f, h, m⟩ := t.h__law_mix
  exact dat_fn (nm := nm) (cl := cn) (k := 0) (l := []) (li := []) (lm := []) (lp := []) (mc := mtab) (pc := ptab) (lk := []) (lx := lx) (lb := lb) t.top trivial trivial trivial trivial trivial t.x h m ok__law_mix
theorem e_law (t : Txt Ω) {f : Addr} {fd : FuncData} (h : Has Ω d_law f) (F : L2.Fun Ω.K "law" "law" d_law.st f fd) : FnOk Ω.P Ω.w Ω.K Ω.mg Ω.base (L2.CX Ω.P Ω.w) 18 f fd ["_law_script"] (spF Ω F_law) :=
  dat_law (nm := nm) (cl := cn) (k := 16) (l := [(6, F__law_alike), (35, F__law_are_told), (31, F__law_is_course), (32, F__law_tried), (18, F__law_pick), (17, F__law_next), (36, F__law_odd), (24, F__law_course), (25, F__law_courses), (26, F__law_mix)]) (li := []) (lm := []) (lp := []) (mc := mtab) (pc := ptab) (lk := []) (lx := lx) (lb := lb) t.top ⟨(e__law_alike t).mono (by decide), (e__law_are_told t).mono (by decide), (e__law_is_course t).mono (by decide), (e__law_tried t).mono (by decide), (e__law_pick t).mono (by decide), (e__law_next t).mono (by decide), (e__law_odd t).mono (by decide), (e__law_course t).mono (by decide), (e__law_courses t).mono (by decide), (e__law_mix t).mono (by decide), trivial⟩ trivial trivial trivial trivial t.x h ok_law F
end
structure Hd (K : PySem.W.Frag) (ca : Nat → Addr) : Prop where
  bi : AllN K bltins
  gv : AllV K gl
  at' : AllA K ca fl
  h__law_alike : ∃ f, HasG K d__law_alike f
  h_is_integer : ∃ f, HasG K d_is_integer f
  h_are_integers : ∃ f, HasG K d_are_integers f
  h_are_marks : ∃ f, HasG K d_are_marks f
  h_are_holes : ∃ f, HasG K d_are_holes f
  h_is_one_of : ∃ f, HasG K d_is_one_of f
  h_is_course : ∃ f, HasG K d_is_course f
  h_Heap_init : ∃ f, HasC K "Heap" d_Heap_init (ca 0) f
  h_mirrored_course : ∃ f, HasG K d_mirrored_course f
  h_Heap_mirrored : ∃ f, HasM K d_Heap_mirrored (ca 0) "mirrored" f
  h_Heap___eq__ : ∃ f, HasM K d_Heap___eq__ (ca 0) "__eq__" f
  h_Heap___len__ : ∃ f, HasM K d_Heap___len__ (ca 0) "__len__" f
  h_Heap_courses : ∃ p f, HasP K d_Heap_courses (ca 0) "courses" p f
  h_Heap___add__ : ∃ f, HasM K d_Heap___add__ (ca 0) "__add__" f
  h__law_joined : ∃ f, HasG K d__law_joined f
  h__law_next : ∃ f, HasG K d__law_next f
  h__law_pick : ∃ f, HasG K d__law_pick f
  h__law_course : ∃ f, HasG K d__law_course f
  h__law_courses : ∃ f, HasG K d__law_courses f
  h__law_mirror : ∃ f, HasG K d__law_mirror f
  h__law_are_told : ∃ f, HasG K d__law_are_told f
  h__law_whole : ∃ f, HasG K d__law_whole f
  h__law_is_shut : ∃ f, HasG K d__law_is_shut f
  h__law_is_course : ∃ f, HasG K d__law_is_course f
  h__law_tried : ∃ f, HasG K d__law_tried f
  h__law_odd : ∃ f, HasG K d__law_odd f
  h__law_mix : ∃ f, HasG K d__law_mix f
  i_Heap : HasI K (ca 0)
  x : HdX PySem.Challenge.pw_heaplevels_k01_heaps_refused K ca cn lx lb
theorem txt_of {Ω : Wd} {h : Heap} (X : Ω.K.In h) (G : h.Ns mainGlobals Ω.mg) (hP : Ω.P = PySem.Challenge.pw_heaplevels_k01_heaps_refused) (c : Hd Ω.K Ω.ca) (hl : ∃ f, HasG Ω.K d_law f) : Txt Ω where
  top := top_of X G c.bi c.gv c.at'
  h__law_alike := by
    obtain ⟨f, z⟩ := c.h__law_alike
    exact ⟨f, z.has X G⟩
  h_is_integer := by
    obtain ⟨f, z⟩ := c.h_is_integer
    exact ⟨f, z.has X G⟩
  h_are_integers := by
    obtain ⟨f, z⟩ := c.h_are_integers
    exact ⟨f, z.has X G⟩
  h_are_marks := by
    obtain ⟨f, z⟩ := c.h_are_marks
    exact ⟨f, z.has X G⟩
  h_are_holes := by
    obtain ⟨f, z⟩ := c.h_are_holes
    exact ⟨f, z.has X G⟩
  h_is_one_of := by
    obtain ⟨f, z⟩ := c.h_is_one_of
    exact ⟨f, z.has X G⟩
  h_is_course := by
    obtain ⟨f, z⟩ := c.h_is_course
    exact ⟨f, z.has X G⟩
  h_Heap_init := by
    obtain ⟨f, z⟩ := c.h_Heap_init
    exact ⟨f, ⟨z.fu⟩, PySem.W.mg_of X G z.ns, z.mki⟩
  h_mirrored_course := by
    obtain ⟨f, z⟩ := c.h_mirrored_course
    exact ⟨f, z.has X G⟩
  h_Heap_mirrored := by
    obtain ⟨f, z⟩ := c.h_Heap_mirrored
    obtain ⟨_, z0⟩ := c.h_Heap_init
    exact ⟨f, ⟨z.fu⟩, z.me, z0.cl⟩
  h_Heap___eq__ := by
    obtain ⟨f, z⟩ := c.h_Heap___eq__
    obtain ⟨_, z0⟩ := c.h_Heap_init
    exact ⟨f, ⟨z.fu⟩, z.me, z0.cl⟩
  h_Heap___len__ := by
    obtain ⟨f, z⟩ := c.h_Heap___len__
    obtain ⟨_, z0⟩ := c.h_Heap_init
    exact ⟨f, ⟨z.fu⟩, z.me, z0.cl⟩
  h_Heap_courses := by
    obtain ⟨p, f, z⟩ := c.h_Heap_courses
    obtain ⟨_, z0⟩ := c.h_Heap_init
    exact ⟨p, f, ⟨z.fu⟩, z.pr, z0.cl⟩
  h_Heap___add__ := by
    obtain ⟨f, z⟩ := c.h_Heap___add__
    obtain ⟨_, z0⟩ := c.h_Heap_init
    exact ⟨f, ⟨z.fu⟩, z.me, z0.cl⟩
  h__law_joined := by
    obtain ⟨f, z⟩ := c.h__law_joined
    exact ⟨f, z.has X G⟩
  h__law_next := by
    obtain ⟨f, z⟩ := c.h__law_next
    exact ⟨f, z.has X G⟩
  h__law_pick := by
    obtain ⟨f, z⟩ := c.h__law_pick
    exact ⟨f, z.has X G⟩
  h__law_course := by
    obtain ⟨f, z⟩ := c.h__law_course
    exact ⟨f, z.has X G⟩
  h__law_courses := by
    obtain ⟨f, z⟩ := c.h__law_courses
    exact ⟨f, z.has X G⟩
  h__law_mirror := by
    obtain ⟨f, z⟩ := c.h__law_mirror
    exact ⟨f, z.has X G⟩
  h__law_are_told := by
    obtain ⟨f, z⟩ := c.h__law_are_told
    exact ⟨f, z.has X G⟩
  h__law_whole := by
    obtain ⟨f, z⟩ := c.h__law_whole
    exact ⟨f, z.has X G⟩
  h__law_is_shut := by
    obtain ⟨f, z⟩ := c.h__law_is_shut
    exact ⟨f, z.has X G⟩
  h__law_is_course := by
    obtain ⟨f, z⟩ := c.h__law_is_course
    exact ⟨f, z.has X G⟩
  h__law_tried := by
    obtain ⟨f, z⟩ := c.h__law_tried
    exact ⟨f, z.has X G⟩
  h__law_odd := by
    obtain ⟨f, z⟩ := c.h__law_odd
    exact ⟨f, z.has X G⟩
  h__law_mix := by
    obtain ⟨f, z⟩ := c.h__law_mix
    exact ⟨f, z.has X G⟩
  h_law := by
    obtain ⟨f, z⟩ := hl
    exact ⟨f, z.has X G⟩
  x := HdX.top X G (by rw [hP]; exact c.x)
  i_Heap := by
    obtain ⟨_, z0⟩ := c.h_Heap_init
    exact c.i_Heap.of X G z0.cl z0.ns
theorem law_fn (hF : Law F_law) {P : Program} (hP : P = PySem.Challenge.pw_heaplevels_k01_heaps_refused) {w : World} {K : PySem.W.Frag} {h : Heap} {mg : Str → Option Value} {ca : Nat → Addr} {f : Addr} (X : K.In h) (G : h.Ns mainGlobals mg) (hm : mg "law" = some (.ref f)) (c : Hd K ca) (hl : HasG K d_law f) :
    ∃ fd : FuncData, (∀ (s : Shared) (u : Value), BindsTo s fd ⟨[u], []⟩ [("_law_script", u)]) ∧ ∀ base : Heap, K.In base → base.Ns mainGlobals mg → FnOk P w K mg base (L2.CX P w) 18 f fd ["_law_script"] (spTrue K) := by
  obtain ⟨fd, F, B, b⟩ := hl.fu
  refine ⟨fd, fun s u => ?_, fun base Xb Gb => ?_⟩
  · exact .of_eq (b [u] rfl)
  · exact (e_law (Ω := ⟨P, w, K, mg, base, ca⟩) (txt_of (Ω := ⟨P, w, K, mg, base, ca⟩) X G hP c ⟨f, hl⟩) ⟨_, F, B⟩ F).imp (spTrue_of (Ω := ⟨P, w, K, mg, base, ca⟩) hF)
def Hk (K : PySem.W.Frag) : Prop := ∃ ca, Hd K ca ∧ ∃ f, HasG K d_law f
theorem law_run (hF : Law F_law) (P : Program) (hP : P = PySem.Challenge.pw_heaplevels_k01_heaps_refused) (w : World) (K : PySem.W.Frag) (h : Heap) (mg : Str → Option Value) (f : Addr) (X : K.In h) (G : h.Ns mainGlobals mg) (hm : mg "law" = some (.ref f)) (c : Hk K) :
    ∃ fd : FuncData, (∀ (s : Shared) (u : Value), BindsTo s fd ⟨[u], []⟩ [("_law_script", u)]) ∧ ∀ base : Heap, K.In base → base.Ns mainGlobals mg → FnOk P w K mg base (L2.CX P w) 18 f fd ["_law_script"] (spTrue K) := by
  obtain ⟨ca, c, f', hl⟩ := c
  have e := hm.symm.trans (PySem.W.mg_of X G hl.ns)
  cases e
  exact law_fn hF hP X G hm c hl
theorem hk_mk {K : PySem.W.Frag} (n_len : PySem.W.nsIn K mainGlobals "len" = some none) (n_sum : PySem.W.nsIn K mainGlobals "sum" = some none) (n_all : PySem.W.nsIn K mainGlobals "all" = some none) (n_int : PySem.W.nsIn K mainGlobals "int" = some none) (n_list : PySem.W.nsIn K mainGlobals "list" = some none) (n_tuple : PySem.W.nsIn K mainGlobals "tuple" = some none) (n_max : PySem.W.nsIn K mainGlobals "max" = some none) (n_min : PySem.W.nsIn K mainGlobals "min" = some none) (n_str : PySem.W.nsIn K mainGlobals "str" = some none) (n_sorted : PySem.W.nsIn K mainGlobals "sorted" = some none) (n_range : PySem.W.nsIn K mainGlobals "range" = some none) (n_enumerate : PySem.W.nsIn K mainGlobals "enumerate" = some none) (n_isinstance : PySem.W.nsIn K mainGlobals "isinstance" = some none) (n_bool : PySem.W.nsIn K mainGlobals "bool" = some none) (n_dict : PySem.W.nsIn K mainGlobals "dict" = some none) (v_MOST_COURSES : HasV K "MOST_COURSES" (.int 3)) (v_MOST_KIND : HasV K "MOST_KIND" (.int 2)) (v_NO_HOLES : HasV K "NO_HOLES" (.tup [(.int 0), (.int 0), (.int 0)])) (v_SIDES : HasV K "SIDES" (.tup [(.str "left"), (.str "right")])) (v_WIDTHS : HasV K "WIDTHS" (.tup [(.str "full"), (.str "less"), (.str "more")])) (h__law_alike : ∃ f, HasG K d__law_alike f) (h_is_integer : ∃ f, HasG K d_is_integer f) (h_are_integers : ∃ f, HasG K d_are_integers f) (h_are_marks : ∃ f, HasG K d_are_marks f) (h_are_holes : ∃ f, HasG K d_are_holes f) (h_is_one_of : ∃ f, HasG K d_is_one_of f) (h_is_course : ∃ f, HasG K d_is_course f) (h_Heap_init : ∃ C f, HasC K "Heap" d_Heap_init C f ∧ (PySem.W.findIn K (.ref C) "layers" = some none) ∧ (∃ f, HasM K d_Heap_mirrored C "mirrored" f) ∧ (∃ f, HasM K d_Heap___eq__ C "__eq__" f) ∧ (∃ f, HasM K d_Heap___len__ C "__len__" f) ∧ (∃ p f, HasP K d_Heap_courses C "courses" p f) ∧ (∃ f, HasM K d_Heap___add__ C "__add__" f) ∧ HasI K C ∧ True) (h_mirrored_course : ∃ f, HasG K d_mirrored_course f) (h__law_joined : ∃ f, HasG K d__law_joined f) (h__law_next : ∃ f, HasG K d__law_next f) (h__law_pick : ∃ f, HasG K d__law_pick f) (h__law_course : ∃ f, HasG K d__law_course f) (h__law_courses : ∃ f, HasG K d__law_courses f) (h__law_mirror : ∃ f, HasG K d__law_mirror f) (h__law_are_told : ∃ f, HasG K d__law_are_told f) (h__law_whole : ∃ f, HasG K d__law_whole f) (h__law_is_shut : ∃ f, HasG K d__law_is_shut f) (h__law_is_course : ∃ f, HasG K d__law_is_course f) (h__law_tried : ∃ f, HasG K d__law_tried f) (h__law_odd : ∃ f, HasG K d__law_odd f) (h__law_mix : ∃ f, HasG K d__law_mix f) (h_law : ∃ f, HasG K d_law f) (hx : ∃ A2 A3 A1, (PySem.W.nsIn K mainGlobals "InvalidCourse" = some (some (.ref A2)) ∧ XcK PySem.Challenge.pw_heaplevels_k01_heaps_refused K A2 ["index"]) ∧ (PySem.W.nsIn K mainGlobals "TooHigh" = some (some (.ref A3)) ∧ XcK PySem.Challenge.pw_heaplevels_k01_heaps_refused K A3 []) ∧ PySem.W.subIn K (.ref A2) (.ref A2) = some true ∧ PySem.W.subIn K (.ref A2) (.ref A3) = some false ∧ PySem.W.subIn K (.ref A3) (.ref A2) = some false ∧ PySem.W.subIn K (.ref A3) (.ref A3) = some true ∧ PySem.W.nsIn K mainGlobals "HeapError" = some (some (.ref A1)) ∧ PySem.W.kitOne K (.ref A2) (.ref A1) = some true ∧ PySem.W.kitOne K (.ref A3) (.ref A1) = some true ∧ True) : Hk K := by
  obtain ⟨C0, f_Heap_init, h_Heap_init, a_Heap_init, h_Heap_mirrored, h_Heap___eq__, h_Heap___len__, h_Heap_courses, h_Heap___add__, i_Heap, _⟩ := h_Heap_init
  obtain ⟨A2, A3, A1, xk0, xk1, xs0_0, xs0_1, xs1_0, xs1_1, xn0, xb0_0, xb0_1, _⟩ := hx
  exact ⟨(fun i => ((([(0, C0), (2, A2), (3, A3), (1, A1)] : List (Nat × Addr)).lookup i).getD 0)), ⟨⟨n_len, n_sum, n_all, n_int, n_list, n_tuple, n_max, n_min, n_str, n_sorted, n_range, n_enumerate, n_isinstance, n_bool, n_dict, trivial⟩, ⟨v_MOST_COURSES, v_MOST_KIND, v_NO_HOLES, v_SIDES, v_WIDTHS, trivial⟩, ⟨⟨h_Heap_init.cl, a_Heap_init⟩, trivial⟩, h__law_alike, h_is_integer, h_are_integers, h_are_marks, h_are_holes, h_is_one_of, h_is_course, ⟨f_Heap_init, h_Heap_init⟩, h_mirrored_course, h_Heap_mirrored, h_Heap___eq__, h_Heap___len__, h_Heap_courses, h_Heap___add__, h__law_joined, h__law_next, h__law_pick, h__law_course, h__law_courses, h__law_mirror, h__law_are_told, h__law_whole, h__law_is_shut, h__law_is_course, h__law_tried, h__law_odd, h__law_mix, i_Heap, ⟨⟨xk0, xk1, trivial⟩, ⟨⟨xs0_0, xs0_1, trivial⟩, ⟨xs1_0, xs1_1, trivial⟩, trivial⟩, ⟨⟨xn0, ⟨xb0_0, xb0_1, trivial⟩⟩, trivial⟩⟩⟩, h_law⟩
end HL
end

section
set_option Elab.async false
set_option linter.all false
set_option maxRecDepth 100000
set_option maxHeartbeats 1000000
/-! U1: draws -/
namespace HL
open PySem Ev
theorem next_ok {m : List Cell} (h : Dr m) {cap : Int} (h1 : 1 ≤ cap) (h2 : cap < 1000000000000000000) : ∃ v m', F__law_next [.cel 1, .pur (.int cap)] m = .ok (.pur (.int v)) m' ∧ 0 ≤ v ∧ v < cap ∧ Dr m' := by
  obtain ⟨a, t, ds, hl, rfl⟩ := h
  obtain ⟨x, hx, hx0⟩ := at_ints ds (t % max 1 (ds.length : Int)) (Int.emod_nonneg _ (by omega)) (by
    have := Int.emod_lt_of_pos t (show (0 : Int) < max 1 (ds.length : Int) by omega)
    omega)
  have hmx : (0 : Int) < max 1 (ds.length : Int) := by omega
  have hle : ds.length + 1 ≤ line := by unfold line; omega
  have hcap : 0 < cap := by omega
  by_cases hb : (1000000000000000000 : Int) ≤ x
  · have hdl : 0 < ds.length := by
      cases ds with
      | nil => have := hx0 rfl; omega
      | cons _ _ => simp
    have hdl' : (0 : Int) < (ds.length : Int) := by omega
    have hix : ixOf ds.length (t % (ds.length : Int)) = some (t % (ds.length : Int)).toNat := ixOf_of (Int.emod_nonneg _ (by omega)) (Int.emod_lt_of_pos _ hdl')
    unfold F__law_next d__law_next b__law_next
    simp only [g__law_next_x, g__law_next_g, g__law_next_a, z_bind, z_st, z_pS, z_slot, z_cst, z_glb, z_kTup, z_kLst, z_kLstL, z_kLstC, z_kBin2, z_kBin, z_kNeg, z_kCmp2, z_kCmp, z_kChn2, z_kChn, z_kNot, z_kIte, z_kIdx2, z_kIdx, z_kSlc3, z_kSlc2, z_kSlc, z_kSome, z_kRev, z_kDsel2, z_kDsel, z_kIsi, z_kIsT, z_kBif, z_kListC, z_kLrg, z_lrg, z_kMth2, z_kMth, z_kFld, z_kCall, z_kCalp, z_kMkf, z_kLc, z_tup, z_lst, z_lstL, z_lstC, z_bin, z_neg, z_cmp, z_chn, z_bop, z_not, z_ite, z_idx, z_slc, z_rev, z_dsel, z_isi, z_isT, z_bif, z_listC, z_mth, z_fld, z_call, z_calp, z_mkf, z_frz, z_nil, z_kCons2, z_kCons, z_kStar2, z_kStar, z_kB, z_cons, z_star, z_b1, z_b2, z_o0, z_o1, z_kSeq, z_kEnu, z_kRng1, z_kRng3, z_kRng2, z_kC, z_seq, z_enu, z_c0, z_c1, z_kAsg, z_kUnp, z_kPar, z_kSto26, z_kSto25, z_kSto24, z_kSto23, z_kSto22, z_sto2, z_kSto3, z_kSto2, z_kSto, z_kAugs3, z_kAugs2, z_kAugs, z_kAug, z_kStf2, z_kStf, z_kExp, z_kRet, z_kIfs, z_kFor, z_kS, z_asg, z_unp, z_par, z_sto, z_augs, z_aug, z_stf, z_exp, z_ret, z_ret0, z_ifs, z_forr, z_whil, z_pas, z_brk, z_con, z_snil, z_scons, z_callU, z_callH, z_callG, z_callX, z_calpU, z_calpH, z_calpG, z_calpX, z_runU, z_run1, z_run2, z_run3, z_run4, z_dat, z_at0, z_at1, z_at2, z_at3, z_at4, z_at5, z_ixT, z_ixL, z_pp, z_add, z_sub, z_mulS, z_mulT, z_mulL, z_lt, z_le, z_gt, z_ge, z_eqI, z_neI, z_eqS, z_isN, z_isnN, z_methH, z_kMeth2, z_kMeth, z_meth, z_recP, z_calmP, z_calmC, z_prpG, z_prpP, z_kProp, z_prop, z_objP, z_kOwn2, z_kOwn, z_kOwnC2, z_kOwnC, z_opc, z_opb, z_own, z_ownP, z_ownC, z_ownT, z_kLenO, z_lenO, z_lenP, z_kIsc, z_isc, z_bindX, z_kRai, z_rai, z_rai0, z_rai1, z_rai2, z_hd, z_hdF, z_hdT, z_nm0, z_rm0, z_rm1, z_ht0, z_ht1, z_ht2, z_ht3, z_try, z_try0, z_tryX, z_kSX, z_clpG, z_clp0, z_calp0, z_kIscT, z_kSpl2, z_kSpl, z_spl, z_kJoi2, z_kJoi, z_joi, z_kMkc, z_mkc, z_mkcG, z_mkcH, z_mkcF, z_kAugf2, z_kAugf, z_augf, z_fns, z_ini, z_gl, z_xf, z_fa, z_pI, z_binC, z_ixC, z_stC, z_lenC, z_lenD, z_max, z_min, z_int, z_lenL, z_lenT, z_ten18, z_ix0, z_ix2, z_line0, z_line1, z_line2, z_line3, z_line4, z_line5, z_line6, z_line7, z_line8, z_q1, z_q2, z_q3, z_q4, z_q5, z_q6, z_q7, z_q8, z_q9, z_q10, z_q11, z_q12, z_q13, z_q14, z_q15, z_sqT, z_sqL, z_sqS, z_as1, z_as2, z_tupL, z_sumT, z_sum, z_w0, z_w1, z_augS, z_augA, z_fnd, z_lenA, z_lenB, z_rcA, z_mtA, z_lcat, z_lset, z_stA, z_ixA, z_ixM, z_i0, z_i1, z_i2, z_i3, z_fdiv2, z_fdiv6, z_fmod6, z_mul6, z_mul2, z_slT, z_slL, z_p1, z_p2, v_x_InvalidCourse, v_x_TooHigh, v_MOST_COURSES, v_MOST_KIND, v_NO_HOLES, v_SIDES, v_WIDTHS, beq_self_eq_true, Option.getD_some, Option.getD_none, List.getElem?_cons_zero, List.getElem?_cons_succ, Option.bind_some, Option.bind_none, id_eq, Option.map_some, Option.map_none, purs, noloc, setN, List.set_cons_zero, List.set_cons_succ, List.map_cons, List.map_nil, List.length_cons, List.length_nil, List.cons_append, List.nil_append, List.append_nil, List.replicate_succ, List.replicate_zero, Nat.reduceSub, Nat.reduceAdd, Nat.reduceEqDiff, Nat.reduceBEq, if_true, if_false, ↓reduceIte, Bool.not_true, Bool.not_false, decide_true, decide_false, isNon, dselP, eq_self, Bool.and_self, Bool.and_true, Bool.true_and, Int.cast_ofNat_Int, z_mod hmx, hx, hle, hb, List.length_map, z_div hcap h2, z_mod hcap, z_mod hdl', hix]
    refine ⟨_, _, rfl, Int.emod_nonneg _ (by omega), Int.emod_lt_of_pos _ hcap, a, t, ds.set (t % (ds.length : Int)).toNat (x / cap), by simpa using hl, ?_⟩
    rw [List.map_set]
  · unfold F__law_next d__law_next b__law_next
    simp only [g__law_next_x, g__law_next_g, g__law_next_a, z_bind, z_st, z_pS, z_slot, z_cst, z_glb, z_kTup, z_kLst, z_kLstL, z_kLstC, z_kBin2, z_kBin, z_kNeg, z_kCmp2, z_kCmp, z_kChn2, z_kChn, z_kNot, z_kIte, z_kIdx2, z_kIdx, z_kSlc3, z_kSlc2, z_kSlc, z_kSome, z_kRev, z_kDsel2, z_kDsel, z_kIsi, z_kIsT, z_kBif, z_kListC, z_kLrg, z_lrg, z_kMth2, z_kMth, z_kFld, z_kCall, z_kCalp, z_kMkf, z_kLc, z_tup, z_lst, z_lstL, z_lstC, z_bin, z_neg, z_cmp, z_chn, z_bop, z_not, z_ite, z_idx, z_slc, z_rev, z_dsel, z_isi, z_isT, z_bif, z_listC, z_mth, z_fld, z_call, z_calp, z_mkf, z_frz, z_nil, z_kCons2, z_kCons, z_kStar2, z_kStar, z_kB, z_cons, z_star, z_b1, z_b2, z_o0, z_o1, z_kSeq, z_kEnu, z_kRng1, z_kRng3, z_kRng2, z_kC, z_seq, z_enu, z_c0, z_c1, z_kAsg, z_kUnp, z_kPar, z_kSto26, z_kSto25, z_kSto24, z_kSto23, z_kSto22, z_sto2, z_kSto3, z_kSto2, z_kSto, z_kAugs3, z_kAugs2, z_kAugs, z_kAug, z_kStf2, z_kStf, z_kExp, z_kRet, z_kIfs, z_kFor, z_kS, z_asg, z_unp, z_par, z_sto, z_augs, z_aug, z_stf, z_exp, z_ret, z_ret0, z_ifs, z_forr, z_whil, z_pas, z_brk, z_con, z_snil, z_scons, z_callU, z_callH, z_callG, z_callX, z_calpU, z_calpH, z_calpG, z_calpX, z_runU, z_run1, z_run2, z_run3, z_run4, z_dat, z_at0, z_at1, z_at2, z_at3, z_at4, z_at5, z_ixT, z_ixL, z_pp, z_add, z_sub, z_mulS, z_mulT, z_mulL, z_lt, z_le, z_gt, z_ge, z_eqI, z_neI, z_eqS, z_isN, z_isnN, z_methH, z_kMeth2, z_kMeth, z_meth, z_recP, z_calmP, z_calmC, z_prpG, z_prpP, z_kProp, z_prop, z_objP, z_kOwn2, z_kOwn, z_kOwnC2, z_kOwnC, z_opc, z_opb, z_own, z_ownP, z_ownC, z_ownT, z_kLenO, z_lenO, z_lenP, z_kIsc, z_isc, z_bindX, z_kRai, z_rai, z_rai0, z_rai1, z_rai2, z_hd, z_hdF, z_hdT, z_nm0, z_rm0, z_rm1, z_ht0, z_ht1, z_ht2, z_ht3, z_try, z_try0, z_tryX, z_kSX, z_clpG, z_clp0, z_calp0, z_kIscT, z_kSpl2, z_kSpl, z_spl, z_kJoi2, z_kJoi, z_joi, z_kMkc, z_mkc, z_mkcG, z_mkcH, z_mkcF, z_kAugf2, z_kAugf, z_augf, z_fns, z_ini, z_gl, z_xf, z_fa, z_pI, z_binC, z_ixC, z_stC, z_lenC, z_lenD, z_max, z_min, z_int, z_lenL, z_lenT, z_ten18, z_ix0, z_ix2, z_line0, z_line1, z_line2, z_line3, z_line4, z_line5, z_line6, z_line7, z_line8, z_q1, z_q2, z_q3, z_q4, z_q5, z_q6, z_q7, z_q8, z_q9, z_q10, z_q11, z_q12, z_q13, z_q14, z_q15, z_sqT, z_sqL, z_sqS, z_as1, z_as2, z_tupL, z_sumT, z_sum, z_w0, z_w1, z_augS, z_augA, z_fnd, z_lenA, z_lenB, z_rcA, z_mtA, z_lcat, z_lset, z_stA, z_ixA, z_ixM, z_i0, z_i1, z_i2, z_i3, z_fdiv2, z_fdiv6, z_fmod6, z_mul6, z_mul2, z_slT, z_slL, z_p1, z_p2, v_x_InvalidCourse, v_x_TooHigh, v_MOST_COURSES, v_MOST_KIND, v_NO_HOLES, v_SIDES, v_WIDTHS, beq_self_eq_true, Option.getD_some, Option.getD_none, List.getElem?_cons_zero, List.getElem?_cons_succ, Option.bind_some, Option.bind_none, id_eq, Option.map_some, Option.map_none, purs, noloc, setN, List.set_cons_zero, List.set_cons_succ, List.map_cons, List.map_nil, List.length_cons, List.length_nil, List.cons_append, List.nil_append, List.append_nil, List.replicate_succ, List.replicate_zero, Nat.reduceSub, Nat.reduceAdd, Nat.reduceEqDiff, Nat.reduceBEq, if_true, if_false, ↓reduceIte, Bool.not_true, Bool.not_false, decide_true, decide_false, isNon, dselP, eq_self, Bool.and_self, Bool.and_true, Bool.true_and, Int.cast_ofNat_Int, z_mod hmx, hx, hle, hb, List.length_map, z_div hcap h2, z_mod hcap, z_mul (mulR (i := a) (j := 48271) (by decide) (by decide)), z_mul (mulR (i := x) (j := 69621) (by decide) (by decide)), z_mod (show (0 : Int) < 2147483647 by decide), z_div (show (0 : Int) < 7 by decide) (show (7 : Int) < 1000000000000000000 by decide)]
    exact ⟨_, _, rfl, Int.emod_nonneg _ (by omega), Int.emod_lt_of_pos _ hcap, _, _, ds, hl, rfl⟩
theorem pick_ok {m : List Cell} (h : Dr m) {ps : List P} (h0 : ps ≠ []) (h1 : ps.length ≤ 100) : ∃ p m', F__law_pick [.cel 1, .pur (.lst ps)] m = .ok (.pur p) m' ∧ p ∈ ps ∧ Dr m' := by
  have hl : 0 < ps.length := List.length_pos_iff.mpr h0
  obtain ⟨v, m', e, v0, v1, d⟩ := next_ok h (cap := (ps.length : Int)) (by omega) (by omega)
  obtain ⟨j, rfl⟩ := Int.eq_ofNat_of_zero_le v0
  have hj : j < ps.length := by omega
  have ha : atP ps (j : Int) = some ps[j] := z_atP (by simp [hj])
  unfold F__law_pick d__law_pick b__law_pick
  simp only [g__law_pick_x, g__law_pick__law_next, g__law_pick_g, g__law_pick_a, z_bind, z_st, z_pS, z_slot, z_cst, z_glb, z_kTup, z_kLst, z_kLstL, z_kLstC, z_kBin2, z_kBin, z_kNeg, z_kCmp2, z_kCmp, z_kChn2, z_kChn, z_kNot, z_kIte, z_kIdx2, z_kIdx, z_kSlc3, z_kSlc2, z_kSlc, z_kSome, z_kRev, z_kDsel2, z_kDsel, z_kIsi, z_kIsT, z_kBif, z_kListC, z_kLrg, z_lrg, z_kMth2, z_kMth, z_kFld, z_kCall, z_kCalp, z_kMkf, z_kLc, z_tup, z_lst, z_lstL, z_lstC, z_bin, z_neg, z_cmp, z_chn, z_bop, z_not, z_ite, z_idx, z_slc, z_rev, z_dsel, z_isi, z_isT, z_bif, z_listC, z_mth, z_fld, z_call, z_calp, z_mkf, z_frz, z_nil, z_kCons2, z_kCons, z_kStar2, z_kStar, z_kB, z_cons, z_star, z_b1, z_b2, z_o0, z_o1, z_kSeq, z_kEnu, z_kRng1, z_kRng3, z_kRng2, z_kC, z_seq, z_enu, z_c0, z_c1, z_kAsg, z_kUnp, z_kPar, z_kSto26, z_kSto25, z_kSto24, z_kSto23, z_kSto22, z_sto2, z_kSto3, z_kSto2, z_kSto, z_kAugs3, z_kAugs2, z_kAugs, z_kAug, z_kStf2, z_kStf, z_kExp, z_kRet, z_kIfs, z_kFor, z_kS, z_asg, z_unp, z_par, z_sto, z_augs, z_aug, z_stf, z_exp, z_ret, z_ret0, z_ifs, z_forr, z_whil, z_pas, z_brk, z_con, z_snil, z_scons, z_callU, z_callH, z_callG, z_callX, z_calpU, z_calpH, z_calpG, z_calpX, z_runU, z_run1, z_run2, z_run3, z_run4, z_dat, z_at0, z_at1, z_at2, z_at3, z_at4, z_at5, z_ixT, z_ixL, z_pp, z_add, z_sub, z_mulS, z_mulT, z_mulL, z_lt, z_le, z_gt, z_ge, z_eqI, z_neI, z_eqS, z_isN, z_isnN, z_methH, z_kMeth2, z_kMeth, z_meth, z_recP, z_calmP, z_calmC, z_prpG, z_prpP, z_kProp, z_prop, z_objP, z_kOwn2, z_kOwn, z_kOwnC2, z_kOwnC, z_opc, z_opb, z_own, z_ownP, z_ownC, z_ownT, z_kLenO, z_lenO, z_lenP, z_kIsc, z_isc, z_bindX, z_kRai, z_rai, z_rai0, z_rai1, z_rai2, z_hd, z_hdF, z_hdT, z_nm0, z_rm0, z_rm1, z_ht0, z_ht1, z_ht2, z_ht3, z_try, z_try0, z_tryX, z_kSX, z_clpG, z_clp0, z_calp0, z_kIscT, z_kSpl2, z_kSpl, z_spl, z_kJoi2, z_kJoi, z_joi, z_kMkc, z_mkc, z_mkcG, z_mkcH, z_mkcF, z_kAugf2, z_kAugf, z_augf, z_fns, z_ini, z_gl, z_xf, z_fa, z_pI, z_binC, z_ixC, z_stC, z_lenC, z_lenD, z_max, z_min, z_int, z_lenL, z_lenT, z_ten18, z_ix0, z_ix2, z_line0, z_line1, z_line2, z_line3, z_line4, z_line5, z_line6, z_line7, z_line8, z_q1, z_q2, z_q3, z_q4, z_q5, z_q6, z_q7, z_q8, z_q9, z_q10, z_q11, z_q12, z_q13, z_q14, z_q15, z_sqT, z_sqL, z_sqS, z_as1, z_as2, z_tupL, z_sumT, z_sum, z_w0, z_w1, z_augS, z_augA, z_fnd, z_lenA, z_lenB, z_rcA, z_mtA, z_lcat, z_lset, z_stA, z_ixA, z_ixM, z_i0, z_i1, z_i2, z_i3, z_fdiv2, z_fdiv6, z_fmod6, z_mul6, z_mul2, z_slT, z_slL, z_p1, z_p2, v_x_InvalidCourse, v_x_TooHigh, v_MOST_COURSES, v_MOST_KIND, v_NO_HOLES, v_SIDES, v_WIDTHS, beq_self_eq_true, Option.getD_some, Option.getD_none, List.getElem?_cons_zero, List.getElem?_cons_succ, Option.bind_some, Option.bind_none, id_eq, Option.map_some, Option.map_none, purs, noloc, setN, List.set_cons_zero, List.set_cons_succ, List.map_cons, List.map_nil, List.length_cons, List.length_nil, List.cons_append, List.nil_append, List.append_nil, List.replicate_succ, List.replicate_zero, Nat.reduceSub, Nat.reduceAdd, Nat.reduceEqDiff, Nat.reduceBEq, if_true, if_false, ↓reduceIte, Bool.not_true, Bool.not_false, decide_true, decide_false, isNon, dselP, eq_self, Bool.and_self, Bool.and_true, Bool.true_and, Int.cast_ofNat_Int, e, ha]
  exact ⟨_, _, rfl, List.getElem_mem hj, d⟩
theorem course_ok {m : List Cell} (h : Dr m) : ∃ c m', F__law_course [.cel 1] m = .ok (.pur (enc c)) m' ∧ okC c ∧ Dr m' := by
  obtain ⟨v1, m1, e1, a1, b1, d1⟩ := next_ok h (cap := 5) (by omega) (by omega)
  by_cases hv : v1 = 0
  · obtain ⟨v2, m2, e2, a2, b2, d2⟩ := next_ok d1 (cap := 3) (by omega) (by omega)
    refine ⟨.lid v2, m2, ?_, ⟨a2, by omega⟩, d2⟩
    unfold F__law_course d__law_course b__law_course
    simp only [g__law_course_x, g__law_course__law_next, g__law_course__law_pick, g__law_course_g, g__law_course_a, z_bind, z_st, z_pS, z_slot, z_cst, z_glb, z_kTup, z_kLst, z_kLstL, z_kLstC, z_kBin2, z_kBin, z_kNeg, z_kCmp2, z_kCmp, z_kChn2, z_kChn, z_kNot, z_kIte, z_kIdx2, z_kIdx, z_kSlc3, z_kSlc2, z_kSlc, z_kSome, z_kRev, z_kDsel2, z_kDsel, z_kIsi, z_kIsT, z_kBif, z_kListC, z_kLrg, z_lrg, z_kMth2, z_kMth, z_kFld, z_kCall, z_kCalp, z_kMkf, z_kLc, z_tup, z_lst, z_lstL, z_lstC, z_bin, z_neg, z_cmp, z_chn, z_bop, z_not, z_ite, z_idx, z_slc, z_rev, z_dsel, z_isi, z_isT, z_bif, z_listC, z_mth, z_fld, z_call, z_calp, z_mkf, z_frz, z_nil, z_kCons2, z_kCons, z_kStar2, z_kStar, z_kB, z_cons, z_star, z_b1, z_b2, z_o0, z_o1, z_kSeq, z_kEnu, z_kRng1, z_kRng3, z_kRng2, z_kC, z_seq, z_enu, z_c0, z_c1, z_kAsg, z_kUnp, z_kPar, z_kSto26, z_kSto25, z_kSto24, z_kSto23, z_kSto22, z_sto2, z_kSto3, z_kSto2, z_kSto, z_kAugs3, z_kAugs2, z_kAugs, z_kAug, z_kStf2, z_kStf, z_kExp, z_kRet, z_kIfs, z_kFor, z_kS, z_asg, z_unp, z_par, z_sto, z_augs, z_aug, z_stf, z_exp, z_ret, z_ret0, z_ifs, z_forr, z_whil, z_pas, z_brk, z_con, z_snil, z_scons, z_callU, z_callH, z_callG, z_callX, z_calpU, z_calpH, z_calpG, z_calpX, z_runU, z_run1, z_run2, z_run3, z_run4, z_dat, z_at0, z_at1, z_at2, z_at3, z_at4, z_at5, z_ixT, z_ixL, z_pp, z_add, z_sub, z_mulS, z_mulT, z_mulL, z_lt, z_le, z_gt, z_ge, z_eqI, z_neI, z_eqS, z_isN, z_isnN, z_methH, z_kMeth2, z_kMeth, z_meth, z_recP, z_calmP, z_calmC, z_prpG, z_prpP, z_kProp, z_prop, z_objP, z_kOwn2, z_kOwn, z_kOwnC2, z_kOwnC, z_opc, z_opb, z_own, z_ownP, z_ownC, z_ownT, z_kLenO, z_lenO, z_lenP, z_kIsc, z_isc, z_bindX, z_kRai, z_rai, z_rai0, z_rai1, z_rai2, z_hd, z_hdF, z_hdT, z_nm0, z_rm0, z_rm1, z_ht0, z_ht1, z_ht2, z_ht3, z_try, z_try0, z_tryX, z_kSX, z_clpG, z_clp0, z_calp0, z_kIscT, z_kSpl2, z_kSpl, z_spl, z_kJoi2, z_kJoi, z_joi, z_kMkc, z_mkc, z_mkcG, z_mkcH, z_mkcF, z_kAugf2, z_kAugf, z_augf, z_fns, z_ini, z_gl, z_xf, z_fa, z_pI, z_binC, z_ixC, z_stC, z_lenC, z_lenD, z_max, z_min, z_int, z_lenL, z_lenT, z_ten18, z_ix0, z_ix2, z_line0, z_line1, z_line2, z_line3, z_line4, z_line5, z_line6, z_line7, z_line8, z_q1, z_q2, z_q3, z_q4, z_q5, z_q6, z_q7, z_q8, z_q9, z_q10, z_q11, z_q12, z_q13, z_q14, z_q15, z_sqT, z_sqL, z_sqS, z_as1, z_as2, z_tupL, z_sumT, z_sum, z_w0, z_w1, z_augS, z_augA, z_fnd, z_lenA, z_lenB, z_rcA, z_mtA, z_lcat, z_lset, z_stA, z_ixA, z_ixM, z_i0, z_i1, z_i2, z_i3, z_fdiv2, z_fdiv6, z_fmod6, z_mul6, z_mul2, z_slT, z_slL, z_p1, z_p2, v_x_InvalidCourse, v_x_TooHigh, v_MOST_COURSES, v_MOST_KIND, v_NO_HOLES, v_SIDES, v_WIDTHS, beq_self_eq_true, Option.getD_some, Option.getD_none, List.getElem?_cons_zero, List.getElem?_cons_succ, Option.bind_some, Option.bind_none, id_eq, Option.map_some, Option.map_none, purs, noloc, setN, List.set_cons_zero, List.set_cons_succ, List.map_cons, List.map_nil, List.length_cons, List.length_nil, List.cons_append, List.nil_append, List.append_nil, List.replicate_succ, List.replicate_zero, Nat.reduceSub, Nat.reduceAdd, Nat.reduceEqDiff, Nat.reduceBEq, if_true, if_false, ↓reduceIte, Bool.not_true, Bool.not_false, decide_true, decide_false, isNon, dselP, eq_self, Bool.and_self, Bool.and_true, Bool.true_and, Int.cast_ofNat_Int, e1, e2, hv, enc]
  · obtain ⟨k, m2, e2, hk, d2⟩ := pick_ok d1 (ps := [.int 0, .int 0, .int 2, .int 3]) (by simp) (by simp)
    have fin : ∀ (m3 : List Cell) (k0 k1 k2 : Int), Dr m3 → (k0, k1, k2) ∈ hs → ∃ (w : W3) (l b : Bool) (q0 q1 : Int) (mw ml mb mq mr : List Cell) (vb vq : Int),
        F__law_pick [.cel 1, .pur (.lst [.str "full", .str "less", .str "more"])] m3 = .ok (.pur (.str (wS w))) mw ∧
        F__law_pick [.cel 1, .pur (.lst [.str "left", .str "right"])] mw = .ok (.pur (.str (sS l))) ml ∧
        F__law_next [.cel 1, .pur (.int 2)] ml = .ok (.pur (.int vb)) mb ∧ decide (vb = 0) = b ∧
        F__law_next [.cel 1, .pur (.int 3)] mb = .ok (.pur (.int vq)) mq ∧ 1 + vq = q0 ∧
        F__law_next [.cel 1, .pur (.int 3)] mq = .ok (.pur (.int q1)) mr ∧ okC (.wall w l b k0 k1 k2 q0 q1) ∧ Dr mr := fun m3 k0 k1 k2 d3 hh => by
      obtain ⟨pw, mw, ew, hw, dw⟩ := pick_ok d3 (ps := [.str "full", .str "less", .str "more"]) (by simp) (by simp)
      obtain ⟨pl, ml, el, hl, dl⟩ := pick_ok dw (ps := [.str "left", .str "right"]) (by simp) (by simp)
      obtain ⟨vb, mb, eb, _, _, db⟩ := next_ok dl (cap := 2) (by omega) (by omega)
      obtain ⟨vq, mq, eq, q0, q1, dq⟩ := next_ok db (cap := 3) (by omega) (by omega)
      obtain ⟨vr, mr, er, r0, r1, dr⟩ := next_ok dq (cap := 3) (by omega) (by omega)
      obtain ⟨w, rfl⟩ : ∃ w, pw = .str (wS w) := by
        simp only [List.mem_cons, List.not_mem_nil, or_false] at hw
        rcases hw with rfl | rfl | rfl
        · exact ⟨.full, rfl⟩
        · exact ⟨.less, rfl⟩
        · exact ⟨.more, rfl⟩
      obtain ⟨l, rfl⟩ : ∃ l, pl = .str (sS l) := by
        simp only [List.mem_cons, List.not_mem_nil, or_false] at hl
        rcases hl with rfl | rfl
        · exact ⟨true, rfl⟩
        · exact ⟨false, rfl⟩
      exact ⟨w, l, _, _, vr, mw, ml, mb, mq, mr, vb, vq, ew, el, eb, rfl, eq, rfl, er, ⟨hh, ms_mk (by omega) r0 r1⟩, dr⟩
    have hk' : k = .int 0 ∨ k = .int 2 ∨ k = .int 3 := by
      simp only [List.mem_cons, List.not_mem_nil, or_false] at hk
      rcases hk with h | h | h | h
      · exact .inl h
      · exact .inl h
      · exact .inr (.inl h)
      · exact .inr (.inr h)
    rcases hk' with rfl | hk'
    · obtain ⟨w, l, b, q0, q1, mw, ml, mb, mq, mr, vb, vq, ew, el, eb, hb, eq, hq, er, ok, dr⟩ := fin m2 0 0 0 d2 hs_mk0
      refine ⟨_, mr, ?_, ok, dr⟩
      unfold F__law_course d__law_course b__law_course
      simp only [g__law_course_x, g__law_course__law_next, g__law_course__law_pick, g__law_course_g, g__law_course_a, z_bind, z_st, z_pS, z_slot, z_cst, z_glb, z_kTup, z_kLst, z_kLstL, z_kLstC, z_kBin2, z_kBin, z_kNeg, z_kCmp2, z_kCmp, z_kChn2, z_kChn, z_kNot, z_kIte, z_kIdx2, z_kIdx, z_kSlc3, z_kSlc2, z_kSlc, z_kSome, z_kRev, z_kDsel2, z_kDsel, z_kIsi, z_kIsT, z_kBif, z_kListC, z_kLrg, z_lrg, z_kMth2, z_kMth, z_kFld, z_kCall, z_kCalp, z_kMkf, z_kLc, z_tup, z_lst, z_lstL, z_lstC, z_bin, z_neg, z_cmp, z_chn, z_bop, z_not, z_ite, z_idx, z_slc, z_rev, z_dsel, z_isi, z_isT, z_bif, z_listC, z_mth, z_fld, z_call, z_calp, z_mkf, z_frz, z_nil, z_kCons2, z_kCons, z_kStar2, z_kStar, z_kB, z_cons, z_star, z_b1, z_b2, z_o0, z_o1, z_kSeq, z_kEnu, z_kRng1, z_kRng3, z_kRng2, z_kC, z_seq, z_enu, z_c0, z_c1, z_kAsg, z_kUnp, z_kPar, z_kSto26, z_kSto25, z_kSto24, z_kSto23, z_kSto22, z_sto2, z_kSto3, z_kSto2, z_kSto, z_kAugs3, z_kAugs2, z_kAugs, z_kAug, z_kStf2, z_kStf, z_kExp, z_kRet, z_kIfs, z_kFor, z_kS, z_asg, z_unp, z_par, z_sto, z_augs, z_aug, z_stf, z_exp, z_ret, z_ret0, z_ifs, z_forr, z_whil, z_pas, z_brk, z_con, z_snil, z_scons, z_callU, z_callH, z_callG, z_callX, z_calpU, z_calpH, z_calpG, z_calpX, z_runU, z_run1, z_run2, z_run3, z_run4, z_dat, z_at0, z_at1, z_at2, z_at3, z_at4, z_at5, z_ixT, z_ixL, z_pp, z_add, z_sub, z_mulS, z_mulT, z_mulL, z_lt, z_le, z_gt, z_ge, z_eqI, z_neI, z_eqS, z_isN, z_isnN, z_methH, z_kMeth2, z_kMeth, z_meth, z_recP, z_calmP, z_calmC, z_prpG, z_prpP, z_kProp, z_prop, z_objP, z_kOwn2, z_kOwn, z_kOwnC2, z_kOwnC, z_opc, z_opb, z_own, z_ownP, z_ownC, z_ownT, z_kLenO, z_lenO, z_lenP, z_kIsc, z_isc, z_bindX, z_kRai, z_rai, z_rai0, z_rai1, z_rai2, z_hd, z_hdF, z_hdT, z_nm0, z_rm0, z_rm1, z_ht0, z_ht1, z_ht2, z_ht3, z_try, z_try0, z_tryX, z_kSX, z_clpG, z_clp0, z_calp0, z_kIscT, z_kSpl2, z_kSpl, z_spl, z_kJoi2, z_kJoi, z_joi, z_kMkc, z_mkc, z_mkcG, z_mkcH, z_mkcF, z_kAugf2, z_kAugf, z_augf, z_fns, z_ini, z_gl, z_xf, z_fa, z_pI, z_binC, z_ixC, z_stC, z_lenC, z_lenD, z_max, z_min, z_int, z_lenL, z_lenT, z_ten18, z_ix0, z_ix2, z_line0, z_line1, z_line2, z_line3, z_line4, z_line5, z_line6, z_line7, z_line8, z_q1, z_q2, z_q3, z_q4, z_q5, z_q6, z_q7, z_q8, z_q9, z_q10, z_q11, z_q12, z_q13, z_q14, z_q15, z_sqT, z_sqL, z_sqS, z_as1, z_as2, z_tupL, z_sumT, z_sum, z_w0, z_w1, z_augS, z_augA, z_fnd, z_lenA, z_lenB, z_rcA, z_mtA, z_lcat, z_lset, z_stA, z_ixA, z_ixM, z_i0, z_i1, z_i2, z_i3, z_fdiv2, z_fdiv6, z_fmod6, z_mul6, z_mul2, z_slT, z_slL, z_p1, z_p2, v_x_InvalidCourse, v_x_TooHigh, v_MOST_COURSES, v_MOST_KIND, v_NO_HOLES, v_SIDES, v_WIDTHS, beq_self_eq_true, Option.getD_some, Option.getD_none, List.getElem?_cons_zero, List.getElem?_cons_succ, Option.bind_some, Option.bind_none, id_eq, Option.map_some, Option.map_none, purs, noloc, setN, List.set_cons_zero, List.set_cons_succ, List.map_cons, List.map_nil, List.length_cons, List.length_nil, List.cons_append, List.nil_append, List.append_nil, List.replicate_succ, List.replicate_zero, Nat.reduceSub, Nat.reduceAdd, Nat.reduceEqDiff, Nat.reduceBEq, if_true, if_false, ↓reduceIte, Bool.not_true, Bool.not_false, decide_true, decide_false, isNon, dselP, eq_self, Bool.and_self, Bool.and_true, Bool.true_and, Int.cast_ofNat_Int, e1, e2, hv, ew, el, eb, eq, er, hb, hq, enc, Int.lt_irrefl]
    · obtain ⟨k0, rfl, hk0⟩ : ∃ k0 : Int, k = .int k0 ∧ (k0 = 2 ∨ k0 = 3) := by
        rcases hk' with rfl | rfl
        · exact ⟨2, rfl, .inl rfl⟩
        · exact ⟨3, rfl, .inr rfl⟩
      have hk0' : 0 < k0 := by omega
      obtain ⟨v3, m3, e3, a3, b3, d3⟩ := next_ok d2 (cap := 3) (by omega) (by omega)
      obtain ⟨v4, m4, e4, a4, b4, d4⟩ := next_ok d3 (cap := k0) (by omega) (by omega)
      obtain ⟨w, l, b, q0, q1, mw, ml, mb, mq, mr, vb, vq, ew, el, eb, hb, eq, hq, er, ok, dr⟩ := fin m4 k0 v3 v4 d4 (hs_mk hk0 a3 b3 a4 b4)
      refine ⟨_, mr, ?_, ok, dr⟩
      unfold F__law_course d__law_course b__law_course
      simp only [g__law_course_x, g__law_course__law_next, g__law_course__law_pick, g__law_course_g, g__law_course_a, z_bind, z_st, z_pS, z_slot, z_cst, z_glb, z_kTup, z_kLst, z_kLstL, z_kLstC, z_kBin2, z_kBin, z_kNeg, z_kCmp2, z_kCmp, z_kChn2, z_kChn, z_kNot, z_kIte, z_kIdx2, z_kIdx, z_kSlc3, z_kSlc2, z_kSlc, z_kSome, z_kRev, z_kDsel2, z_kDsel, z_kIsi, z_kIsT, z_kBif, z_kListC, z_kLrg, z_lrg, z_kMth2, z_kMth, z_kFld, z_kCall, z_kCalp, z_kMkf, z_kLc, z_tup, z_lst, z_lstL, z_lstC, z_bin, z_neg, z_cmp, z_chn, z_bop, z_not, z_ite, z_idx, z_slc, z_rev, z_dsel, z_isi, z_isT, z_bif, z_listC, z_mth, z_fld, z_call, z_calp, z_mkf, z_frz, z_nil, z_kCons2, z_kCons, z_kStar2, z_kStar, z_kB, z_cons, z_star, z_b1, z_b2, z_o0, z_o1, z_kSeq, z_kEnu, z_kRng1, z_kRng3, z_kRng2, z_kC, z_seq, z_enu, z_c0, z_c1, z_kAsg, z_kUnp, z_kPar, z_kSto26, z_kSto25, z_kSto24, z_kSto23, z_kSto22, z_sto2, z_kSto3, z_kSto2, z_kSto, z_kAugs3, z_kAugs2, z_kAugs, z_kAug, z_kStf2, z_kStf, z_kExp, z_kRet, z_kIfs, z_kFor, z_kS, z_asg, z_unp, z_par, z_sto, z_augs, z_aug, z_stf, z_exp, z_ret, z_ret0, z_ifs, z_forr, z_whil, z_pas, z_brk, z_con, z_snil, z_scons, z_callU, z_callH, z_callG, z_callX, z_calpU, z_calpH, z_calpG, z_calpX, z_runU, z_run1, z_run2, z_run3, z_run4, z_dat, z_at0, z_at1, z_at2, z_at3, z_at4, z_at5, z_ixT, z_ixL, z_pp, z_add, z_sub, z_mulS, z_mulT, z_mulL, z_lt, z_le, z_gt, z_ge, z_eqI, z_neI, z_eqS, z_isN, z_isnN, z_methH, z_kMeth2, z_kMeth, z_meth, z_recP, z_calmP, z_calmC, z_prpG, z_prpP, z_kProp, z_prop, z_objP, z_kOwn2, z_kOwn, z_kOwnC2, z_kOwnC, z_opc, z_opb, z_own, z_ownP, z_ownC, z_ownT, z_kLenO, z_lenO, z_lenP, z_kIsc, z_isc, z_bindX, z_kRai, z_rai, z_rai0, z_rai1, z_rai2, z_hd, z_hdF, z_hdT, z_nm0, z_rm0, z_rm1, z_ht0, z_ht1, z_ht2, z_ht3, z_try, z_try0, z_tryX, z_kSX, z_clpG, z_clp0, z_calp0, z_kIscT, z_kSpl2, z_kSpl, z_spl, z_kJoi2, z_kJoi, z_joi, z_kMkc, z_mkc, z_mkcG, z_mkcH, z_mkcF, z_kAugf2, z_kAugf, z_augf, z_fns, z_ini, z_gl, z_xf, z_fa, z_pI, z_binC, z_ixC, z_stC, z_lenC, z_lenD, z_max, z_min, z_int, z_lenL, z_lenT, z_ten18, z_ix0, z_ix2, z_line0, z_line1, z_line2, z_line3, z_line4, z_line5, z_line6, z_line7, z_line8, z_q1, z_q2, z_q3, z_q4, z_q5, z_q6, z_q7, z_q8, z_q9, z_q10, z_q11, z_q12, z_q13, z_q14, z_q15, z_sqT, z_sqL, z_sqS, z_as1, z_as2, z_tupL, z_sumT, z_sum, z_w0, z_w1, z_augS, z_augA, z_fnd, z_lenA, z_lenB, z_rcA, z_mtA, z_lcat, z_lset, z_stA, z_ixA, z_ixM, z_i0, z_i1, z_i2, z_i3, z_fdiv2, z_fdiv6, z_fmod6, z_mul6, z_mul2, z_slT, z_slL, z_p1, z_p2, v_x_InvalidCourse, v_x_TooHigh, v_MOST_COURSES, v_MOST_KIND, v_NO_HOLES, v_SIDES, v_WIDTHS, beq_self_eq_true, Option.getD_some, Option.getD_none, List.getElem?_cons_zero, List.getElem?_cons_succ, Option.bind_some, Option.bind_none, id_eq, Option.map_some, Option.map_none, purs, noloc, setN, List.set_cons_zero, List.set_cons_succ, List.map_cons, List.map_nil, List.length_cons, List.length_nil, List.cons_append, List.nil_append, List.append_nil, List.replicate_succ, List.replicate_zero, Nat.reduceSub, Nat.reduceAdd, Nat.reduceEqDiff, Nat.reduceBEq, if_true, if_false, ↓reduceIte, Bool.not_true, Bool.not_false, decide_true, decide_false, isNon, dselP, eq_self, Bool.and_self, Bool.and_true, Bool.true_and, Int.cast_ofNat_Int, e1, e2, hv, e3, e4, ew, el, eb, eq, er, hb, hq, enc, hk0']
theorem encs_of : ∀ {ps : List P}, (∀ p ∈ ps, ∃ c, p = enc c ∧ okC c) → ∃ cs : List Crs, ps = cs.map enc ∧ ∀ c ∈ cs, okC c
  | [], _ => ⟨[], rfl, fun c h => nomatch h⟩
  | p :: ps, h => by
    obtain ⟨c, rfl, hc⟩ := h p List.mem_cons_self
    obtain ⟨cs, rfl, hcs⟩ := encs_of fun q hq => h q (List.mem_cons_of_mem _ hq)
    exact ⟨c :: cs, rfl, fun d hd => (List.mem_cons.mp hd).elim (fun e => e ▸ hc) (hcs d)⟩
theorem courses_ok {m : List Cell} (h : Dr m) {most : Int} (h1 : 1 ≤ most) (h2 : most ≤ 100) : ∃ (cs : List Crs) (m' : List Cell), F__law_courses [.cel 1, .pur (.int most)] m = .ok (.pur (.tup (cs.map enc))) m' ∧ (∀ c ∈ cs, okC c) ∧ 1 ≤ cs.length ∧ (cs.length : Int) ≤ most ∧ Dr m' := by
  obtain ⟨v, m1, e, v0, v1, d⟩ := next_ok h (cap := most) h1 (by omega)
  unfold F__law_courses d__law_courses b__law_courses
  obtain ⟨ps, m', ec, d', hl, hp⟩ := lc_st (Γ := G__law_courses) (e := .call 24 (.cons (.slot 0) .nil)) (t := .nm 2) (it := .rng1 (.bin .Add (.cst (.int 1)) (.call 17 (.cons (.slot 0) (.cons (.slot 1) .nil))))) (own := [2]) (l := []) (r := [some (.cel 1), some (.pur (.int most)), none]) (m := m) (m0 := m1) (items := (List.range (1 + v).toNat).map fun (i : Nat) => P.int (i : Int)) Dr (fun p => ∃ c, p = enc c ∧ okC c) (it_rng1' (n := 1 + v) (by simp only [g__law_courses_x, g__law_courses__law_course, g__law_courses__law_next, g__law_courses_g, g__law_courses_a, z_bind, z_st, z_pS, z_slot, z_cst, z_glb, z_kTup, z_kLst, z_kLstL, z_kLstC, z_kBin2, z_kBin, z_kNeg, z_kCmp2, z_kCmp, z_kChn2, z_kChn, z_kNot, z_kIte, z_kIdx2, z_kIdx, z_kSlc3, z_kSlc2, z_kSlc, z_kSome, z_kRev, z_kDsel2, z_kDsel, z_kIsi, z_kIsT, z_kBif, z_kListC, z_kLrg, z_lrg, z_kMth2, z_kMth, z_kFld, z_kCall, z_kCalp, z_kMkf, z_kLc, z_tup, z_lst, z_lstL, z_lstC, z_bin, z_neg, z_cmp, z_chn, z_bop, z_not, z_ite, z_idx, z_slc, z_rev, z_dsel, z_isi, z_isT, z_bif, z_listC, z_mth, z_fld, z_call, z_calp, z_mkf, z_frz, z_nil, z_kCons2, z_kCons, z_kStar2, z_kStar, z_kB, z_cons, z_star, z_b1, z_b2, z_o0, z_o1, z_kSeq, z_kEnu, z_kRng1, z_kRng3, z_kRng2, z_kC, z_seq, z_enu, z_c0, z_c1, z_kAsg, z_kUnp, z_kPar, z_kSto26, z_kSto25, z_kSto24, z_kSto23, z_kSto22, z_sto2, z_kSto3, z_kSto2, z_kSto, z_kAugs3, z_kAugs2, z_kAugs, z_kAug, z_kStf2, z_kStf, z_kExp, z_kRet, z_kIfs, z_kFor, z_kS, z_asg, z_unp, z_par, z_sto, z_augs, z_aug, z_stf, z_exp, z_ret, z_ret0, z_ifs, z_forr, z_whil, z_pas, z_brk, z_con, z_snil, z_scons, z_callU, z_callH, z_callG, z_callX, z_calpU, z_calpH, z_calpG, z_calpX, z_runU, z_run1, z_run2, z_run3, z_run4, z_dat, z_at0, z_at1, z_at2, z_at3, z_at4, z_at5, z_ixT, z_ixL, z_pp, z_add, z_sub, z_mulS, z_mulT, z_mulL, z_lt, z_le, z_gt, z_ge, z_eqI, z_neI, z_eqS, z_isN, z_isnN, z_methH, z_kMeth2, z_kMeth, z_meth, z_recP, z_calmP, z_calmC, z_prpG, z_prpP, z_kProp, z_prop, z_objP, z_kOwn2, z_kOwn, z_kOwnC2, z_kOwnC, z_opc, z_opb, z_own, z_ownP, z_ownC, z_ownT, z_kLenO, z_lenO, z_lenP, z_kIsc, z_isc, z_bindX, z_kRai, z_rai, z_rai0, z_rai1, z_rai2, z_hd, z_hdF, z_hdT, z_nm0, z_rm0, z_rm1, z_ht0, z_ht1, z_ht2, z_ht3, z_try, z_try0, z_tryX, z_kSX, z_clpG, z_clp0, z_calp0, z_kIscT, z_kSpl2, z_kSpl, z_spl, z_kJoi2, z_kJoi, z_joi, z_kMkc, z_mkc, z_mkcG, z_mkcH, z_mkcF, z_kAugf2, z_kAugf, z_augf, z_fns, z_ini, z_gl, z_xf, z_fa, z_pI, z_binC, z_ixC, z_stC, z_lenC, z_lenD, z_max, z_min, z_int, z_lenL, z_lenT, z_ten18, z_ix0, z_ix2, z_line0, z_line1, z_line2, z_line3, z_line4, z_line5, z_line6, z_line7, z_line8, z_q1, z_q2, z_q3, z_q4, z_q5, z_q6, z_q7, z_q8, z_q9, z_q10, z_q11, z_q12, z_q13, z_q14, z_q15, z_sqT, z_sqL, z_sqS, z_as1, z_as2, z_tupL, z_sumT, z_sum, z_w0, z_w1, z_augS, z_augA, z_fnd, z_lenA, z_lenB, z_rcA, z_mtA, z_lcat, z_lset, z_stA, z_ixA, z_ixM, z_i0, z_i1, z_i2, z_i3, z_fdiv2, z_fdiv6, z_fmod6, z_mul6, z_mul2, z_slT, z_slL, z_p1, z_p2, v_x_InvalidCourse, v_x_TooHigh, v_MOST_COURSES, v_MOST_KIND, v_NO_HOLES, v_SIDES, v_WIDTHS, beq_self_eq_true, Option.getD_some, Option.getD_none, List.getElem?_cons_zero, List.getElem?_cons_succ, Option.bind_some, Option.bind_none, id_eq, Option.map_some, Option.map_none, purs, noloc, setN, List.set_cons_zero, List.set_cons_succ, List.map_cons, List.map_nil, List.length_cons, List.length_nil, List.cons_append, List.nil_append, List.append_nil, List.replicate_succ, List.replicate_zero, Nat.reduceSub, Nat.reduceAdd, Nat.reduceEqDiff, Nat.reduceBEq, if_true, if_false, ↓reduceIte, Bool.not_true, Bool.not_false, decide_true, decide_false, isNon, dselP, eq_self, Bool.and_self, Bool.and_true, Bool.true_and, Int.cast_ofNat_Int, e]) (by omega) (by omega)) d (by rw [List.length_map, List.length_range]; unfold line; omega) (fun x _ m hm => by
      obtain ⟨c, m', e, ok, d⟩ := course_ok hm
      refine ⟨_, { r := [some (.cel 1), some (.pur (.int most)), some (.pur x)], m := m', l := [] }, enc c, rfl, ?_, rfl, d, ⟨c, rfl, ok⟩⟩
      simp only [g__law_courses_x, g__law_courses__law_course, g__law_courses__law_next, g__law_courses_g, g__law_courses_a, z_bind, z_st, z_pS, z_slot, z_cst, z_glb, z_kTup, z_kLst, z_kLstL, z_kLstC, z_kBin2, z_kBin, z_kNeg, z_kCmp2, z_kCmp, z_kChn2, z_kChn, z_kNot, z_kIte, z_kIdx2, z_kIdx, z_kSlc3, z_kSlc2, z_kSlc, z_kSome, z_kRev, z_kDsel2, z_kDsel, z_kIsi, z_kIsT, z_kBif, z_kListC, z_kLrg, z_lrg, z_kMth2, z_kMth, z_kFld, z_kCall, z_kCalp, z_kMkf, z_kLc, z_tup, z_lst, z_lstL, z_lstC, z_bin, z_neg, z_cmp, z_chn, z_bop, z_not, z_ite, z_idx, z_slc, z_rev, z_dsel, z_isi, z_isT, z_bif, z_listC, z_mth, z_fld, z_call, z_calp, z_mkf, z_frz, z_nil, z_kCons2, z_kCons, z_kStar2, z_kStar, z_kB, z_cons, z_star, z_b1, z_b2, z_o0, z_o1, z_kSeq, z_kEnu, z_kRng1, z_kRng3, z_kRng2, z_kC, z_seq, z_enu, z_c0, z_c1, z_kAsg, z_kUnp, z_kPar, z_kSto26, z_kSto25, z_kSto24, z_kSto23, z_kSto22, z_sto2, z_kSto3, z_kSto2, z_kSto, z_kAugs3, z_kAugs2, z_kAugs, z_kAug, z_kStf2, z_kStf, z_kExp, z_kRet, z_kIfs, z_kFor, z_kS, z_asg, z_unp, z_par, z_sto, z_augs, z_aug, z_stf, z_exp, z_ret, z_ret0, z_ifs, z_forr, z_whil, z_pas, z_brk, z_con, z_snil, z_scons, z_callU, z_callH, z_callG, z_callX, z_calpU, z_calpH, z_calpG, z_calpX, z_runU, z_run1, z_run2, z_run3, z_run4, z_dat, z_at0, z_at1, z_at2, z_at3, z_at4, z_at5, z_ixT, z_ixL, z_pp, z_add, z_sub, z_mulS, z_mulT, z_mulL, z_lt, z_le, z_gt, z_ge, z_eqI, z_neI, z_eqS, z_isN, z_isnN, z_methH, z_kMeth2, z_kMeth, z_meth, z_recP, z_calmP, z_calmC, z_prpG, z_prpP, z_kProp, z_prop, z_objP, z_kOwn2, z_kOwn, z_kOwnC2, z_kOwnC, z_opc, z_opb, z_own, z_ownP, z_ownC, z_ownT, z_kLenO, z_lenO, z_lenP, z_kIsc, z_isc, z_bindX, z_kRai, z_rai, z_rai0, z_rai1, z_rai2, z_hd, z_hdF, z_hdT, z_nm0, z_rm0, z_rm1, z_ht0, z_ht1, z_ht2, z_ht3, z_try, z_try0, z_tryX, z_kSX, z_clpG, z_clp0, z_calp0, z_kIscT, z_kSpl2, z_kSpl, z_spl, z_kJoi2, z_kJoi, z_joi, z_kMkc, z_mkc, z_mkcG, z_mkcH, z_mkcF, z_kAugf2, z_kAugf, z_augf, z_fns, z_ini, z_gl, z_xf, z_fa, z_pI, z_binC, z_ixC, z_stC, z_lenC, z_lenD, z_max, z_min, z_int, z_lenL, z_lenT, z_ten18, z_ix0, z_ix2, z_line0, z_line1, z_line2, z_line3, z_line4, z_line5, z_line6, z_line7, z_line8, z_q1, z_q2, z_q3, z_q4, z_q5, z_q6, z_q7, z_q8, z_q9, z_q10, z_q11, z_q12, z_q13, z_q14, z_q15, z_sqT, z_sqL, z_sqS, z_as1, z_as2, z_tupL, z_sumT, z_sum, z_w0, z_w1, z_augS, z_augA, z_fnd, z_lenA, z_lenB, z_rcA, z_mtA, z_lcat, z_lset, z_stA, z_ixA, z_ixM, z_i0, z_i1, z_i2, z_i3, z_fdiv2, z_fdiv6, z_fmod6, z_mul6, z_mul2, z_slT, z_slL, z_p1, z_p2, v_x_InvalidCourse, v_x_TooHigh, v_MOST_COURSES, v_MOST_KIND, v_NO_HOLES, v_SIDES, v_WIDTHS, beq_self_eq_true, Option.getD_some, Option.getD_none, List.getElem?_cons_zero, List.getElem?_cons_succ, Option.bind_some, Option.bind_none, id_eq, Option.map_some, Option.map_none, purs, noloc, setN, List.set_cons_zero, List.set_cons_succ, List.map_cons, List.map_nil, List.length_cons, List.length_nil, List.cons_append, List.nil_append, List.append_nil, List.replicate_succ, List.replicate_zero, Nat.reduceSub, Nat.reduceAdd, Nat.reduceEqDiff, Nat.reduceBEq, if_true, if_false, ↓reduceIte, Bool.not_true, Bool.not_false, decide_true, decide_false, isNon, dselP, eq_self, Bool.and_self, Bool.and_true, Bool.true_and, Int.cast_ofNat_Int, e])
  obtain ⟨cs, rfl, ok⟩ := encs_of hp
  have hln : (cs.length : Int) = 1 + v := by
    rw [List.length_map, List.length_map, List.length_range] at hl
    omega
  refine ⟨cs, m', ?_, ok, by omega, by omega, d'⟩
  unfold k__law_courses_1
  simp only [g__law_courses_x, g__law_courses__law_course, g__law_courses__law_next, g__law_courses_g, g__law_courses_a, z_bind, z_st, z_pS, z_slot, z_cst, z_glb, z_kTup, z_kLst, z_kLstL, z_kLstC, z_kBin2, z_kBin, z_kNeg, z_kCmp2, z_kCmp, z_kChn2, z_kChn, z_kNot, z_kIte, z_kIdx2, z_kIdx, z_kSlc3, z_kSlc2, z_kSlc, z_kSome, z_kRev, z_kDsel2, z_kDsel, z_kIsi, z_kIsT, z_kBif, z_kListC, z_kLrg, z_lrg, z_kMth2, z_kMth, z_kFld, z_kCall, z_kCalp, z_kMkf, z_kLc, z_tup, z_lst, z_lstL, z_lstC, z_bin, z_neg, z_cmp, z_chn, z_bop, z_not, z_ite, z_idx, z_slc, z_rev, z_dsel, z_isi, z_isT, z_bif, z_listC, z_mth, z_fld, z_call, z_calp, z_mkf, z_frz, z_nil, z_kCons2, z_kCons, z_kStar2, z_kStar, z_kB, z_cons, z_star, z_b1, z_b2, z_o0, z_o1, z_kSeq, z_kEnu, z_kRng1, z_kRng3, z_kRng2, z_kC, z_seq, z_enu, z_c0, z_c1, z_kAsg, z_kUnp, z_kPar, z_kSto26, z_kSto25, z_kSto24, z_kSto23, z_kSto22, z_sto2, z_kSto3, z_kSto2, z_kSto, z_kAugs3, z_kAugs2, z_kAugs, z_kAug, z_kStf2, z_kStf, z_kExp, z_kRet, z_kIfs, z_kFor, z_kS, z_asg, z_unp, z_par, z_sto, z_augs, z_aug, z_stf, z_exp, z_ret, z_ret0, z_ifs, z_forr, z_whil, z_pas, z_brk, z_con, z_snil, z_scons, z_callU, z_callH, z_callG, z_callX, z_calpU, z_calpH, z_calpG, z_calpX, z_runU, z_run1, z_run2, z_run3, z_run4, z_dat, z_at0, z_at1, z_at2, z_at3, z_at4, z_at5, z_ixT, z_ixL, z_pp, z_add, z_sub, z_mulS, z_mulT, z_mulL, z_lt, z_le, z_gt, z_ge, z_eqI, z_neI, z_eqS, z_isN, z_isnN, z_methH, z_kMeth2, z_kMeth, z_meth, z_recP, z_calmP, z_calmC, z_prpG, z_prpP, z_kProp, z_prop, z_objP, z_kOwn2, z_kOwn, z_kOwnC2, z_kOwnC, z_opc, z_opb, z_own, z_ownP, z_ownC, z_ownT, z_kLenO, z_lenO, z_lenP, z_kIsc, z_isc, z_bindX, z_kRai, z_rai, z_rai0, z_rai1, z_rai2, z_hd, z_hdF, z_hdT, z_nm0, z_rm0, z_rm1, z_ht0, z_ht1, z_ht2, z_ht3, z_try, z_try0, z_tryX, z_kSX, z_clpG, z_clp0, z_calp0, z_kIscT, z_kSpl2, z_kSpl, z_spl, z_kJoi2, z_kJoi, z_joi, z_kMkc, z_mkc, z_mkcG, z_mkcH, z_mkcF, z_kAugf2, z_kAugf, z_augf, z_fns, z_ini, z_gl, z_xf, z_fa, z_pI, z_binC, z_ixC, z_stC, z_lenC, z_lenD, z_max, z_min, z_int, z_lenL, z_lenT, z_ten18, z_ix0, z_ix2, z_line0, z_line1, z_line2, z_line3, z_line4, z_line5, z_line6, z_line7, z_line8, z_q1, z_q2, z_q3, z_q4, z_q5, z_q6, z_q7, z_q8, z_q9, z_q10, z_q11, z_q12, z_q13, z_q14, z_q15, z_sqT, z_sqL, z_sqS, z_as1, z_as2, z_tupL, z_sumT, z_sum, z_w0, z_w1, z_augS, z_augA, z_fnd, z_lenA, z_lenB, z_rcA, z_mtA, z_lcat, z_lset, z_stA, z_ixA, z_ixM, z_i0, z_i1, z_i2, z_i3, z_fdiv2, z_fdiv6, z_fmod6, z_mul6, z_mul2, z_slT, z_slL, z_p1, z_p2, v_x_InvalidCourse, v_x_TooHigh, v_MOST_COURSES, v_MOST_KIND, v_NO_HOLES, v_SIDES, v_WIDTHS, beq_self_eq_true, Option.getD_some, Option.getD_none, List.getElem?_cons_zero, List.getElem?_cons_succ, Option.bind_some, Option.bind_none, id_eq, Option.map_some, Option.map_none, purs, noloc, setN, List.set_cons_zero, List.set_cons_succ, List.map_cons, List.map_nil, List.length_cons, List.length_nil, List.cons_append, List.nil_append, List.append_nil, List.replicate_succ, List.replicate_zero, Nat.reduceSub, Nat.reduceAdd, Nat.reduceEqDiff, Nat.reduceBEq, if_true, if_false, ↓reduceIte, Bool.not_true, Bool.not_false, decide_true, decide_false, isNon, dselP, eq_self, Bool.and_self, Bool.and_true, Bool.true_and, Int.cast_ofNat_Int, ec]
theorem mix_loop {d0 d1 : D} : ∀ (ns : List Int) (a : Int) (b : Option D), ∃ (a' : Int) (b' : Option D), forF (.nm 3) (exSs G__law_mix b__law_mix_l1) (ns.map P.int) { r := [some d0, some d1, some (.pur (.int a)), b], m := [], l := [] } = .ok .nx { r := [some d0, some d1, some (.pur (.int a')), b'], m := [], l := [] }
  | [], a, b => ⟨a, b, rfl⟩
  | n :: ns, a, b => by
    obtain ⟨a', b', e⟩ := mix_loop (d0 := d0) (d1 := d1) ns ((a * 48271 + n % 2147483629 + 1) % 2147483647) (some (.pur (.int n)))
    refine ⟨a', b', ?_⟩
    rw [List.map_cons, z_for1]
    conv => lhs; unfold b__law_mix_l1
    simp only [z_bind, z_st, z_pS, z_slot, z_cst, z_glb, z_kTup, z_kLst, z_kLstL, z_kLstC, z_kBin2, z_kBin, z_kNeg, z_kCmp2, z_kCmp, z_kChn2, z_kChn, z_kNot, z_kIte, z_kIdx2, z_kIdx, z_kSlc3, z_kSlc2, z_kSlc, z_kSome, z_kRev, z_kDsel2, z_kDsel, z_kIsi, z_kIsT, z_kBif, z_kListC, z_kLrg, z_lrg, z_kMth2, z_kMth, z_kFld, z_kCall, z_kCalp, z_kMkf, z_kLc, z_tup, z_lst, z_lstL, z_lstC, z_bin, z_neg, z_cmp, z_chn, z_bop, z_not, z_ite, z_idx, z_slc, z_rev, z_dsel, z_isi, z_isT, z_bif, z_listC, z_mth, z_fld, z_call, z_calp, z_mkf, z_frz, z_nil, z_kCons2, z_kCons, z_kStar2, z_kStar, z_kB, z_cons, z_star, z_b1, z_b2, z_o0, z_o1, z_kSeq, z_kEnu, z_kRng1, z_kRng3, z_kRng2, z_kC, z_seq, z_enu, z_c0, z_c1, z_kAsg, z_kUnp, z_kPar, z_kSto26, z_kSto25, z_kSto24, z_kSto23, z_kSto22, z_sto2, z_kSto3, z_kSto2, z_kSto, z_kAugs3, z_kAugs2, z_kAugs, z_kAug, z_kStf2, z_kStf, z_kExp, z_kRet, z_kIfs, z_kFor, z_kS, z_asg, z_unp, z_par, z_sto, z_augs, z_aug, z_stf, z_exp, z_ret, z_ret0, z_ifs, z_forr, z_whil, z_pas, z_brk, z_con, z_snil, z_scons, z_callU, z_callH, z_callG, z_callX, z_calpU, z_calpH, z_calpG, z_calpX, z_runU, z_run1, z_run2, z_run3, z_run4, z_dat, z_at0, z_at1, z_at2, z_at3, z_at4, z_at5, z_ixT, z_ixL, z_pp, z_add, z_sub, z_mulS, z_mulT, z_mulL, z_lt, z_le, z_gt, z_ge, z_eqI, z_neI, z_eqS, z_isN, z_isnN, z_methH, z_kMeth2, z_kMeth, z_meth, z_recP, z_calmP, z_calmC, z_prpG, z_prpP, z_kProp, z_prop, z_objP, z_kOwn2, z_kOwn, z_kOwnC2, z_kOwnC, z_opc, z_opb, z_own, z_ownP, z_ownC, z_ownT, z_kLenO, z_lenO, z_lenP, z_kIsc, z_isc, z_bindX, z_kRai, z_rai, z_rai0, z_rai1, z_rai2, z_hd, z_hdF, z_hdT, z_nm0, z_rm0, z_rm1, z_ht0, z_ht1, z_ht2, z_ht3, z_try, z_try0, z_tryX, z_kSX, z_clpG, z_clp0, z_calp0, z_kIscT, z_kSpl2, z_kSpl, z_spl, z_kJoi2, z_kJoi, z_joi, z_kMkc, z_mkc, z_mkcG, z_mkcH, z_mkcF, z_kAugf2, z_kAugf, z_augf, z_fns, z_ini, z_gl, z_xf, z_fa, z_pI, z_binC, z_ixC, z_stC, z_lenC, z_lenD, z_max, z_min, z_int, z_lenL, z_lenT, z_ten18, z_ix0, z_ix2, z_line0, z_line1, z_line2, z_line3, z_line4, z_line5, z_line6, z_line7, z_line8, z_q1, z_q2, z_q3, z_q4, z_q5, z_q6, z_q7, z_q8, z_q9, z_q10, z_q11, z_q12, z_q13, z_q14, z_q15, z_sqT, z_sqL, z_sqS, z_as1, z_as2, z_tupL, z_sumT, z_sum, z_w0, z_w1, z_augS, z_augA, z_fnd, z_lenA, z_lenB, z_rcA, z_mtA, z_lcat, z_lset, z_stA, z_ixA, z_ixM, z_i0, z_i1, z_i2, z_i3, z_fdiv2, z_fdiv6, z_fmod6, z_mul6, z_mul2, z_slT, z_slL, z_p1, z_p2, v_x_InvalidCourse, v_x_TooHigh, v_MOST_COURSES, v_MOST_KIND, v_NO_HOLES, v_SIDES, v_WIDTHS, beq_self_eq_true, Option.getD_some, Option.getD_none, List.getElem?_cons_zero, List.getElem?_cons_succ, Option.bind_some, Option.bind_none, id_eq, Option.map_some, Option.map_none, purs, noloc, setN, List.set_cons_zero, List.set_cons_succ, List.map_cons, List.map_nil, List.length_cons, List.length_nil, List.cons_append, List.nil_append, List.append_nil, List.replicate_succ, List.replicate_zero, Nat.reduceSub, Nat.reduceAdd, Nat.reduceEqDiff, Nat.reduceBEq, if_true, if_false, ↓reduceIte, Bool.not_true, Bool.not_false, decide_true, decide_false, isNon, dselP, eq_self, Bool.and_self, Bool.and_true, Bool.true_and, Int.cast_ofNat_Int, z_mul (mulR (i := a) (j := 48271) (by decide) (by decide)), z_mod (show (0 : Int) < 2147483629 by decide), z_mod (show (0 : Int) < 2147483647 by decide)]
    exact e
theorem mix_ok (ns : List Int) (hl : ns.length ≤ 63) (sd : Int) : ∃ m', F__law_mix [.pur (.sq (ns.map P.int)), .pur (.int sd)] [] = .ok (.cel 1) m' ∧ Dr m' := by
  obtain ⟨a', b', e⟩ := mix_loop (d0 := .pur (.sq (ns.map P.int))) (d1 := .pur (.int sd)) ns sd none
  refine ⟨[.lst ((ns.map P.int).map D.pur), .lst [.pur (.int a'), .cel 0, .pur (.int 0)]], ?_, a', 0, ns, hl, by rw [List.map_map]; rfl⟩
  unfold F__law_mix d__law_mix b__law_mix
  simp only [g__law_mix_x, g__law_mix_g, g__law_mix_a, z_bind, z_st, z_pS, z_slot, z_cst, z_glb, z_kTup, z_kLst, z_kLstL, z_kLstC, z_kBin2, z_kBin, z_kNeg, z_kCmp2, z_kCmp, z_kChn2, z_kChn, z_kNot, z_kIte, z_kIdx2, z_kIdx, z_kSlc3, z_kSlc2, z_kSlc, z_kSome, z_kRev, z_kDsel2, z_kDsel, z_kIsi, z_kIsT, z_kBif, z_kListC, z_kLrg, z_lrg, z_kMth2, z_kMth, z_kFld, z_kCall, z_kCalp, z_kMkf, z_kLc, z_tup, z_lst, z_lstL, z_lstC, z_bin, z_neg, z_cmp, z_chn, z_bop, z_not, z_ite, z_idx, z_slc, z_rev, z_dsel, z_isi, z_isT, z_bif, z_listC, z_mth, z_fld, z_call, z_calp, z_mkf, z_frz, z_nil, z_kCons2, z_kCons, z_kStar2, z_kStar, z_kB, z_cons, z_star, z_b1, z_b2, z_o0, z_o1, z_kSeq, z_kEnu, z_kRng1, z_kRng3, z_kRng2, z_kC, z_seq, z_enu, z_c0, z_c1, z_kAsg, z_kUnp, z_kPar, z_kSto26, z_kSto25, z_kSto24, z_kSto23, z_kSto22, z_sto2, z_kSto3, z_kSto2, z_kSto, z_kAugs3, z_kAugs2, z_kAugs, z_kAug, z_kStf2, z_kStf, z_kExp, z_kRet, z_kIfs, z_kFor, z_kS, z_asg, z_unp, z_par, z_sto, z_augs, z_aug, z_stf, z_exp, z_ret, z_ret0, z_ifs, z_forr, z_whil, z_pas, z_brk, z_con, z_snil, z_scons, z_callU, z_callH, z_callG, z_callX, z_calpU, z_calpH, z_calpG, z_calpX, z_runU, z_run1, z_run2, z_run3, z_run4, z_dat, z_at0, z_at1, z_at2, z_at3, z_at4, z_at5, z_ixT, z_ixL, z_pp, z_add, z_sub, z_mulS, z_mulT, z_mulL, z_lt, z_le, z_gt, z_ge, z_eqI, z_neI, z_eqS, z_isN, z_isnN, z_methH, z_kMeth2, z_kMeth, z_meth, z_recP, z_calmP, z_calmC, z_prpG, z_prpP, z_kProp, z_prop, z_objP, z_kOwn2, z_kOwn, z_kOwnC2, z_kOwnC, z_opc, z_opb, z_own, z_ownP, z_ownC, z_ownT, z_kLenO, z_lenO, z_lenP, z_kIsc, z_isc, z_bindX, z_kRai, z_rai, z_rai0, z_rai1, z_rai2, z_hd, z_hdF, z_hdT, z_nm0, z_rm0, z_rm1, z_ht0, z_ht1, z_ht2, z_ht3, z_try, z_try0, z_tryX, z_kSX, z_clpG, z_clp0, z_calp0, z_kIscT, z_kSpl2, z_kSpl, z_spl, z_kJoi2, z_kJoi, z_joi, z_kMkc, z_mkc, z_mkcG, z_mkcH, z_mkcF, z_kAugf2, z_kAugf, z_augf, z_fns, z_ini, z_gl, z_xf, z_fa, z_pI, z_binC, z_ixC, z_stC, z_lenC, z_lenD, z_max, z_min, z_int, z_lenL, z_lenT, z_ten18, z_ix0, z_ix2, z_line0, z_line1, z_line2, z_line3, z_line4, z_line5, z_line6, z_line7, z_line8, z_q1, z_q2, z_q3, z_q4, z_q5, z_q6, z_q7, z_q8, z_q9, z_q10, z_q11, z_q12, z_q13, z_q14, z_q15, z_sqT, z_sqL, z_sqS, z_as1, z_as2, z_tupL, z_sumT, z_sum, z_w0, z_w1, z_augS, z_augA, z_fnd, z_lenA, z_lenB, z_rcA, z_mtA, z_lcat, z_lset, z_stA, z_ixA, z_ixM, z_i0, z_i1, z_i2, z_i3, z_fdiv2, z_fdiv6, z_fmod6, z_mul6, z_mul2, z_slT, z_slL, z_p1, z_p2, v_x_InvalidCourse, v_x_TooHigh, v_MOST_COURSES, v_MOST_KIND, v_NO_HOLES, v_SIDES, v_WIDTHS, beq_self_eq_true, Option.getD_some, Option.getD_none, List.getElem?_cons_zero, List.getElem?_cons_succ, Option.bind_some, Option.bind_none, id_eq, Option.map_some, Option.map_none, purs, noloc, setN, List.set_cons_zero, List.set_cons_succ, List.map_cons, List.map_nil, List.length_cons, List.length_nil, List.cons_append, List.nil_append, List.append_nil, List.replicate_succ, List.replicate_zero, Nat.reduceSub, Nat.reduceAdd, Nat.reduceEqDiff, Nat.reduceBEq, if_true, if_false, ↓reduceIte, Bool.not_true, Bool.not_false, decide_true, decide_false, isNon, dselP, eq_self, Bool.and_self, Bool.and_true, Bool.true_and, Int.cast_ofNat_Int, e]
end HL
end

section
set_option Elab.async false
set_option linter.all false
set_option maxRecDepth 100000
set_option maxHeartbeats 1000000
/-! U2: heaps -/
namespace HL
open PySem Ev
theorem isint_ok {v lo hi : Int} : F_is_integer [.pur (.int v), .pur (.int lo), .pur (.int hi)] [] = .ok (.pur (.bl (decide (lo ≤ v) && decide (v ≤ hi)))) [] := by
  unfold F_is_integer d_is_integer b_is_integer
  by_cases h : lo ≤ v
  · by_cases h2 : v ≤ hi
    · simp only [g_is_integer_x, g_is_integer_g, g_is_integer_a, z_bind, z_st, z_pS, z_slot, z_cst, z_glb, z_kTup, z_kLst, z_kLstL, z_kLstC, z_kBin2, z_kBin, z_kNeg, z_kCmp2, z_kCmp, z_kChn2, z_kChn, z_kNot, z_kIte, z_kIdx2, z_kIdx, z_kSlc3, z_kSlc2, z_kSlc, z_kSome, z_kRev, z_kDsel2, z_kDsel, z_kIsi, z_kIsT, z_kBif, z_kListC, z_kLrg, z_lrg, z_kMth2, z_kMth, z_kFld, z_kCall, z_kCalp, z_kMkf, z_kLc, z_tup, z_lst, z_lstL, z_lstC, z_bin, z_neg, z_cmp, z_chn, z_bop, z_not, z_ite, z_idx, z_slc, z_rev, z_dsel, z_isi, z_isT, z_bif, z_listC, z_mth, z_fld, z_call, z_calp, z_mkf, z_frz, z_nil, z_kCons2, z_kCons, z_kStar2, z_kStar, z_kB, z_cons, z_star, z_b1, z_b2, z_o0, z_o1, z_kSeq, z_kEnu, z_kRng1, z_kRng3, z_kRng2, z_kC, z_seq, z_enu, z_c0, z_c1, z_kAsg, z_kUnp, z_kPar, z_kSto26, z_kSto25, z_kSto24, z_kSto23, z_kSto22, z_sto2, z_kSto3, z_kSto2, z_kSto, z_kAugs3, z_kAugs2, z_kAugs, z_kAug, z_kStf2, z_kStf, z_kExp, z_kRet, z_kIfs, z_kFor, z_kS, z_asg, z_unp, z_par, z_sto, z_augs, z_aug, z_stf, z_exp, z_ret, z_ret0, z_ifs, z_forr, z_whil, z_pas, z_brk, z_con, z_snil, z_scons, z_callU, z_callH, z_callG, z_callX, z_calpU, z_calpH, z_calpG, z_calpX, z_runU, z_run1, z_run2, z_run3, z_run4, z_dat, z_at0, z_at1, z_at2, z_at3, z_at4, z_at5, z_ixT, z_ixL, z_pp, z_add, z_sub, z_mulS, z_mulT, z_mulL, z_lt, z_le, z_gt, z_ge, z_eqI, z_neI, z_eqS, z_isN, z_isnN, z_methH, z_kMeth2, z_kMeth, z_meth, z_recP, z_calmP, z_calmC, z_prpG, z_prpP, z_kProp, z_prop, z_objP, z_kOwn2, z_kOwn, z_kOwnC2, z_kOwnC, z_opc, z_opb, z_own, z_ownP, z_ownC, z_ownT, z_kLenO, z_lenO, z_lenP, z_kIsc, z_isc, z_bindX, z_kRai, z_rai, z_rai0, z_rai1, z_rai2, z_hd, z_hdF, z_hdT, z_nm0, z_rm0, z_rm1, z_ht0, z_ht1, z_ht2, z_ht3, z_try, z_try0, z_tryX, z_kSX, z_clpG, z_clp0, z_calp0, z_kIscT, z_kSpl2, z_kSpl, z_spl, z_kJoi2, z_kJoi, z_joi, z_kMkc, z_mkc, z_mkcG, z_mkcH, z_mkcF, z_kAugf2, z_kAugf, z_augf, z_fns, z_ini, z_gl, z_xf, z_fa, z_pI, z_binC, z_ixC, z_stC, z_lenC, z_lenD, z_max, z_min, z_int, z_lenL, z_lenT, z_ten18, z_ix0, z_ix2, z_line0, z_line1, z_line2, z_line3, z_line4, z_line5, z_line6, z_line7, z_line8, z_q1, z_q2, z_q3, z_q4, z_q5, z_q6, z_q7, z_q8, z_q9, z_q10, z_q11, z_q12, z_q13, z_q14, z_q15, z_sqT, z_sqL, z_sqS, z_as1, z_as2, z_tupL, z_sumT, z_sum, z_w0, z_w1, z_augS, z_augA, z_fnd, z_lenA, z_lenB, z_rcA, z_mtA, z_lcat, z_lset, z_stA, z_ixA, z_ixM, z_i0, z_i1, z_i2, z_i3, z_fdiv2, z_fdiv6, z_fmod6, z_mul6, z_mul2, z_slT, z_slL, z_p1, z_p2, v_x_InvalidCourse, v_x_TooHigh, v_MOST_COURSES, v_MOST_KIND, v_NO_HOLES, v_SIDES, v_WIDTHS, beq_self_eq_true, Option.getD_some, Option.getD_none, List.getElem?_cons_zero, List.getElem?_cons_succ, Option.bind_some, Option.bind_none, id_eq, Option.map_some, Option.map_none, purs, noloc, setN, List.set_cons_zero, List.set_cons_succ, List.map_cons, List.map_nil, List.length_cons, List.length_nil, List.cons_append, List.nil_append, List.append_nil, List.replicate_succ, List.replicate_zero, Nat.reduceSub, Nat.reduceAdd, Nat.reduceEqDiff, Nat.reduceBEq, if_true, if_false, ↓reduceIte, Bool.not_true, Bool.not_false, decide_true, decide_false, isNon, dselP, eq_self, Bool.and_self, Bool.and_true, Bool.true_and, Int.cast_ofNat_Int, isTy, h, h2]
    · simp only [g_is_integer_x, g_is_integer_g, g_is_integer_a, z_bind, z_st, z_pS, z_slot, z_cst, z_glb, z_kTup, z_kLst, z_kLstL, z_kLstC, z_kBin2, z_kBin, z_kNeg, z_kCmp2, z_kCmp, z_kChn2, z_kChn, z_kNot, z_kIte, z_kIdx2, z_kIdx, z_kSlc3, z_kSlc2, z_kSlc, z_kSome, z_kRev, z_kDsel2, z_kDsel, z_kIsi, z_kIsT, z_kBif, z_kListC, z_kLrg, z_lrg, z_kMth2, z_kMth, z_kFld, z_kCall, z_kCalp, z_kMkf, z_kLc, z_tup, z_lst, z_lstL, z_lstC, z_bin, z_neg, z_cmp, z_chn, z_bop, z_not, z_ite, z_idx, z_slc, z_rev, z_dsel, z_isi, z_isT, z_bif, z_listC, z_mth, z_fld, z_call, z_calp, z_mkf, z_frz, z_nil, z_kCons2, z_kCons, z_kStar2, z_kStar, z_kB, z_cons, z_star, z_b1, z_b2, z_o0, z_o1, z_kSeq, z_kEnu, z_kRng1, z_kRng3, z_kRng2, z_kC, z_seq, z_enu, z_c0, z_c1, z_kAsg, z_kUnp, z_kPar, z_kSto26, z_kSto25, z_kSto24, z_kSto23, z_kSto22, z_sto2, z_kSto3, z_kSto2, z_kSto, z_kAugs3, z_kAugs2, z_kAugs, z_kAug, z_kStf2, z_kStf, z_kExp, z_kRet, z_kIfs, z_kFor, z_kS, z_asg, z_unp, z_par, z_sto, z_augs, z_aug, z_stf, z_exp, z_ret, z_ret0, z_ifs, z_forr, z_whil, z_pas, z_brk, z_con, z_snil, z_scons, z_callU, z_callH, z_callG, z_callX, z_calpU, z_calpH, z_calpG, z_calpX, z_runU, z_run1, z_run2, z_run3, z_run4, z_dat, z_at0, z_at1, z_at2, z_at3, z_at4, z_at5, z_ixT, z_ixL, z_pp, z_add, z_sub, z_mulS, z_mulT, z_mulL, z_lt, z_le, z_gt, z_ge, z_eqI, z_neI, z_eqS, z_isN, z_isnN, z_methH, z_kMeth2, z_kMeth, z_meth, z_recP, z_calmP, z_calmC, z_prpG, z_prpP, z_kProp, z_prop, z_objP, z_kOwn2, z_kOwn, z_kOwnC2, z_kOwnC, z_opc, z_opb, z_own, z_ownP, z_ownC, z_ownT, z_kLenO, z_lenO, z_lenP, z_kIsc, z_isc, z_bindX, z_kRai, z_rai, z_rai0, z_rai1, z_rai2, z_hd, z_hdF, z_hdT, z_nm0, z_rm0, z_rm1, z_ht0, z_ht1, z_ht2, z_ht3, z_try, z_try0, z_tryX, z_kSX, z_clpG, z_clp0, z_calp0, z_kIscT, z_kSpl2, z_kSpl, z_spl, z_kJoi2, z_kJoi, z_joi, z_kMkc, z_mkc, z_mkcG, z_mkcH, z_mkcF, z_kAugf2, z_kAugf, z_augf, z_fns, z_ini, z_gl, z_xf, z_fa, z_pI, z_binC, z_ixC, z_stC, z_lenC, z_lenD, z_max, z_min, z_int, z_lenL, z_lenT, z_ten18, z_ix0, z_ix2, z_line0, z_line1, z_line2, z_line3, z_line4, z_line5, z_line6, z_line7, z_line8, z_q1, z_q2, z_q3, z_q4, z_q5, z_q6, z_q7, z_q8, z_q9, z_q10, z_q11, z_q12, z_q13, z_q14, z_q15, z_sqT, z_sqL, z_sqS, z_as1, z_as2, z_tupL, z_sumT, z_sum, z_w0, z_w1, z_augS, z_augA, z_fnd, z_lenA, z_lenB, z_rcA, z_mtA, z_lcat, z_lset, z_stA, z_ixA, z_ixM, z_i0, z_i1, z_i2, z_i3, z_fdiv2, z_fdiv6, z_fmod6, z_mul6, z_mul2, z_slT, z_slL, z_p1, z_p2, v_x_InvalidCourse, v_x_TooHigh, v_MOST_COURSES, v_MOST_KIND, v_NO_HOLES, v_SIDES, v_WIDTHS, beq_self_eq_true, Option.getD_some, Option.getD_none, List.getElem?_cons_zero, List.getElem?_cons_succ, Option.bind_some, Option.bind_none, id_eq, Option.map_some, Option.map_none, purs, noloc, setN, List.set_cons_zero, List.set_cons_succ, List.map_cons, List.map_nil, List.length_cons, List.length_nil, List.cons_append, List.nil_append, List.append_nil, List.replicate_succ, List.replicate_zero, Nat.reduceSub, Nat.reduceAdd, Nat.reduceEqDiff, Nat.reduceBEq, if_true, if_false, ↓reduceIte, Bool.not_true, Bool.not_false, decide_true, decide_false, isNon, dselP, eq_self, Bool.and_self, Bool.and_true, Bool.true_and, Int.cast_ofNat_Int, isTy, h, h2]
  · simp only [g_is_integer_x, g_is_integer_g, g_is_integer_a, z_bind, z_st, z_pS, z_slot, z_cst, z_glb, z_kTup, z_kLst, z_kLstL, z_kLstC, z_kBin2, z_kBin, z_kNeg, z_kCmp2, z_kCmp, z_kChn2, z_kChn, z_kNot, z_kIte, z_kIdx2, z_kIdx, z_kSlc3, z_kSlc2, z_kSlc, z_kSome, z_kRev, z_kDsel2, z_kDsel, z_kIsi, z_kIsT, z_kBif, z_kListC, z_kLrg, z_lrg, z_kMth2, z_kMth, z_kFld, z_kCall, z_kCalp, z_kMkf, z_kLc, z_tup, z_lst, z_lstL, z_lstC, z_bin, z_neg, z_cmp, z_chn, z_bop, z_not, z_ite, z_idx, z_slc, z_rev, z_dsel, z_isi, z_isT, z_bif, z_listC, z_mth, z_fld, z_call, z_calp, z_mkf, z_frz, z_nil, z_kCons2, z_kCons, z_kStar2, z_kStar, z_kB, z_cons, z_star, z_b1, z_b2, z_o0, z_o1, z_kSeq, z_kEnu, z_kRng1, z_kRng3, z_kRng2, z_kC, z_seq, z_enu, z_c0, z_c1, z_kAsg, z_kUnp, z_kPar, z_kSto26, z_kSto25, z_kSto24, z_kSto23, z_kSto22, z_sto2, z_kSto3, z_kSto2, z_kSto, z_kAugs3, z_kAugs2, z_kAugs, z_kAug, z_kStf2, z_kStf, z_kExp, z_kRet, z_kIfs, z_kFor, z_kS, z_asg, z_unp, z_par, z_sto, z_augs, z_aug, z_stf, z_exp, z_ret, z_ret0, z_ifs, z_forr, z_whil, z_pas, z_brk, z_con, z_snil, z_scons, z_callU, z_callH, z_callG, z_callX, z_calpU, z_calpH, z_calpG, z_calpX, z_runU, z_run1, z_run2, z_run3, z_run4, z_dat, z_at0, z_at1, z_at2, z_at3, z_at4, z_at5, z_ixT, z_ixL, z_pp, z_add, z_sub, z_mulS, z_mulT, z_mulL, z_lt, z_le, z_gt, z_ge, z_eqI, z_neI, z_eqS, z_isN, z_isnN, z_methH, z_kMeth2, z_kMeth, z_meth, z_recP, z_calmP, z_calmC, z_prpG, z_prpP, z_kProp, z_prop, z_objP, z_kOwn2, z_kOwn, z_kOwnC2, z_kOwnC, z_opc, z_opb, z_own, z_ownP, z_ownC, z_ownT, z_kLenO, z_lenO, z_lenP, z_kIsc, z_isc, z_bindX, z_kRai, z_rai, z_rai0, z_rai1, z_rai2, z_hd, z_hdF, z_hdT, z_nm0, z_rm0, z_rm1, z_ht0, z_ht1, z_ht2, z_ht3, z_try, z_try0, z_tryX, z_kSX, z_clpG, z_clp0, z_calp0, z_kIscT, z_kSpl2, z_kSpl, z_spl, z_kJoi2, z_kJoi, z_joi, z_kMkc, z_mkc, z_mkcG, z_mkcH, z_mkcF, z_kAugf2, z_kAugf, z_augf, z_fns, z_ini, z_gl, z_xf, z_fa, z_pI, z_binC, z_ixC, z_stC, z_lenC, z_lenD, z_max, z_min, z_int, z_lenL, z_lenT, z_ten18, z_ix0, z_ix2, z_line0, z_line1, z_line2, z_line3, z_line4, z_line5, z_line6, z_line7, z_line8, z_q1, z_q2, z_q3, z_q4, z_q5, z_q6, z_q7, z_q8, z_q9, z_q10, z_q11, z_q12, z_q13, z_q14, z_q15, z_sqT, z_sqL, z_sqS, z_as1, z_as2, z_tupL, z_sumT, z_sum, z_w0, z_w1, z_augS, z_augA, z_fnd, z_lenA, z_lenB, z_rcA, z_mtA, z_lcat, z_lset, z_stA, z_ixA, z_ixM, z_i0, z_i1, z_i2, z_i3, z_fdiv2, z_fdiv6, z_fmod6, z_mul6, z_mul2, z_slT, z_slL, z_p1, z_p2, v_x_InvalidCourse, v_x_TooHigh, v_MOST_COURSES, v_MOST_KIND, v_NO_HOLES, v_SIDES, v_WIDTHS, beq_self_eq_true, Option.getD_some, Option.getD_none, List.getElem?_cons_zero, List.getElem?_cons_succ, Option.bind_some, Option.bind_none, id_eq, Option.map_some, Option.map_none, purs, noloc, setN, List.set_cons_zero, List.set_cons_succ, List.map_cons, List.map_nil, List.length_cons, List.length_nil, List.cons_append, List.nil_append, List.append_nil, List.replicate_succ, List.replicate_zero, Nat.reduceSub, Nat.reduceAdd, Nat.reduceEqDiff, Nat.reduceBEq, if_true, if_false, ↓reduceIte, Bool.not_true, Bool.not_false, decide_true, decide_false, isNon, dselP, eq_self, Bool.and_self, Bool.and_true, Bool.true_and, Int.cast_ofNat_Int, isTy, h]
    rfl
def isT (r : RF) : Bool := match r with
  | .ok (.pur (.bl true)) [] => true
  | _ => false
theorem isT_of {r : RF} (h : isT r = true) : r = .ok (.pur (.bl true)) [] := by
  unfold isT at h
  split at h
  · rfl
  · cases h
theorem holes_all : (hs.all fun h => isT (F_are_holes [.pur (.tup [.int h.1, .int h.2.1, .int h.2.2])] [])) = true := by kernel_rfl
theorem marks_all : (ms.all fun h => isT (F_are_marks [.pur (.tup [.int h.1, .int h.2])] [])) = true := by kernel_rfl
theorem holes_ok {h0 h1 h2 : Int} (h : (h0, h1, h2) ∈ hs) : F_are_holes [.pur (.tup [.int h0, .int h1, .int h2])] [] = .ok (.pur (.bl true)) [] := by
  have q := List.all_eq_true.mp holes_all (h0, h1, h2) h
  dsimp only at q
  exact isT_of q
theorem marks_ok {h0 h1 : Int} (h : (h0, h1) ∈ ms) : F_are_marks [.pur (.tup [.int h0, .int h1])] [] = .ok (.pur (.bl true)) [] := by
  have q := List.all_eq_true.mp marks_all (h0, h1) h
  dsimp only at q
  exact isT_of q
theorem one_lid : F_is_one_of [.pur (.str "lid"), .pur (.tup [.str "lid"])] [] = .ok (.pur (.bl true)) [] := by kernel_rfl
theorem one_wl : F_is_one_of [.pur (.str "wall"), .pur (.tup [.str "lid"])] [] = .ok (.pur (.bl false)) [] := by kernel_rfl
theorem one_ww : F_is_one_of [.pur (.str "wall"), .pur (.tup [.str "wall"])] [] = .ok (.pur (.bl true)) [] := by kernel_rfl
theorem one_w (w : W3) : F_is_one_of [.pur (.str (wS w)), .pur (.tup [.str "full", .str "less", .str "more"])] [] = .ok (.pur (.bl true)) [] := by cases w <;> kernel_rfl
theorem one_s (l : Bool) : F_is_one_of [.pur (.str (sS l)), .pur (.tup [.str "left", .str "right"])] [] = .ok (.pur (.bl true)) [] := by cases l <;> kernel_rfl
theorem course_is (c : Crs) (ok : okC c) : F_is_course [.pur (enc c)] [] = .ok (.pur (.bl true)) [] := by
  have he : ∀ (p : P) (ps : List P), cmpD .Eq (.pur (.tup (p :: ps))) (.pur (.tup [])) = some false ∨ cmpD .Eq (.pur (.tup (p :: ps))) (.pur (.tup [])) = none := fun p ps => by
    show (if eqOK _ && eqOK _ then some (eqP _ _) else none) = _ ∨ (if eqOK _ && eqOK _ then some (eqP _ _) else none) = _
    split
    · exact .inl rfl
    · exact .inr rfl
  cases c with
  | lid k =>
    have h1 : (0 : Int) ≤ k := ok.1
    have h2 : k ≤ 2 := ok.2
    have e : cmpD .Eq (.pur (.tup [.str "lid", .int k])) (.pur (.tup [])) = some false := by kernel_rfl
    unfold F_is_course d_is_course b_is_course enc
    simp only [g_is_course_x, g_is_course_are_marks, g_is_course_are_holes, g_is_course_is_one_of, g_is_course_is_integer, g_is_course_g, g_is_course_a, z_bind, z_st, z_pS, z_slot, z_cst, z_glb, z_kTup, z_kLst, z_kLstL, z_kLstC, z_kBin2, z_kBin, z_kNeg, z_kCmp2, z_kCmp, z_kChn2, z_kChn, z_kNot, z_kIte, z_kIdx2, z_kIdx, z_kSlc3, z_kSlc2, z_kSlc, z_kSome, z_kRev, z_kDsel2, z_kDsel, z_kIsi, z_kIsT, z_kBif, z_kListC, z_kLrg, z_lrg, z_kMth2, z_kMth, z_kFld, z_kCall, z_kCalp, z_kMkf, z_kLc, z_tup, z_lst, z_lstL, z_lstC, z_bin, z_neg, z_cmp, z_chn, z_bop, z_not, z_ite, z_idx, z_slc, z_rev, z_dsel, z_isi, z_isT, z_bif, z_listC, z_mth, z_fld, z_call, z_calp, z_mkf, z_frz, z_nil, z_kCons2, z_kCons, z_kStar2, z_kStar, z_kB, z_cons, z_star, z_b1, z_b2, z_o0, z_o1, z_kSeq, z_kEnu, z_kRng1, z_kRng3, z_kRng2, z_kC, z_seq, z_enu, z_c0, z_c1, z_kAsg, z_kUnp, z_kPar, z_kSto26, z_kSto25, z_kSto24, z_kSto23, z_kSto22, z_sto2, z_kSto3, z_kSto2, z_kSto, z_kAugs3, z_kAugs2, z_kAugs, z_kAug, z_kStf2, z_kStf, z_kExp, z_kRet, z_kIfs, z_kFor, z_kS, z_asg, z_unp, z_par, z_sto, z_augs, z_aug, z_stf, z_exp, z_ret, z_ret0, z_ifs, z_forr, z_whil, z_pas, z_brk, z_con, z_snil, z_scons, z_callU, z_callH, z_callG, z_callX, z_calpU, z_calpH, z_calpG, z_calpX, z_runU, z_run1, z_run2, z_run3, z_run4, z_dat, z_at0, z_at1, z_at2, z_at3, z_at4, z_at5, z_ixT, z_ixL, z_pp, z_add, z_sub, z_mulS, z_mulT, z_mulL, z_lt, z_le, z_gt, z_ge, z_eqI, z_neI, z_eqS, z_isN, z_isnN, z_methH, z_kMeth2, z_kMeth, z_meth, z_recP, z_calmP, z_calmC, z_prpG, z_prpP, z_kProp, z_prop, z_objP, z_kOwn2, z_kOwn, z_kOwnC2, z_kOwnC, z_opc, z_opb, z_own, z_ownP, z_ownC, z_ownT, z_kLenO, z_lenO, z_lenP, z_kIsc, z_isc, z_bindX, z_kRai, z_rai, z_rai0, z_rai1, z_rai2, z_hd, z_hdF, z_hdT, z_nm0, z_rm0, z_rm1, z_ht0, z_ht1, z_ht2, z_ht3, z_try, z_try0, z_tryX, z_kSX, z_clpG, z_clp0, z_calp0, z_kIscT, z_kSpl2, z_kSpl, z_spl, z_kJoi2, z_kJoi, z_joi, z_kMkc, z_mkc, z_mkcG, z_mkcH, z_mkcF, z_kAugf2, z_kAugf, z_augf, z_fns, z_ini, z_gl, z_xf, z_fa, z_pI, z_binC, z_ixC, z_stC, z_lenC, z_lenD, z_max, z_min, z_int, z_lenL, z_lenT, z_ten18, z_ix0, z_ix2, z_line0, z_line1, z_line2, z_line3, z_line4, z_line5, z_line6, z_line7, z_line8, z_q1, z_q2, z_q3, z_q4, z_q5, z_q6, z_q7, z_q8, z_q9, z_q10, z_q11, z_q12, z_q13, z_q14, z_q15, z_sqT, z_sqL, z_sqS, z_as1, z_as2, z_tupL, z_sumT, z_sum, z_w0, z_w1, z_augS, z_augA, z_fnd, z_lenA, z_lenB, z_rcA, z_mtA, z_lcat, z_lset, z_stA, z_ixA, z_ixM, z_i0, z_i1, z_i2, z_i3, z_fdiv2, z_fdiv6, z_fmod6, z_mul6, z_mul2, z_slT, z_slL, z_p1, z_p2, v_x_InvalidCourse, v_x_TooHigh, v_MOST_COURSES, v_MOST_KIND, v_NO_HOLES, v_SIDES, v_WIDTHS, beq_self_eq_true, Option.getD_some, Option.getD_none, List.getElem?_cons_zero, List.getElem?_cons_succ, Option.bind_some, Option.bind_none, id_eq, Option.map_some, Option.map_none, purs, noloc, setN, List.set_cons_zero, List.set_cons_succ, List.map_cons, List.map_nil, List.length_cons, List.length_nil, List.cons_append, List.nil_append, List.append_nil, List.replicate_succ, List.replicate_zero, Nat.reduceSub, Nat.reduceAdd, Nat.reduceEqDiff, Nat.reduceBEq, if_true, if_false, ↓reduceIte, Bool.not_true, Bool.not_false, decide_true, decide_false, isNon, dselP, eq_self, Bool.and_self, Bool.and_true, Bool.true_and, Int.cast_ofNat_Int, isTy, e, one_lid, isint_ok, h1, h2]
  | wall w l b h0 h1 h2 m0 m1 =>
    have e : cmpD .Eq (.pur (.tup [.str "wall", .str (wS w), .str (sS l), .bl b, .tup [.int h0, .int h1, .int h2], .tup [.int m0, .int m1]])) (.pur (.tup [])) = some false := by cases w <;> cases l <;> kernel_rfl
    unfold F_is_course d_is_course b_is_course enc
    simp only [g_is_course_x, g_is_course_are_marks, g_is_course_are_holes, g_is_course_is_one_of, g_is_course_is_integer, g_is_course_g, g_is_course_a, z_bind, z_st, z_pS, z_slot, z_cst, z_glb, z_kTup, z_kLst, z_kLstL, z_kLstC, z_kBin2, z_kBin, z_kNeg, z_kCmp2, z_kCmp, z_kChn2, z_kChn, z_kNot, z_kIte, z_kIdx2, z_kIdx, z_kSlc3, z_kSlc2, z_kSlc, z_kSome, z_kRev, z_kDsel2, z_kDsel, z_kIsi, z_kIsT, z_kBif, z_kListC, z_kLrg, z_lrg, z_kMth2, z_kMth, z_kFld, z_kCall, z_kCalp, z_kMkf, z_kLc, z_tup, z_lst, z_lstL, z_lstC, z_bin, z_neg, z_cmp, z_chn, z_bop, z_not, z_ite, z_idx, z_slc, z_rev, z_dsel, z_isi, z_isT, z_bif, z_listC, z_mth, z_fld, z_call, z_calp, z_mkf, z_frz, z_nil, z_kCons2, z_kCons, z_kStar2, z_kStar, z_kB, z_cons, z_star, z_b1, z_b2, z_o0, z_o1, z_kSeq, z_kEnu, z_kRng1, z_kRng3, z_kRng2, z_kC, z_seq, z_enu, z_c0, z_c1, z_kAsg, z_kUnp, z_kPar, z_kSto26, z_kSto25, z_kSto24, z_kSto23, z_kSto22, z_sto2, z_kSto3, z_kSto2, z_kSto, z_kAugs3, z_kAugs2, z_kAugs, z_kAug, z_kStf2, z_kStf, z_kExp, z_kRet, z_kIfs, z_kFor, z_kS, z_asg, z_unp, z_par, z_sto, z_augs, z_aug, z_stf, z_exp, z_ret, z_ret0, z_ifs, z_forr, z_whil, z_pas, z_brk, z_con, z_snil, z_scons, z_callU, z_callH, z_callG, z_callX, z_calpU, z_calpH, z_calpG, z_calpX, z_runU, z_run1, z_run2, z_run3, z_run4, z_dat, z_at0, z_at1, z_at2, z_at3, z_at4, z_at5, z_ixT, z_ixL, z_pp, z_add, z_sub, z_mulS, z_mulT, z_mulL, z_lt, z_le, z_gt, z_ge, z_eqI, z_neI, z_eqS, z_isN, z_isnN, z_methH, z_kMeth2, z_kMeth, z_meth, z_recP, z_calmP, z_calmC, z_prpG, z_prpP, z_kProp, z_prop, z_objP, z_kOwn2, z_kOwn, z_kOwnC2, z_kOwnC, z_opc, z_opb, z_own, z_ownP, z_ownC, z_ownT, z_kLenO, z_lenO, z_lenP, z_kIsc, z_isc, z_bindX, z_kRai, z_rai, z_rai0, z_rai1, z_rai2, z_hd, z_hdF, z_hdT, z_nm0, z_rm0, z_rm1, z_ht0, z_ht1, z_ht2, z_ht3, z_try, z_try0, z_tryX, z_kSX, z_clpG, z_clp0, z_calp0, z_kIscT, z_kSpl2, z_kSpl, z_spl, z_kJoi2, z_kJoi, z_joi, z_kMkc, z_mkc, z_mkcG, z_mkcH, z_mkcF, z_kAugf2, z_kAugf, z_augf, z_fns, z_ini, z_gl, z_xf, z_fa, z_pI, z_binC, z_ixC, z_stC, z_lenC, z_lenD, z_max, z_min, z_int, z_lenL, z_lenT, z_ten18, z_ix0, z_ix2, z_line0, z_line1, z_line2, z_line3, z_line4, z_line5, z_line6, z_line7, z_line8, z_q1, z_q2, z_q3, z_q4, z_q5, z_q6, z_q7, z_q8, z_q9, z_q10, z_q11, z_q12, z_q13, z_q14, z_q15, z_sqT, z_sqL, z_sqS, z_as1, z_as2, z_tupL, z_sumT, z_sum, z_w0, z_w1, z_augS, z_augA, z_fnd, z_lenA, z_lenB, z_rcA, z_mtA, z_lcat, z_lset, z_stA, z_ixA, z_ixM, z_i0, z_i1, z_i2, z_i3, z_fdiv2, z_fdiv6, z_fmod6, z_mul6, z_mul2, z_slT, z_slL, z_p1, z_p2, v_x_InvalidCourse, v_x_TooHigh, v_MOST_COURSES, v_MOST_KIND, v_NO_HOLES, v_SIDES, v_WIDTHS, beq_self_eq_true, Option.getD_some, Option.getD_none, List.getElem?_cons_zero, List.getElem?_cons_succ, Option.bind_some, Option.bind_none, id_eq, Option.map_some, Option.map_none, purs, noloc, setN, List.set_cons_zero, List.set_cons_succ, List.map_cons, List.map_nil, List.length_cons, List.length_nil, List.cons_append, List.nil_append, List.append_nil, List.replicate_succ, List.replicate_zero, Nat.reduceSub, Nat.reduceAdd, Nat.reduceEqDiff, Nat.reduceBEq, if_true, if_false, ↓reduceIte, Bool.not_true, Bool.not_false, decide_true, decide_false, isNon, dselP, eq_self, Bool.and_self, Bool.and_true, Bool.true_and, Int.cast_ofNat_Int, isTy, e, one_wl, one_ww, one_w, one_s, holes_ok ok.1, marks_ok ok.2]
def hp (cs : List Crs) : D := .pur (.obj 0 ["layers"] [.tup (cs.map enc)])
theorem zu_hm : ([("layers" : Str)] : List Str).contains ("mirrored" : Str) = false := by decide +kernel
theorem zu_hp1 {cs : List Crs} {r : List D} : purs (hp cs :: r) = (purs r).map (.obj 0 ["layers"] [.tup (cs.map enc)] :: ·) := (rfl)
theorem zu_hp2 {cs : List Crs} {r : List D} : noloc (hp cs :: r) = noloc r := (rfl)
theorem init_loop {d0 d1 : D} : ∀ (cs : List Crs) (k : Int) (a b : Option D) (m : List Cell), (∀ c ∈ cs, okC c) → ∃ a' b', forF (.tp [2, 3]) (exSs G_Heap_init b_Heap_init_l1) (enuP k (cs.map enc)) { r := [some d0, some d1, a, b], m := m, l := [] } = .ok .nx { r := [some d0, some d1, a', b'], m := m, l := [] }
  | [], k, a, b, m, _ => ⟨a, b, rfl⟩
  | c :: cs, k, a, b, m, h => by
    obtain ⟨a', b', e⟩ := init_loop cs (k + 1) (some (.pur (.int k))) (some (.pur (enc c))) m fun d hd => h d (List.mem_cons_of_mem _ hd)
    refine ⟨a', b', ?_⟩
    rw [List.map_cons, enuP, z_for1]
    conv => lhs; unfold b_Heap_init_l1
    simp only [g_Heap_init_x, g_Heap_init_is_course, g_Heap_init_g, g_Heap_init_a, z_bind, z_st, z_pS, z_slot, z_cst, z_glb, z_kTup, z_kLst, z_kLstL, z_kLstC, z_kBin2, z_kBin, z_kNeg, z_kCmp2, z_kCmp, z_kChn2, z_kChn, z_kNot, z_kIte, z_kIdx2, z_kIdx, z_kSlc3, z_kSlc2, z_kSlc, z_kSome, z_kRev, z_kDsel2, z_kDsel, z_kIsi, z_kIsT, z_kBif, z_kListC, z_kLrg, z_lrg, z_kMth2, z_kMth, z_kFld, z_kCall, z_kCalp, z_kMkf, z_kLc, z_tup, z_lst, z_lstL, z_lstC, z_bin, z_neg, z_cmp, z_chn, z_bop, z_not, z_ite, z_idx, z_slc, z_rev, z_dsel, z_isi, z_isT, z_bif, z_listC, z_mth, z_fld, z_call, z_calp, z_mkf, z_frz, z_nil, z_kCons2, z_kCons, z_kStar2, z_kStar, z_kB, z_cons, z_star, z_b1, z_b2, z_o0, z_o1, z_kSeq, z_kEnu, z_kRng1, z_kRng3, z_kRng2, z_kC, z_seq, z_enu, z_c0, z_c1, z_kAsg, z_kUnp, z_kPar, z_kSto26, z_kSto25, z_kSto24, z_kSto23, z_kSto22, z_sto2, z_kSto3, z_kSto2, z_kSto, z_kAugs3, z_kAugs2, z_kAugs, z_kAug, z_kStf2, z_kStf, z_kExp, z_kRet, z_kIfs, z_kFor, z_kS, z_asg, z_unp, z_par, z_sto, z_augs, z_aug, z_stf, z_exp, z_ret, z_ret0, z_ifs, z_forr, z_whil, z_pas, z_brk, z_con, z_snil, z_scons, z_callU, z_callH, z_callG, z_callX, z_calpU, z_calpH, z_calpG, z_calpX, z_runU, z_run1, z_run2, z_run3, z_run4, z_dat, z_at0, z_at1, z_at2, z_at3, z_at4, z_at5, z_ixT, z_ixL, z_pp, z_add, z_sub, z_mulS, z_mulT, z_mulL, z_lt, z_le, z_gt, z_ge, z_eqI, z_neI, z_eqS, z_isN, z_isnN, z_methH, z_kMeth2, z_kMeth, z_meth, z_recP, z_calmP, z_calmC, z_prpG, z_prpP, z_kProp, z_prop, z_objP, z_kOwn2, z_kOwn, z_kOwnC2, z_kOwnC, z_opc, z_opb, z_own, z_ownP, z_ownC, z_ownT, z_kLenO, z_lenO, z_lenP, z_kIsc, z_isc, z_bindX, z_kRai, z_rai, z_rai0, z_rai1, z_rai2, z_hd, z_hdF, z_hdT, z_nm0, z_rm0, z_rm1, z_ht0, z_ht1, z_ht2, z_ht3, z_try, z_try0, z_tryX, z_kSX, z_clpG, z_clp0, z_calp0, z_kIscT, z_kSpl2, z_kSpl, z_spl, z_kJoi2, z_kJoi, z_joi, z_kMkc, z_mkc, z_mkcG, z_mkcH, z_mkcF, z_kAugf2, z_kAugf, z_augf, z_fns, z_ini, z_gl, z_xf, z_fa, z_pI, z_binC, z_ixC, z_stC, z_lenC, z_lenD, z_max, z_min, z_int, z_lenL, z_lenT, z_ten18, z_ix0, z_ix2, z_line0, z_line1, z_line2, z_line3, z_line4, z_line5, z_line6, z_line7, z_line8, z_q1, z_q2, z_q3, z_q4, z_q5, z_q6, z_q7, z_q8, z_q9, z_q10, z_q11, z_q12, z_q13, z_q14, z_q15, z_sqT, z_sqL, z_sqS, z_as1, z_as2, z_tupL, z_sumT, z_sum, z_w0, z_w1, z_augS, z_augA, z_fnd, z_lenA, z_lenB, z_rcA, z_mtA, z_lcat, z_lset, z_stA, z_ixA, z_ixM, z_i0, z_i1, z_i2, z_i3, z_fdiv2, z_fdiv6, z_fmod6, z_mul6, z_mul2, z_slT, z_slL, z_p1, z_p2, v_x_InvalidCourse, v_x_TooHigh, v_MOST_COURSES, v_MOST_KIND, v_NO_HOLES, v_SIDES, v_WIDTHS, beq_self_eq_true, Option.getD_some, Option.getD_none, List.getElem?_cons_zero, List.getElem?_cons_succ, Option.bind_some, Option.bind_none, id_eq, Option.map_some, Option.map_none, purs, noloc, setN, List.set_cons_zero, List.set_cons_succ, List.map_cons, List.map_nil, List.length_cons, List.length_nil, List.cons_append, List.nil_append, List.append_nil, List.replicate_succ, List.replicate_zero, Nat.reduceSub, Nat.reduceAdd, Nat.reduceEqDiff, Nat.reduceBEq, if_true, if_false, ↓reduceIte, Bool.not_true, Bool.not_false, decide_true, decide_false, isNon, dselP, eq_self, Bool.and_self, Bool.and_true, Bool.true_and, Int.cast_ofNat_Int, course_is c (h c List.mem_cons_self)]
    exact e
theorem fld_ok (cs : List Crs) (s : S) : fldD fa s (hp cs) "layers" = some (.pur (.tup (cs.map enc))) := by kernel_rfl
theorem init_ok {cs : List Crs} (ok : ∀ c ∈ cs, okC c) (h1 : 1 ≤ cs.length) (h3 : cs.length ≤ 3) : F_Heap_init [.cel 0, .pur (.tup (cs.map enc))] [.ins 0 []] = .ok (.pur .non) [.ins 0 [("layers", .pur (.tup (cs.map enc)))]] := by
  obtain ⟨a', b', e⟩ := init_loop (d0 := .cel 0) (d1 := .pur (.tup (cs.map enc))) cs 0 none none [.ins 0 []] ok
  have g1 : (1 : Int) ≤ (cs.length : Int) := by omega
  have g3 : (cs.length : Int) ≤ 3 := by omega
  have hfa : fa 0 "layers" = true := by kernel_rfl
  unfold F_Heap_init d_Heap_init b_Heap_init
  simp only [g_Heap_init_x, g_Heap_init_is_course, g_Heap_init_g, g_Heap_init_a, z_bind, z_st, z_pS, z_slot, z_cst, z_glb, z_kTup, z_kLst, z_kLstL, z_kLstC, z_kBin2, z_kBin, z_kNeg, z_kCmp2, z_kCmp, z_kChn2, z_kChn, z_kNot, z_kIte, z_kIdx2, z_kIdx, z_kSlc3, z_kSlc2, z_kSlc, z_kSome, z_kRev, z_kDsel2, z_kDsel, z_kIsi, z_kIsT, z_kBif, z_kListC, z_kLrg, z_lrg, z_kMth2, z_kMth, z_kFld, z_kCall, z_kCalp, z_kMkf, z_kLc, z_tup, z_lst, z_lstL, z_lstC, z_bin, z_neg, z_cmp, z_chn, z_bop, z_not, z_ite, z_idx, z_slc, z_rev, z_dsel, z_isi, z_isT, z_bif, z_listC, z_mth, z_fld, z_call, z_calp, z_mkf, z_frz, z_nil, z_kCons2, z_kCons, z_kStar2, z_kStar, z_kB, z_cons, z_star, z_b1, z_b2, z_o0, z_o1, z_kSeq, z_kEnu, z_kRng1, z_kRng3, z_kRng2, z_kC, z_seq, z_enu, z_c0, z_c1, z_kAsg, z_kUnp, z_kPar, z_kSto26, z_kSto25, z_kSto24, z_kSto23, z_kSto22, z_sto2, z_kSto3, z_kSto2, z_kSto, z_kAugs3, z_kAugs2, z_kAugs, z_kAug, z_kStf2, z_kStf, z_kExp, z_kRet, z_kIfs, z_kFor, z_kS, z_asg, z_unp, z_par, z_sto, z_augs, z_aug, z_stf, z_exp, z_ret, z_ret0, z_ifs, z_forr, z_whil, z_pas, z_brk, z_con, z_snil, z_scons, z_callU, z_callH, z_callG, z_callX, z_calpU, z_calpH, z_calpG, z_calpX, z_runU, z_run1, z_run2, z_run3, z_run4, z_dat, z_at0, z_at1, z_at2, z_at3, z_at4, z_at5, z_ixT, z_ixL, z_pp, z_add, z_sub, z_mulS, z_mulT, z_mulL, z_lt, z_le, z_gt, z_ge, z_eqI, z_neI, z_eqS, z_isN, z_isnN, z_methH, z_kMeth2, z_kMeth, z_meth, z_recP, z_calmP, z_calmC, z_prpG, z_prpP, z_kProp, z_prop, z_objP, z_kOwn2, z_kOwn, z_kOwnC2, z_kOwnC, z_opc, z_opb, z_own, z_ownP, z_ownC, z_ownT, z_kLenO, z_lenO, z_lenP, z_kIsc, z_isc, z_bindX, z_kRai, z_rai, z_rai0, z_rai1, z_rai2, z_hd, z_hdF, z_hdT, z_nm0, z_rm0, z_rm1, z_ht0, z_ht1, z_ht2, z_ht3, z_try, z_try0, z_tryX, z_kSX, z_clpG, z_clp0, z_calp0, z_kIscT, z_kSpl2, z_kSpl, z_spl, z_kJoi2, z_kJoi, z_joi, z_kMkc, z_mkc, z_mkcG, z_mkcH, z_mkcF, z_kAugf2, z_kAugf, z_augf, z_fns, z_ini, z_gl, z_xf, z_fa, z_pI, z_binC, z_ixC, z_stC, z_lenC, z_lenD, z_max, z_min, z_int, z_lenL, z_lenT, z_ten18, z_ix0, z_ix2, z_line0, z_line1, z_line2, z_line3, z_line4, z_line5, z_line6, z_line7, z_line8, z_q1, z_q2, z_q3, z_q4, z_q5, z_q6, z_q7, z_q8, z_q9, z_q10, z_q11, z_q12, z_q13, z_q14, z_q15, z_sqT, z_sqL, z_sqS, z_as1, z_as2, z_tupL, z_sumT, z_sum, z_w0, z_w1, z_augS, z_augA, z_fnd, z_lenA, z_lenB, z_rcA, z_mtA, z_lcat, z_lset, z_stA, z_ixA, z_ixM, z_i0, z_i1, z_i2, z_i3, z_fdiv2, z_fdiv6, z_fmod6, z_mul6, z_mul2, z_slT, z_slL, z_p1, z_p2, v_x_InvalidCourse, v_x_TooHigh, v_MOST_COURSES, v_MOST_KIND, v_NO_HOLES, v_SIDES, v_WIDTHS, beq_self_eq_true, Option.getD_some, Option.getD_none, List.getElem?_cons_zero, List.getElem?_cons_succ, Option.bind_some, Option.bind_none, id_eq, Option.map_some, Option.map_none, purs, noloc, setN, List.set_cons_zero, List.set_cons_succ, List.map_cons, List.map_nil, List.length_cons, List.length_nil, List.cons_append, List.nil_append, List.append_nil, List.replicate_succ, List.replicate_zero, Nat.reduceSub, Nat.reduceAdd, Nat.reduceEqDiff, Nat.reduceBEq, if_true, if_false, ↓reduceIte, Bool.not_true, Bool.not_false, decide_true, decide_false, isNon, dselP, eq_self, Bool.and_self, Bool.and_true, Bool.true_and, Int.cast_ofNat_Int, isTy, List.length_map, g1, g3, e, hfa, putFs]
  rfl
theorem make_ok {cs : List Crs} (ok : ∀ c ∈ cs, okC c) (h1 : 1 ≤ cs.length) (h3 : cs.length ≤ 3) (s : S) : mkfF 0 F_Heap_init [.pur (.tup (cs.map enc))] s = .ok (hp cs) s := by
  unfold mkfF
  show (match F_Heap_init [.cel 0, .pur (.tup (cs.map enc))] [.ins 0 []] with
    | .ok (.pur .non) [.ins c' fs] => if c' == 0 then (match pfs fs with
      | some (ns, ps) => R.ok (D.pur (.obj 0 ns ps)) s
      | none => R.st) else R.st
    | .ex x _ => .ex x s
    | _ => R.st) = _
  rw [init_ok ok h1 h3]
  rfl
end HL
end

section
set_option Elab.async false
set_option linter.all false
set_option maxRecDepth 100000
set_option maxHeartbeats 1000000
/-! U7: alike -/
namespace HL
open PySem Ev
/-- data that _law_alike tells equal to itself, of a depth -/
def alk : Nat → P → Prop
  | _, .non => True
  | _, .bl _ => True
  | _, .int _ => True
  | _, .str _ => True
  | j + 1, .tup ps => ps.length ≤ 1000000 ∧ ∀ p ∈ ps, alk j p
  | j + 1, .lst ps => ps.length ≤ 1000000 ∧ ∀ p ∈ ps, alk j p
  | _, _ => False
theorem eq_str (x : Str) : cmpD .Eq (.pur (.str x)) (.pur (.str x)) = some true := by
  show some (x == x) = some true
  rw [beq_self_eq_true]
theorem eq_bl (x y : Bool) : cmpD .Eq (.pur (.bl x)) (.pur (.bl y)) = some (x == y) := rfl
theorem ne_bl (x y : Bool) : cmpD .NotEq (.pur (.bl x)) (.pur (.bl y)) = some (!(x == y)) := rfl
theorem eq_non : cmpD .Eq (.pur .non) (.pur .non) = some true := rfl
theorem eq_nil : cmpD .Eq (.pur (.lst [])) (.pur (.lst [])) = some true := by kernel_rfl
theorem alike_items {F : Fn} {p : D} {ps : List P} (hp : ∀ s i, idxD s p (.pur (.int i)) = (atP ps i).map D.pur) (hl : ∀ s, bifD s .len [p] = some (.int (ps.length : Int))) (hn : ps.length ≤ 1000000) (ih : ∀ x ∈ ps, F [.pur x, .pur x] [] = .ok (.pur (.bl true)) []) :
    evE (G__law_alike F) k__law_alike_1 { r := [some p, some p, none], m := [], l := [] } = .ok (.pur (.lst [])) { r := [some p, some p, none], m := [], l := [] } := by
  unfold k__law_alike_1
  have e := lc_fil (Γ := G__law_alike F) (e := .slot 2) (t := .nm 2) (own := [2]) (it := .rng1 (.bif .len (.cons (.slot 1) .nil))) (c := .not (.calp 6 (.cons (.idx (.slot 0) (.slot 2)) (.cons (.idx (.slot 1) (.slot 2)) .nil)))) (s := { r := [some p, some p, none], m := [], l := [] }) (s0 := { r := [some p, some p, none], m := [], l := [] }) (fun (i : Nat) => P.int (i : Int)) (fun (i : Nat) => P.int (i : Int)) (fun _ => false) (List.range ps.length)
    (it_rng1 (by simp only [z_bind, z_st, z_pS, z_slot, z_cst, z_glb, z_kTup, z_kLst, z_kLstL, z_kLstC, z_kBin2, z_kBin, z_kNeg, z_kCmp2, z_kCmp, z_kChn2, z_kChn, z_kNot, z_kIte, z_kIdx2, z_kIdx, z_kSlc3, z_kSlc2, z_kSlc, z_kSome, z_kRev, z_kDsel2, z_kDsel, z_kIsi, z_kIsT, z_kBif, z_kListC, z_kLrg, z_lrg, z_kMth2, z_kMth, z_kFld, z_kCall, z_kCalp, z_kMkf, z_kLc, z_tup, z_lst, z_lstL, z_lstC, z_bin, z_neg, z_cmp, z_chn, z_bop, z_not, z_ite, z_idx, z_slc, z_rev, z_dsel, z_isi, z_isT, z_bif, z_listC, z_mth, z_fld, z_call, z_calp, z_mkf, z_frz, z_nil, z_kCons2, z_kCons, z_kStar2, z_kStar, z_kB, z_cons, z_star, z_b1, z_b2, z_o0, z_o1, z_kSeq, z_kEnu, z_kRng1, z_kRng3, z_kRng2, z_kC, z_seq, z_enu, z_c0, z_c1, z_kAsg, z_kUnp, z_kPar, z_kSto26, z_kSto25, z_kSto24, z_kSto23, z_kSto22, z_sto2, z_kSto3, z_kSto2, z_kSto, z_kAugs3, z_kAugs2, z_kAugs, z_kAug, z_kStf2, z_kStf, z_kExp, z_kRet, z_kIfs, z_kFor, z_kS, z_asg, z_unp, z_par, z_sto, z_augs, z_aug, z_stf, z_exp, z_ret, z_ret0, z_ifs, z_forr, z_whil, z_pas, z_brk, z_con, z_snil, z_scons, z_callU, z_callH, z_callG, z_callX, z_calpU, z_calpH, z_calpG, z_calpX, z_runU, z_run1, z_run2, z_run3, z_run4, z_dat, z_at0, z_at1, z_at2, z_at3, z_at4, z_at5, z_ixT, z_ixL, z_pp, z_add, z_sub, z_mulS, z_mulT, z_mulL, z_lt, z_le, z_gt, z_ge, z_eqI, z_neI, z_eqS, z_isN, z_isnN, z_methH, z_kMeth2, z_kMeth, z_meth, z_recP, z_calmP, z_calmC, z_prpG, z_prpP, z_kProp, z_prop, z_objP, z_kOwn2, z_kOwn, z_kOwnC2, z_kOwnC, z_opc, z_opb, z_own, z_ownP, z_ownC, z_ownT, z_kLenO, z_lenO, z_lenP, z_kIsc, z_isc, z_bindX, z_kRai, z_rai, z_rai0, z_rai1, z_rai2, z_hd, z_hdF, z_hdT, z_nm0, z_rm0, z_rm1, z_ht0, z_ht1, z_ht2, z_ht3, z_try, z_try0, z_tryX, z_kSX, z_clpG, z_clp0, z_calp0, z_kIscT, z_kSpl2, z_kSpl, z_spl, z_kJoi2, z_kJoi, z_joi, z_kMkc, z_mkc, z_mkcG, z_mkcH, z_mkcF, z_kAugf2, z_kAugf, z_augf, z_fns, z_ini, z_gl, z_xf, z_fa, z_pI, z_binC, z_ixC, z_stC, z_lenC, z_lenD, z_max, z_min, z_int, z_lenL, z_lenT, z_ten18, z_ix0, z_ix2, z_line0, z_line1, z_line2, z_line3, z_line4, z_line5, z_line6, z_line7, z_line8, z_q1, z_q2, z_q3, z_q4, z_q5, z_q6, z_q7, z_q8, z_q9, z_q10, z_q11, z_q12, z_q13, z_q14, z_q15, z_sqT, z_sqL, z_sqS, z_as1, z_as2, z_tupL, z_sumT, z_sum, z_w0, z_w1, z_augS, z_augA, z_fnd, z_lenA, z_lenB, z_rcA, z_mtA, z_lcat, z_lset, z_stA, z_ixA, z_ixM, z_i0, z_i1, z_i2, z_i3, z_fdiv2, z_fdiv6, z_fmod6, z_mul6, z_mul2, z_slT, z_slL, z_p1, z_p2, v_x_InvalidCourse, v_x_TooHigh, v_MOST_COURSES, v_MOST_KIND, v_NO_HOLES, v_SIDES, v_WIDTHS, beq_self_eq_true, Option.getD_some, Option.getD_none, List.getElem?_cons_zero, List.getElem?_cons_succ, Option.bind_some, Option.bind_none, id_eq, Option.map_some, Option.map_none, purs, noloc, setN, List.set_cons_zero, List.set_cons_succ, List.map_cons, List.map_nil, List.length_cons, List.length_nil, List.cons_append, List.nil_append, List.append_nil, List.replicate_succ, List.replicate_zero, Nat.reduceSub, Nat.reduceAdd, Nat.reduceEqDiff, Nat.reduceBEq, if_true, if_false, ↓reduceIte, Bool.not_true, Bool.not_false, decide_true, decide_false, isNon, dselP, eq_self, Bool.and_self, Bool.and_true, Bool.true_and, Int.cast_ofNat_Int, hl]) (by omega)) (by rw [List.length_range]; unfold line; omega) fun i hi => by
      have hi := List.mem_range.mp hi
      have ha : atP ps (i : Int) = some ps[i] := z_atP (by simp [hi])
      refine ⟨_, { r := [some p, some p, some (.pur (.int (i : Int)))], m := [], l := [] }, { r := [], m := [], l := [] }, rfl, ?_, rfl, rfl, fun z => nomatch z⟩
      simp only [g__law_alike__law_alike, g__law_alike_g, g__law_alike_a, z_bind, z_st, z_pS, z_slot, z_cst, z_glb, z_kTup, z_kLst, z_kLstL, z_kLstC, z_kBin2, z_kBin, z_kNeg, z_kCmp2, z_kCmp, z_kChn2, z_kChn, z_kNot, z_kIte, z_kIdx2, z_kIdx, z_kSlc3, z_kSlc2, z_kSlc, z_kSome, z_kRev, z_kDsel2, z_kDsel, z_kIsi, z_kIsT, z_kBif, z_kListC, z_kLrg, z_lrg, z_kMth2, z_kMth, z_kFld, z_kCall, z_kCalp, z_kMkf, z_kLc, z_tup, z_lst, z_lstL, z_lstC, z_bin, z_neg, z_cmp, z_chn, z_bop, z_not, z_ite, z_idx, z_slc, z_rev, z_dsel, z_isi, z_isT, z_bif, z_listC, z_mth, z_fld, z_call, z_calp, z_mkf, z_frz, z_nil, z_kCons2, z_kCons, z_kStar2, z_kStar, z_kB, z_cons, z_star, z_b1, z_b2, z_o0, z_o1, z_kSeq, z_kEnu, z_kRng1, z_kRng3, z_kRng2, z_kC, z_seq, z_enu, z_c0, z_c1, z_kAsg, z_kUnp, z_kPar, z_kSto26, z_kSto25, z_kSto24, z_kSto23, z_kSto22, z_sto2, z_kSto3, z_kSto2, z_kSto, z_kAugs3, z_kAugs2, z_kAugs, z_kAug, z_kStf2, z_kStf, z_kExp, z_kRet, z_kIfs, z_kFor, z_kS, z_asg, z_unp, z_par, z_sto, z_augs, z_aug, z_stf, z_exp, z_ret, z_ret0, z_ifs, z_forr, z_whil, z_pas, z_brk, z_con, z_snil, z_scons, z_callU, z_callH, z_callG, z_callX, z_calpU, z_calpH, z_calpG, z_calpX, z_runU, z_run1, z_run2, z_run3, z_run4, z_dat, z_at0, z_at1, z_at2, z_at3, z_at4, z_at5, z_ixT, z_ixL, z_pp, z_add, z_sub, z_mulS, z_mulT, z_mulL, z_lt, z_le, z_gt, z_ge, z_eqI, z_neI, z_eqS, z_isN, z_isnN, z_methH, z_kMeth2, z_kMeth, z_meth, z_recP, z_calmP, z_calmC, z_prpG, z_prpP, z_kProp, z_prop, z_objP, z_kOwn2, z_kOwn, z_kOwnC2, z_kOwnC, z_opc, z_opb, z_own, z_ownP, z_ownC, z_ownT, z_kLenO, z_lenO, z_lenP, z_kIsc, z_isc, z_bindX, z_kRai, z_rai, z_rai0, z_rai1, z_rai2, z_hd, z_hdF, z_hdT, z_nm0, z_rm0, z_rm1, z_ht0, z_ht1, z_ht2, z_ht3, z_try, z_try0, z_tryX, z_kSX, z_clpG, z_clp0, z_calp0, z_kIscT, z_kSpl2, z_kSpl, z_spl, z_kJoi2, z_kJoi, z_joi, z_kMkc, z_mkc, z_mkcG, z_mkcH, z_mkcF, z_kAugf2, z_kAugf, z_augf, z_fns, z_ini, z_gl, z_xf, z_fa, z_pI, z_binC, z_ixC, z_stC, z_lenC, z_lenD, z_max, z_min, z_int, z_lenL, z_lenT, z_ten18, z_ix0, z_ix2, z_line0, z_line1, z_line2, z_line3, z_line4, z_line5, z_line6, z_line7, z_line8, z_q1, z_q2, z_q3, z_q4, z_q5, z_q6, z_q7, z_q8, z_q9, z_q10, z_q11, z_q12, z_q13, z_q14, z_q15, z_sqT, z_sqL, z_sqS, z_as1, z_as2, z_tupL, z_sumT, z_sum, z_w0, z_w1, z_augS, z_augA, z_fnd, z_lenA, z_lenB, z_rcA, z_mtA, z_lcat, z_lset, z_stA, z_ixA, z_ixM, z_i0, z_i1, z_i2, z_i3, z_fdiv2, z_fdiv6, z_fmod6, z_mul6, z_mul2, z_slT, z_slL, z_p1, z_p2, v_x_InvalidCourse, v_x_TooHigh, v_MOST_COURSES, v_MOST_KIND, v_NO_HOLES, v_SIDES, v_WIDTHS, beq_self_eq_true, Option.getD_some, Option.getD_none, List.getElem?_cons_zero, List.getElem?_cons_succ, Option.bind_some, Option.bind_none, id_eq, Option.map_some, Option.map_none, purs, noloc, setN, List.set_cons_zero, List.set_cons_succ, List.map_cons, List.map_nil, List.length_cons, List.length_nil, List.cons_append, List.nil_append, List.append_nil, List.replicate_succ, List.replicate_zero, Nat.reduceSub, Nat.reduceAdd, Nat.reduceEqDiff, Nat.reduceBEq, if_true, if_false, ↓reduceIte, Bool.not_true, Bool.not_false, decide_true, decide_false, isNon, dselP, eq_self, Bool.and_self, Bool.and_true, Bool.true_and, Int.cast_ofNat_Int, hp, ha, ih _ (List.getElem_mem hi)]
  rw [e]
  simp
theorem alike_non (F : Fn) : d__law_alike.run (G__law_alike F) [.pur .non, .pur .non] [] = .ok (.pur (.bl true)) [] := by
  unfold d__law_alike b__law_alike
  simp only [g__law_alike__law_alike, g__law_alike_g, g__law_alike_a, z_bind, z_st, z_pS, z_slot, z_cst, z_glb, z_kTup, z_kLst, z_kLstL, z_kLstC, z_kBin2, z_kBin, z_kNeg, z_kCmp2, z_kCmp, z_kChn2, z_kChn, z_kNot, z_kIte, z_kIdx2, z_kIdx, z_kSlc3, z_kSlc2, z_kSlc, z_kSome, z_kRev, z_kDsel2, z_kDsel, z_kIsi, z_kIsT, z_kBif, z_kListC, z_kLrg, z_lrg, z_kMth2, z_kMth, z_kFld, z_kCall, z_kCalp, z_kMkf, z_kLc, z_tup, z_lst, z_lstL, z_lstC, z_bin, z_neg, z_cmp, z_chn, z_bop, z_not, z_ite, z_idx, z_slc, z_rev, z_dsel, z_isi, z_isT, z_bif, z_listC, z_mth, z_fld, z_call, z_calp, z_mkf, z_frz, z_nil, z_kCons2, z_kCons, z_kStar2, z_kStar, z_kB, z_cons, z_star, z_b1, z_b2, z_o0, z_o1, z_kSeq, z_kEnu, z_kRng1, z_kRng3, z_kRng2, z_kC, z_seq, z_enu, z_c0, z_c1, z_kAsg, z_kUnp, z_kPar, z_kSto26, z_kSto25, z_kSto24, z_kSto23, z_kSto22, z_sto2, z_kSto3, z_kSto2, z_kSto, z_kAugs3, z_kAugs2, z_kAugs, z_kAug, z_kStf2, z_kStf, z_kExp, z_kRet, z_kIfs, z_kFor, z_kS, z_asg, z_unp, z_par, z_sto, z_augs, z_aug, z_stf, z_exp, z_ret, z_ret0, z_ifs, z_forr, z_whil, z_pas, z_brk, z_con, z_snil, z_scons, z_callU, z_callH, z_callG, z_callX, z_calpU, z_calpH, z_calpG, z_calpX, z_runU, z_run1, z_run2, z_run3, z_run4, z_dat, z_at0, z_at1, z_at2, z_at3, z_at4, z_at5, z_ixT, z_ixL, z_pp, z_add, z_sub, z_mulS, z_mulT, z_mulL, z_lt, z_le, z_gt, z_ge, z_eqI, z_neI, z_eqS, z_isN, z_isnN, z_methH, z_kMeth2, z_kMeth, z_meth, z_recP, z_calmP, z_calmC, z_prpG, z_prpP, z_kProp, z_prop, z_objP, z_kOwn2, z_kOwn, z_kOwnC2, z_kOwnC, z_opc, z_opb, z_own, z_ownP, z_ownC, z_ownT, z_kLenO, z_lenO, z_lenP, z_kIsc, z_isc, z_bindX, z_kRai, z_rai, z_rai0, z_rai1, z_rai2, z_hd, z_hdF, z_hdT, z_nm0, z_rm0, z_rm1, z_ht0, z_ht1, z_ht2, z_ht3, z_try, z_try0, z_tryX, z_kSX, z_clpG, z_clp0, z_calp0, z_kIscT, z_kSpl2, z_kSpl, z_spl, z_kJoi2, z_kJoi, z_joi, z_kMkc, z_mkc, z_mkcG, z_mkcH, z_mkcF, z_kAugf2, z_kAugf, z_augf, z_fns, z_ini, z_gl, z_xf, z_fa, z_pI, z_binC, z_ixC, z_stC, z_lenC, z_lenD, z_max, z_min, z_int, z_lenL, z_lenT, z_ten18, z_ix0, z_ix2, z_line0, z_line1, z_line2, z_line3, z_line4, z_line5, z_line6, z_line7, z_line8, z_q1, z_q2, z_q3, z_q4, z_q5, z_q6, z_q7, z_q8, z_q9, z_q10, z_q11, z_q12, z_q13, z_q14, z_q15, z_sqT, z_sqL, z_sqS, z_as1, z_as2, z_tupL, z_sumT, z_sum, z_w0, z_w1, z_augS, z_augA, z_fnd, z_lenA, z_lenB, z_rcA, z_mtA, z_lcat, z_lset, z_stA, z_ixA, z_ixM, z_i0, z_i1, z_i2, z_i3, z_fdiv2, z_fdiv6, z_fmod6, z_mul6, z_mul2, z_slT, z_slL, z_p1, z_p2, v_x_InvalidCourse, v_x_TooHigh, v_MOST_COURSES, v_MOST_KIND, v_NO_HOLES, v_SIDES, v_WIDTHS, beq_self_eq_true, Option.getD_some, Option.getD_none, List.getElem?_cons_zero, List.getElem?_cons_succ, Option.bind_some, Option.bind_none, id_eq, Option.map_some, Option.map_none, purs, noloc, setN, List.set_cons_zero, List.set_cons_succ, List.map_cons, List.map_nil, List.length_cons, List.length_nil, List.cons_append, List.nil_append, List.append_nil, List.replicate_succ, List.replicate_zero, Nat.reduceSub, Nat.reduceAdd, Nat.reduceEqDiff, Nat.reduceBEq, if_true, if_false, ↓reduceIte, Bool.not_true, Bool.not_false, decide_true, decide_false, isNon, dselP, eq_self, Bool.and_self, Bool.and_true, Bool.true_and, Int.cast_ofNat_Int, isTy, isTys, eq_non, eq_bl]
theorem alike_bl (F : Fn) (b : Bool) : d__law_alike.run (G__law_alike F) [.pur (.bl b), .pur (.bl b)] [] = .ok (.pur (.bl true)) [] := by
  have e : cmpD .Eq (.pur (.bl b)) (.pur (.bl b)) = some true := by rw [eq_bl, beq_self_eq_true]
  unfold d__law_alike b__law_alike
  simp only [g__law_alike__law_alike, g__law_alike_g, g__law_alike_a, z_bind, z_st, z_pS, z_slot, z_cst, z_glb, z_kTup, z_kLst, z_kLstL, z_kLstC, z_kBin2, z_kBin, z_kNeg, z_kCmp2, z_kCmp, z_kChn2, z_kChn, z_kNot, z_kIte, z_kIdx2, z_kIdx, z_kSlc3, z_kSlc2, z_kSlc, z_kSome, z_kRev, z_kDsel2, z_kDsel, z_kIsi, z_kIsT, z_kBif, z_kListC, z_kLrg, z_lrg, z_kMth2, z_kMth, z_kFld, z_kCall, z_kCalp, z_kMkf, z_kLc, z_tup, z_lst, z_lstL, z_lstC, z_bin, z_neg, z_cmp, z_chn, z_bop, z_not, z_ite, z_idx, z_slc, z_rev, z_dsel, z_isi, z_isT, z_bif, z_listC, z_mth, z_fld, z_call, z_calp, z_mkf, z_frz, z_nil, z_kCons2, z_kCons, z_kStar2, z_kStar, z_kB, z_cons, z_star, z_b1, z_b2, z_o0, z_o1, z_kSeq, z_kEnu, z_kRng1, z_kRng3, z_kRng2, z_kC, z_seq, z_enu, z_c0, z_c1, z_kAsg, z_kUnp, z_kPar, z_kSto26, z_kSto25, z_kSto24, z_kSto23, z_kSto22, z_sto2, z_kSto3, z_kSto2, z_kSto, z_kAugs3, z_kAugs2, z_kAugs, z_kAug, z_kStf2, z_kStf, z_kExp, z_kRet, z_kIfs, z_kFor, z_kS, z_asg, z_unp, z_par, z_sto, z_augs, z_aug, z_stf, z_exp, z_ret, z_ret0, z_ifs, z_forr, z_whil, z_pas, z_brk, z_con, z_snil, z_scons, z_callU, z_callH, z_callG, z_callX, z_calpU, z_calpH, z_calpG, z_calpX, z_runU, z_run1, z_run2, z_run3, z_run4, z_dat, z_at0, z_at1, z_at2, z_at3, z_at4, z_at5, z_ixT, z_ixL, z_pp, z_add, z_sub, z_mulS, z_mulT, z_mulL, z_lt, z_le, z_gt, z_ge, z_eqI, z_neI, z_eqS, z_isN, z_isnN, z_methH, z_kMeth2, z_kMeth, z_meth, z_recP, z_calmP, z_calmC, z_prpG, z_prpP, z_kProp, z_prop, z_objP, z_kOwn2, z_kOwn, z_kOwnC2, z_kOwnC, z_opc, z_opb, z_own, z_ownP, z_ownC, z_ownT, z_kLenO, z_lenO, z_lenP, z_kIsc, z_isc, z_bindX, z_kRai, z_rai, z_rai0, z_rai1, z_rai2, z_hd, z_hdF, z_hdT, z_nm0, z_rm0, z_rm1, z_ht0, z_ht1, z_ht2, z_ht3, z_try, z_try0, z_tryX, z_kSX, z_clpG, z_clp0, z_calp0, z_kIscT, z_kSpl2, z_kSpl, z_spl, z_kJoi2, z_kJoi, z_joi, z_kMkc, z_mkc, z_mkcG, z_mkcH, z_mkcF, z_kAugf2, z_kAugf, z_augf, z_fns, z_ini, z_gl, z_xf, z_fa, z_pI, z_binC, z_ixC, z_stC, z_lenC, z_lenD, z_max, z_min, z_int, z_lenL, z_lenT, z_ten18, z_ix0, z_ix2, z_line0, z_line1, z_line2, z_line3, z_line4, z_line5, z_line6, z_line7, z_line8, z_q1, z_q2, z_q3, z_q4, z_q5, z_q6, z_q7, z_q8, z_q9, z_q10, z_q11, z_q12, z_q13, z_q14, z_q15, z_sqT, z_sqL, z_sqS, z_as1, z_as2, z_tupL, z_sumT, z_sum, z_w0, z_w1, z_augS, z_augA, z_fnd, z_lenA, z_lenB, z_rcA, z_mtA, z_lcat, z_lset, z_stA, z_ixA, z_ixM, z_i0, z_i1, z_i2, z_i3, z_fdiv2, z_fdiv6, z_fmod6, z_mul6, z_mul2, z_slT, z_slL, z_p1, z_p2, v_x_InvalidCourse, v_x_TooHigh, v_MOST_COURSES, v_MOST_KIND, v_NO_HOLES, v_SIDES, v_WIDTHS, beq_self_eq_true, Option.getD_some, Option.getD_none, List.getElem?_cons_zero, List.getElem?_cons_succ, Option.bind_some, Option.bind_none, id_eq, Option.map_some, Option.map_none, purs, noloc, setN, List.set_cons_zero, List.set_cons_succ, List.map_cons, List.map_nil, List.length_cons, List.length_nil, List.cons_append, List.nil_append, List.append_nil, List.replicate_succ, List.replicate_zero, Nat.reduceSub, Nat.reduceAdd, Nat.reduceEqDiff, Nat.reduceBEq, if_true, if_false, ↓reduceIte, Bool.not_true, Bool.not_false, decide_true, decide_false, isNon, dselP, eq_self, Bool.and_self, Bool.and_true, Bool.true_and, Int.cast_ofNat_Int, isTy, isTys, e, eq_bl]
theorem alike_int (F : Fn) (i : Int) : d__law_alike.run (G__law_alike F) [.pur (.int i), .pur (.int i)] [] = .ok (.pur (.bl true)) [] := by
  unfold d__law_alike b__law_alike
  simp only [g__law_alike__law_alike, g__law_alike_g, g__law_alike_a, z_bind, z_st, z_pS, z_slot, z_cst, z_glb, z_kTup, z_kLst, z_kLstL, z_kLstC, z_kBin2, z_kBin, z_kNeg, z_kCmp2, z_kCmp, z_kChn2, z_kChn, z_kNot, z_kIte, z_kIdx2, z_kIdx, z_kSlc3, z_kSlc2, z_kSlc, z_kSome, z_kRev, z_kDsel2, z_kDsel, z_kIsi, z_kIsT, z_kBif, z_kListC, z_kLrg, z_lrg, z_kMth2, z_kMth, z_kFld, z_kCall, z_kCalp, z_kMkf, z_kLc, z_tup, z_lst, z_lstL, z_lstC, z_bin, z_neg, z_cmp, z_chn, z_bop, z_not, z_ite, z_idx, z_slc, z_rev, z_dsel, z_isi, z_isT, z_bif, z_listC, z_mth, z_fld, z_call, z_calp, z_mkf, z_frz, z_nil, z_kCons2, z_kCons, z_kStar2, z_kStar, z_kB, z_cons, z_star, z_b1, z_b2, z_o0, z_o1, z_kSeq, z_kEnu, z_kRng1, z_kRng3, z_kRng2, z_kC, z_seq, z_enu, z_c0, z_c1, z_kAsg, z_kUnp, z_kPar, z_kSto26, z_kSto25, z_kSto24, z_kSto23, z_kSto22, z_sto2, z_kSto3, z_kSto2, z_kSto, z_kAugs3, z_kAugs2, z_kAugs, z_kAug, z_kStf2, z_kStf, z_kExp, z_kRet, z_kIfs, z_kFor, z_kS, z_asg, z_unp, z_par, z_sto, z_augs, z_aug, z_stf, z_exp, z_ret, z_ret0, z_ifs, z_forr, z_whil, z_pas, z_brk, z_con, z_snil, z_scons, z_callU, z_callH, z_callG, z_callX, z_calpU, z_calpH, z_calpG, z_calpX, z_runU, z_run1, z_run2, z_run3, z_run4, z_dat, z_at0, z_at1, z_at2, z_at3, z_at4, z_at5, z_ixT, z_ixL, z_pp, z_add, z_sub, z_mulS, z_mulT, z_mulL, z_lt, z_le, z_gt, z_ge, z_eqI, z_neI, z_eqS, z_isN, z_isnN, z_methH, z_kMeth2, z_kMeth, z_meth, z_recP, z_calmP, z_calmC, z_prpG, z_prpP, z_kProp, z_prop, z_objP, z_kOwn2, z_kOwn, z_kOwnC2, z_kOwnC, z_opc, z_opb, z_own, z_ownP, z_ownC, z_ownT, z_kLenO, z_lenO, z_lenP, z_kIsc, z_isc, z_bindX, z_kRai, z_rai, z_rai0, z_rai1, z_rai2, z_hd, z_hdF, z_hdT, z_nm0, z_rm0, z_rm1, z_ht0, z_ht1, z_ht2, z_ht3, z_try, z_try0, z_tryX, z_kSX, z_clpG, z_clp0, z_calp0, z_kIscT, z_kSpl2, z_kSpl, z_spl, z_kJoi2, z_kJoi, z_joi, z_kMkc, z_mkc, z_mkcG, z_mkcH, z_mkcF, z_kAugf2, z_kAugf, z_augf, z_fns, z_ini, z_gl, z_xf, z_fa, z_pI, z_binC, z_ixC, z_stC, z_lenC, z_lenD, z_max, z_min, z_int, z_lenL, z_lenT, z_ten18, z_ix0, z_ix2, z_line0, z_line1, z_line2, z_line3, z_line4, z_line5, z_line6, z_line7, z_line8, z_q1, z_q2, z_q3, z_q4, z_q5, z_q6, z_q7, z_q8, z_q9, z_q10, z_q11, z_q12, z_q13, z_q14, z_q15, z_sqT, z_sqL, z_sqS, z_as1, z_as2, z_tupL, z_sumT, z_sum, z_w0, z_w1, z_augS, z_augA, z_fnd, z_lenA, z_lenB, z_rcA, z_mtA, z_lcat, z_lset, z_stA, z_ixA, z_ixM, z_i0, z_i1, z_i2, z_i3, z_fdiv2, z_fdiv6, z_fmod6, z_mul6, z_mul2, z_slT, z_slL, z_p1, z_p2, v_x_InvalidCourse, v_x_TooHigh, v_MOST_COURSES, v_MOST_KIND, v_NO_HOLES, v_SIDES, v_WIDTHS, beq_self_eq_true, Option.getD_some, Option.getD_none, List.getElem?_cons_zero, List.getElem?_cons_succ, Option.bind_some, Option.bind_none, id_eq, Option.map_some, Option.map_none, purs, noloc, setN, List.set_cons_zero, List.set_cons_succ, List.map_cons, List.map_nil, List.length_cons, List.length_nil, List.cons_append, List.nil_append, List.append_nil, List.replicate_succ, List.replicate_zero, Nat.reduceSub, Nat.reduceAdd, Nat.reduceEqDiff, Nat.reduceBEq, if_true, if_false, ↓reduceIte, Bool.not_true, Bool.not_false, decide_true, decide_false, isNon, dselP, eq_self, Bool.and_self, Bool.and_true, Bool.true_and, Int.cast_ofNat_Int, isTy, isTys, eq_bl]
theorem alike_str (F : Fn) (x : Str) : d__law_alike.run (G__law_alike F) [.pur (.str x), .pur (.str x)] [] = .ok (.pur (.bl true)) [] := by
  unfold d__law_alike b__law_alike
  simp only [g__law_alike__law_alike, g__law_alike_g, g__law_alike_a, z_bind, z_st, z_pS, z_slot, z_cst, z_glb, z_kTup, z_kLst, z_kLstL, z_kLstC, z_kBin2, z_kBin, z_kNeg, z_kCmp2, z_kCmp, z_kChn2, z_kChn, z_kNot, z_kIte, z_kIdx2, z_kIdx, z_kSlc3, z_kSlc2, z_kSlc, z_kSome, z_kRev, z_kDsel2, z_kDsel, z_kIsi, z_kIsT, z_kBif, z_kListC, z_kLrg, z_lrg, z_kMth2, z_kMth, z_kFld, z_kCall, z_kCalp, z_kMkf, z_kLc, z_tup, z_lst, z_lstL, z_lstC, z_bin, z_neg, z_cmp, z_chn, z_bop, z_not, z_ite, z_idx, z_slc, z_rev, z_dsel, z_isi, z_isT, z_bif, z_listC, z_mth, z_fld, z_call, z_calp, z_mkf, z_frz, z_nil, z_kCons2, z_kCons, z_kStar2, z_kStar, z_kB, z_cons, z_star, z_b1, z_b2, z_o0, z_o1, z_kSeq, z_kEnu, z_kRng1, z_kRng3, z_kRng2, z_kC, z_seq, z_enu, z_c0, z_c1, z_kAsg, z_kUnp, z_kPar, z_kSto26, z_kSto25, z_kSto24, z_kSto23, z_kSto22, z_sto2, z_kSto3, z_kSto2, z_kSto, z_kAugs3, z_kAugs2, z_kAugs, z_kAug, z_kStf2, z_kStf, z_kExp, z_kRet, z_kIfs, z_kFor, z_kS, z_asg, z_unp, z_par, z_sto, z_augs, z_aug, z_stf, z_exp, z_ret, z_ret0, z_ifs, z_forr, z_whil, z_pas, z_brk, z_con, z_snil, z_scons, z_callU, z_callH, z_callG, z_callX, z_calpU, z_calpH, z_calpG, z_calpX, z_runU, z_run1, z_run2, z_run3, z_run4, z_dat, z_at0, z_at1, z_at2, z_at3, z_at4, z_at5, z_ixT, z_ixL, z_pp, z_add, z_sub, z_mulS, z_mulT, z_mulL, z_lt, z_le, z_gt, z_ge, z_eqI, z_neI, z_eqS, z_isN, z_isnN, z_methH, z_kMeth2, z_kMeth, z_meth, z_recP, z_calmP, z_calmC, z_prpG, z_prpP, z_kProp, z_prop, z_objP, z_kOwn2, z_kOwn, z_kOwnC2, z_kOwnC, z_opc, z_opb, z_own, z_ownP, z_ownC, z_ownT, z_kLenO, z_lenO, z_lenP, z_kIsc, z_isc, z_bindX, z_kRai, z_rai, z_rai0, z_rai1, z_rai2, z_hd, z_hdF, z_hdT, z_nm0, z_rm0, z_rm1, z_ht0, z_ht1, z_ht2, z_ht3, z_try, z_try0, z_tryX, z_kSX, z_clpG, z_clp0, z_calp0, z_kIscT, z_kSpl2, z_kSpl, z_spl, z_kJoi2, z_kJoi, z_joi, z_kMkc, z_mkc, z_mkcG, z_mkcH, z_mkcF, z_kAugf2, z_kAugf, z_augf, z_fns, z_ini, z_gl, z_xf, z_fa, z_pI, z_binC, z_ixC, z_stC, z_lenC, z_lenD, z_max, z_min, z_int, z_lenL, z_lenT, z_ten18, z_ix0, z_ix2, z_line0, z_line1, z_line2, z_line3, z_line4, z_line5, z_line6, z_line7, z_line8, z_q1, z_q2, z_q3, z_q4, z_q5, z_q6, z_q7, z_q8, z_q9, z_q10, z_q11, z_q12, z_q13, z_q14, z_q15, z_sqT, z_sqL, z_sqS, z_as1, z_as2, z_tupL, z_sumT, z_sum, z_w0, z_w1, z_augS, z_augA, z_fnd, z_lenA, z_lenB, z_rcA, z_mtA, z_lcat, z_lset, z_stA, z_ixA, z_ixM, z_i0, z_i1, z_i2, z_i3, z_fdiv2, z_fdiv6, z_fmod6, z_mul6, z_mul2, z_slT, z_slL, z_p1, z_p2, v_x_InvalidCourse, v_x_TooHigh, v_MOST_COURSES, v_MOST_KIND, v_NO_HOLES, v_SIDES, v_WIDTHS, beq_self_eq_true, Option.getD_some, Option.getD_none, List.getElem?_cons_zero, List.getElem?_cons_succ, Option.bind_some, Option.bind_none, id_eq, Option.map_some, Option.map_none, purs, noloc, setN, List.set_cons_zero, List.set_cons_succ, List.map_cons, List.map_nil, List.length_cons, List.length_nil, List.cons_append, List.nil_append, List.append_nil, List.replicate_succ, List.replicate_zero, Nat.reduceSub, Nat.reduceAdd, Nat.reduceEqDiff, Nat.reduceBEq, if_true, if_false, ↓reduceIte, Bool.not_true, Bool.not_false, decide_true, decide_false, isNon, dselP, eq_self, Bool.and_self, Bool.and_true, Bool.true_and, Int.cast_ofNat_Int, isTy, isTys, eq_str, eq_bl]
theorem alike_tup {F : Fn} {ps : List P} (hn : ps.length ≤ 1000000) (ih : ∀ x ∈ ps, F [.pur x, .pur x] [] = .ok (.pur (.bl true)) []) : d__law_alike.run (G__law_alike F) [.pur (.tup ps), .pur (.tup ps)] [] = .ok (.pur (.bl true)) [] := by
  have hi := alike_items (F := F) (p := .pur (.tup ps)) (ps := ps) (fun _ _ => rfl) (fun _ => rfl) hn ih
  unfold d__law_alike b__law_alike
  simp only [g__law_alike__law_alike, g__law_alike_g, g__law_alike_a, z_bind, z_st, z_pS, z_slot, z_cst, z_glb, z_kTup, z_kLst, z_kLstL, z_kLstC, z_kBin2, z_kBin, z_kNeg, z_kCmp2, z_kCmp, z_kChn2, z_kChn, z_kNot, z_kIte, z_kIdx2, z_kIdx, z_kSlc3, z_kSlc2, z_kSlc, z_kSome, z_kRev, z_kDsel2, z_kDsel, z_kIsi, z_kIsT, z_kBif, z_kListC, z_kLrg, z_lrg, z_kMth2, z_kMth, z_kFld, z_kCall, z_kCalp, z_kMkf, z_kLc, z_tup, z_lst, z_lstL, z_lstC, z_bin, z_neg, z_cmp, z_chn, z_bop, z_not, z_ite, z_idx, z_slc, z_rev, z_dsel, z_isi, z_isT, z_bif, z_listC, z_mth, z_fld, z_call, z_calp, z_mkf, z_frz, z_nil, z_kCons2, z_kCons, z_kStar2, z_kStar, z_kB, z_cons, z_star, z_b1, z_b2, z_o0, z_o1, z_kSeq, z_kEnu, z_kRng1, z_kRng3, z_kRng2, z_kC, z_seq, z_enu, z_c0, z_c1, z_kAsg, z_kUnp, z_kPar, z_kSto26, z_kSto25, z_kSto24, z_kSto23, z_kSto22, z_sto2, z_kSto3, z_kSto2, z_kSto, z_kAugs3, z_kAugs2, z_kAugs, z_kAug, z_kStf2, z_kStf, z_kExp, z_kRet, z_kIfs, z_kFor, z_kS, z_asg, z_unp, z_par, z_sto, z_augs, z_aug, z_stf, z_exp, z_ret, z_ret0, z_ifs, z_forr, z_whil, z_pas, z_brk, z_con, z_snil, z_scons, z_callU, z_callH, z_callG, z_callX, z_calpU, z_calpH, z_calpG, z_calpX, z_runU, z_run1, z_run2, z_run3, z_run4, z_dat, z_at0, z_at1, z_at2, z_at3, z_at4, z_at5, z_ixT, z_ixL, z_pp, z_add, z_sub, z_mulS, z_mulT, z_mulL, z_lt, z_le, z_gt, z_ge, z_eqI, z_neI, z_eqS, z_isN, z_isnN, z_methH, z_kMeth2, z_kMeth, z_meth, z_recP, z_calmP, z_calmC, z_prpG, z_prpP, z_kProp, z_prop, z_objP, z_kOwn2, z_kOwn, z_kOwnC2, z_kOwnC, z_opc, z_opb, z_own, z_ownP, z_ownC, z_ownT, z_kLenO, z_lenO, z_lenP, z_kIsc, z_isc, z_bindX, z_kRai, z_rai, z_rai0, z_rai1, z_rai2, z_hd, z_hdF, z_hdT, z_nm0, z_rm0, z_rm1, z_ht0, z_ht1, z_ht2, z_ht3, z_try, z_try0, z_tryX, z_kSX, z_clpG, z_clp0, z_calp0, z_kIscT, z_kSpl2, z_kSpl, z_spl, z_kJoi2, z_kJoi, z_joi, z_kMkc, z_mkc, z_mkcG, z_mkcH, z_mkcF, z_kAugf2, z_kAugf, z_augf, z_fns, z_ini, z_gl, z_xf, z_fa, z_pI, z_binC, z_ixC, z_stC, z_lenC, z_lenD, z_max, z_min, z_int, z_lenL, z_lenT, z_ten18, z_ix0, z_ix2, z_line0, z_line1, z_line2, z_line3, z_line4, z_line5, z_line6, z_line7, z_line8, z_q1, z_q2, z_q3, z_q4, z_q5, z_q6, z_q7, z_q8, z_q9, z_q10, z_q11, z_q12, z_q13, z_q14, z_q15, z_sqT, z_sqL, z_sqS, z_as1, z_as2, z_tupL, z_sumT, z_sum, z_w0, z_w1, z_augS, z_augA, z_fnd, z_lenA, z_lenB, z_rcA, z_mtA, z_lcat, z_lset, z_stA, z_ixA, z_ixM, z_i0, z_i1, z_i2, z_i3, z_fdiv2, z_fdiv6, z_fmod6, z_mul6, z_mul2, z_slT, z_slL, z_p1, z_p2, v_x_InvalidCourse, v_x_TooHigh, v_MOST_COURSES, v_MOST_KIND, v_NO_HOLES, v_SIDES, v_WIDTHS, beq_self_eq_true, Option.getD_some, Option.getD_none, List.getElem?_cons_zero, List.getElem?_cons_succ, Option.bind_some, Option.bind_none, id_eq, Option.map_some, Option.map_none, purs, noloc, setN, List.set_cons_zero, List.set_cons_succ, List.map_cons, List.map_nil, List.length_cons, List.length_nil, List.cons_append, List.nil_append, List.append_nil, List.replicate_succ, List.replicate_zero, Nat.reduceSub, Nat.reduceAdd, Nat.reduceEqDiff, Nat.reduceBEq, if_true, if_false, ↓reduceIte, Bool.not_true, Bool.not_false, decide_true, decide_false, isNon, dselP, eq_self, Bool.and_self, Bool.and_true, Bool.true_and, Int.cast_ofNat_Int, isTy, isTys, ne_bl, hi, eq_nil]
theorem alike_lst {F : Fn} {ps : List P} (hn : ps.length ≤ 1000000) (ih : ∀ x ∈ ps, F [.pur x, .pur x] [] = .ok (.pur (.bl true)) []) : d__law_alike.run (G__law_alike F) [.pur (.lst ps), .pur (.lst ps)] [] = .ok (.pur (.bl true)) [] := by
  have hi := alike_items (F := F) (p := .pur (.lst ps)) (ps := ps) (fun _ _ => rfl) (fun _ => rfl) hn ih
  unfold d__law_alike b__law_alike
  simp only [g__law_alike__law_alike, g__law_alike_g, g__law_alike_a, z_bind, z_st, z_pS, z_slot, z_cst, z_glb, z_kTup, z_kLst, z_kLstL, z_kLstC, z_kBin2, z_kBin, z_kNeg, z_kCmp2, z_kCmp, z_kChn2, z_kChn, z_kNot, z_kIte, z_kIdx2, z_kIdx, z_kSlc3, z_kSlc2, z_kSlc, z_kSome, z_kRev, z_kDsel2, z_kDsel, z_kIsi, z_kIsT, z_kBif, z_kListC, z_kLrg, z_lrg, z_kMth2, z_kMth, z_kFld, z_kCall, z_kCalp, z_kMkf, z_kLc, z_tup, z_lst, z_lstL, z_lstC, z_bin, z_neg, z_cmp, z_chn, z_bop, z_not, z_ite, z_idx, z_slc, z_rev, z_dsel, z_isi, z_isT, z_bif, z_listC, z_mth, z_fld, z_call, z_calp, z_mkf, z_frz, z_nil, z_kCons2, z_kCons, z_kStar2, z_kStar, z_kB, z_cons, z_star, z_b1, z_b2, z_o0, z_o1, z_kSeq, z_kEnu, z_kRng1, z_kRng3, z_kRng2, z_kC, z_seq, z_enu, z_c0, z_c1, z_kAsg, z_kUnp, z_kPar, z_kSto26, z_kSto25, z_kSto24, z_kSto23, z_kSto22, z_sto2, z_kSto3, z_kSto2, z_kSto, z_kAugs3, z_kAugs2, z_kAugs, z_kAug, z_kStf2, z_kStf, z_kExp, z_kRet, z_kIfs, z_kFor, z_kS, z_asg, z_unp, z_par, z_sto, z_augs, z_aug, z_stf, z_exp, z_ret, z_ret0, z_ifs, z_forr, z_whil, z_pas, z_brk, z_con, z_snil, z_scons, z_callU, z_callH, z_callG, z_callX, z_calpU, z_calpH, z_calpG, z_calpX, z_runU, z_run1, z_run2, z_run3, z_run4, z_dat, z_at0, z_at1, z_at2, z_at3, z_at4, z_at5, z_ixT, z_ixL, z_pp, z_add, z_sub, z_mulS, z_mulT, z_mulL, z_lt, z_le, z_gt, z_ge, z_eqI, z_neI, z_eqS, z_isN, z_isnN, z_methH, z_kMeth2, z_kMeth, z_meth, z_recP, z_calmP, z_calmC, z_prpG, z_prpP, z_kProp, z_prop, z_objP, z_kOwn2, z_kOwn, z_kOwnC2, z_kOwnC, z_opc, z_opb, z_own, z_ownP, z_ownC, z_ownT, z_kLenO, z_lenO, z_lenP, z_kIsc, z_isc, z_bindX, z_kRai, z_rai, z_rai0, z_rai1, z_rai2, z_hd, z_hdF, z_hdT, z_nm0, z_rm0, z_rm1, z_ht0, z_ht1, z_ht2, z_ht3, z_try, z_try0, z_tryX, z_kSX, z_clpG, z_clp0, z_calp0, z_kIscT, z_kSpl2, z_kSpl, z_spl, z_kJoi2, z_kJoi, z_joi, z_kMkc, z_mkc, z_mkcG, z_mkcH, z_mkcF, z_kAugf2, z_kAugf, z_augf, z_fns, z_ini, z_gl, z_xf, z_fa, z_pI, z_binC, z_ixC, z_stC, z_lenC, z_lenD, z_max, z_min, z_int, z_lenL, z_lenT, z_ten18, z_ix0, z_ix2, z_line0, z_line1, z_line2, z_line3, z_line4, z_line5, z_line6, z_line7, z_line8, z_q1, z_q2, z_q3, z_q4, z_q5, z_q6, z_q7, z_q8, z_q9, z_q10, z_q11, z_q12, z_q13, z_q14, z_q15, z_sqT, z_sqL, z_sqS, z_as1, z_as2, z_tupL, z_sumT, z_sum, z_w0, z_w1, z_augS, z_augA, z_fnd, z_lenA, z_lenB, z_rcA, z_mtA, z_lcat, z_lset, z_stA, z_ixA, z_ixM, z_i0, z_i1, z_i2, z_i3, z_fdiv2, z_fdiv6, z_fmod6, z_mul6, z_mul2, z_slT, z_slL, z_p1, z_p2, v_x_InvalidCourse, v_x_TooHigh, v_MOST_COURSES, v_MOST_KIND, v_NO_HOLES, v_SIDES, v_WIDTHS, beq_self_eq_true, Option.getD_some, Option.getD_none, List.getElem?_cons_zero, List.getElem?_cons_succ, Option.bind_some, Option.bind_none, id_eq, Option.map_some, Option.map_none, purs, noloc, setN, List.set_cons_zero, List.set_cons_succ, List.map_cons, List.map_nil, List.length_cons, List.length_nil, List.cons_append, List.nil_append, List.append_nil, List.replicate_succ, List.replicate_zero, Nat.reduceSub, Nat.reduceAdd, Nat.reduceEqDiff, Nat.reduceBEq, if_true, if_false, ↓reduceIte, Bool.not_true, Bool.not_false, decide_true, decide_false, isNon, dselP, eq_self, Bool.and_self, Bool.and_true, Bool.true_and, Int.cast_ofNat_Int, isTy, isTys, ne_bl, hi, eq_nil]
theorem alike_at (j : Nat) : ∀ p : P, alk j p → F__law_alike_at (j + 1) [.pur p, .pur p] [] = .ok (.pur (.bl true)) [] := by
  induction j with
  | zero =>
    intro p h
    cases p with
    | non => exact alike_non _
    | bl b => exact alike_bl _ b
    | int i => exact alike_int _ i
    | str x => exact alike_str _ x
    | tup ps => exact h.elim
    | lst ps => exact h.elim
    | sq ps => exact h.elim
    | obj c ns ds => exact h.elim
  | succ j ih =>
    intro p h
    cases p with
    | non => exact alike_non _
    | bl b => exact alike_bl _ b
    | int i => exact alike_int _ i
    | str x => exact alike_str _ x
    | tup ps => exact alike_tup h.1 fun x hx => ih x (h.2 x hx)
    | lst ps => exact alike_lst h.1 fun x hx => ih x (h.2 x hx)
    | sq ps => exact h.elim
    | obj c ns ds => exact h.elim
theorem alk_mono : ∀ (j : Nat) (p : P), alk j p → alk (j + 1) p
  | j, .non, _ => trivial
  | j, .bl _, _ => trivial
  | j, .int _, _ => trivial
  | j, .str _, _ => trivial
  | j + 1, .tup ps, h => ⟨h.1, fun p hp => alk_mono j p (h.2 p hp)⟩
  | j + 1, .lst ps, h => ⟨h.1, fun p hp => alk_mono j p (h.2 p hp)⟩
  | 0, .tup ps, h => h.elim
  | 0, .lst ps, h => h.elim
  | 0, .sq ps, h => h.elim
  | 0, .obj _ _ _, h => h.elim
  | j + 1, .sq ps, h => h.elim
  | j + 1, .obj _ _ _, h => h.elim
theorem alk_le {j k : Nat} {p : P} (h : alk j p) (hk : j ≤ k) : alk k p := by
  induction hk with
  | refl => exact h
  | step _ ih => exact alk_mono _ _ ih
theorem alike_ok {j : Nat} {p : P} (h : alk j p) (hj : j ≤ 5) : F__law_alike [.pur p, .pur p] [] = .ok (.pur (.bl true)) [] := alike_at 5 p (alk_le h hj)
theorem alk_pc {p : P} (h : isPc p) (j : Nat) : alk j p := by
  rcases h with rfl | ⟨i, rfl⟩
  · cases j <;> trivial
  · cases j <;> trivial
theorem alk_int (i : Int) (j : Nat) : alk j (.int i) := by cases j <;> trivial
end HL
end

section
set_option Elab.async false
set_option linter.all false
set_option maxRecDepth 100000
set_option maxHeartbeats 1000000
/-! U18e: heaps are compared -/
namespace HL
open PySem Ev
theorem lay_enc (c : Crs) : lay (enc c) = true := by
  cases c with
  | lid k => kernel_rfl
  | wall w l b h0 h1 h2 m0 m1 => cases w <;> cases l <;> kernel_rfl
theorem dep_enc (c : Crs) : dep (enc c) ≤ 2 := by
  cases c with
  | lid k => show max 0 (max 0 0) + 1 ≤ 2; decide
  | wall w l b h0 h1 h2 m0 m1 => show max 0 (max 0 (max 0 (max 0 (max (max 0 (max 0 (max 0 0)) + 1) (max (max 0 (max 0 0) + 1) 0))))) + 1 ≤ 2; decide
theorem lays_enc : ∀ cs : List Crs, lays (cs.map enc) = true
  | [] => rfl
  | c :: cs => by
    rw [List.map_cons]
    unfold lays
    rw [lay_enc, lays_enc cs]
    rfl
theorem deps_enc : ∀ cs : List Crs, deps (cs.map enc) ≤ 2
  | [] => by show 0 ≤ 2; decide
  | c :: cs => by
    rw [List.map_cons]
    unfold deps
    have h1 := dep_enc c
    have h2 := deps_enc cs
    omega
theorem eqP_enc (c : Crs) : eqP (enc c) (enc c) = true := by
  cases c with
  | lid k => simp [enc, eqP, eqPs]
  | wall w l b h0 h1 h2 m0 m1 => simp [enc, eqP, eqPs]
theorem eqPs_enc : ∀ cs : List Crs, eqPs (cs.map enc) (cs.map enc) = true
  | [] => rfl
  | c :: cs => by
    rw [List.map_cons]
    unfold eqPs
    rw [eqP_enc, eqPs_enc cs]
    rfl
theorem eq_encs (cs : List Crs) : cmpD .Eq (.pur (.tup (cs.map enc))) (.pur (.tup (cs.map enc))) = some true := by
  have h : eqOK (.tup (cs.map enc)) = true := by
    unfold eqOK
    rw [Bool.and_eq_true, decide_eq_true_eq]
    refine ⟨?_, ?_⟩
    · unfold lay; exact lays_enc cs
    · have := deps_enc cs
      unfold dep
      omega
  show (if eqOK _ && eqOK _ then some (eqPs _ _) else none) = _
  rw [h, eqPs_enc]
  rfl
theorem heq_ok (cs : List Crs) : F_Heap___eq__ [hp cs, hp cs] [] = .ok (.pur (.bl true)) [] := by
  have e := eq_encs cs
  have ef := fld_ok cs
  unfold F_Heap___eq__ d_Heap___eq__ b_Heap___eq__
  unfold hp at ef ⊢
  simp only [g_Heap___eq___x, g_Heap___eq___g, g_Heap___eq___a, z_bind, z_st, z_pS, z_slot, z_cst, z_glb, z_kTup, z_kLst, z_kLstL, z_kLstC, z_kBin2, z_kBin, z_kNeg, z_kCmp2, z_kCmp, z_kChn2, z_kChn, z_kNot, z_kIte, z_kIdx2, z_kIdx, z_kSlc3, z_kSlc2, z_kSlc, z_kSome, z_kRev, z_kDsel2, z_kDsel, z_kIsi, z_kIsT, z_kBif, z_kListC, z_kLrg, z_lrg, z_kMth2, z_kMth, z_kFld, z_kCall, z_kCalp, z_kMkf, z_kLc, z_tup, z_lst, z_lstL, z_lstC, z_bin, z_neg, z_cmp, z_chn, z_bop, z_not, z_ite, z_idx, z_slc, z_rev, z_dsel, z_isi, z_isT, z_bif, z_listC, z_mth, z_fld, z_call, z_calp, z_mkf, z_frz, z_nil, z_kCons2, z_kCons, z_kStar2, z_kStar, z_kB, z_cons, z_star, z_b1, z_b2, z_o0, z_o1, z_kSeq, z_kEnu, z_kRng1, z_kRng3, z_kRng2, z_kC, z_seq, z_enu, z_c0, z_c1, z_kAsg, z_kUnp, z_kPar, z_kSto26, z_kSto25, z_kSto24, z_kSto23, z_kSto22, z_sto2, z_kSto3, z_kSto2, z_kSto, z_kAugs3, z_kAugs2, z_kAugs, z_kAug, z_kStf2, z_kStf, z_kExp, z_kRet, z_kIfs, z_kFor, z_kS, z_asg, z_unp, z_par, z_sto, z_augs, z_aug, z_stf, z_exp, z_ret, z_ret0, z_ifs, z_forr, z_whil, z_pas, z_brk, z_con, z_snil, z_scons, z_callU, z_callH, z_callG, z_callX, z_calpU, z_calpH, z_calpG, z_calpX, z_runU, z_run1, z_run2, z_run3, z_run4, z_dat, z_at0, z_at1, z_at2, z_at3, z_at4, z_at5, z_ixT, z_ixL, z_pp, z_add, z_sub, z_mulS, z_mulT, z_mulL, z_lt, z_le, z_gt, z_ge, z_eqI, z_neI, z_eqS, z_isN, z_isnN, z_methH, z_kMeth2, z_kMeth, z_meth, z_recP, z_calmP, z_calmC, z_prpG, z_prpP, z_kProp, z_prop, z_objP, z_kOwn2, z_kOwn, z_kOwnC2, z_kOwnC, z_opc, z_opb, z_own, z_ownP, z_ownC, z_ownT, z_kLenO, z_lenO, z_lenP, z_kIsc, z_isc, z_bindX, z_kRai, z_rai, z_rai0, z_rai1, z_rai2, z_hd, z_hdF, z_hdT, z_nm0, z_rm0, z_rm1, z_ht0, z_ht1, z_ht2, z_ht3, z_try, z_try0, z_tryX, z_kSX, z_clpG, z_clp0, z_calp0, z_kIscT, z_kSpl2, z_kSpl, z_spl, z_kJoi2, z_kJoi, z_joi, z_kMkc, z_mkc, z_mkcG, z_mkcH, z_mkcF, z_kAugf2, z_kAugf, z_augf, z_fns, z_ini, z_gl, z_xf, z_fa, z_pI, z_binC, z_ixC, z_stC, z_lenC, z_lenD, z_max, z_min, z_int, z_lenL, z_lenT, z_ten18, z_ix0, z_ix2, z_line0, z_line1, z_line2, z_line3, z_line4, z_line5, z_line6, z_line7, z_line8, z_q1, z_q2, z_q3, z_q4, z_q5, z_q6, z_q7, z_q8, z_q9, z_q10, z_q11, z_q12, z_q13, z_q14, z_q15, z_sqT, z_sqL, z_sqS, z_as1, z_as2, z_tupL, z_sumT, z_sum, z_w0, z_w1, z_augS, z_augA, z_fnd, z_lenA, z_lenB, z_rcA, z_mtA, z_lcat, z_lset, z_stA, z_ixA, z_ixM, z_i0, z_i1, z_i2, z_i3, z_fdiv2, z_fdiv6, z_fmod6, z_mul6, z_mul2, z_slT, z_slL, z_p1, z_p2, zu_hm, zu_hp1, zu_hp2, v_x_InvalidCourse, v_x_TooHigh, v_MOST_COURSES, v_MOST_KIND, v_NO_HOLES, v_SIDES, v_WIDTHS, beq_self_eq_true, Option.getD_some, Option.getD_none, List.getElem?_cons_zero, List.getElem?_cons_succ, Option.bind_some, Option.bind_none, id_eq, Option.map_some, Option.map_none, purs, noloc, setN, List.set_cons_zero, List.set_cons_succ, List.map_cons, List.map_nil, List.length_cons, List.length_nil, List.cons_append, List.nil_append, List.append_nil, List.replicate_succ, List.replicate_zero, Nat.reduceSub, Nat.reduceAdd, Nat.reduceEqDiff, Nat.reduceBEq, if_true, if_false, ↓reduceIte, Bool.not_true, Bool.not_false, decide_true, decide_false, isNon, dselP, eq_self, Bool.and_self, Bool.and_true, Bool.true_and, Int.cast_ofNat_Int, ef, e]
theorem crs_ok (cs : List Crs) : F_Heap_courses [hp cs] [] = .ok (.pur (.tup (cs.map enc))) [] := by
  have ef := fld_ok cs
  unfold F_Heap_courses d_Heap_courses b_Heap_courses
  unfold hp at ef ⊢
  simp only [g_Heap_courses_x, g_Heap_courses_g, g_Heap_courses_a, z_bind, z_st, z_pS, z_slot, z_cst, z_glb, z_kTup, z_kLst, z_kLstL, z_kLstC, z_kBin2, z_kBin, z_kNeg, z_kCmp2, z_kCmp, z_kChn2, z_kChn, z_kNot, z_kIte, z_kIdx2, z_kIdx, z_kSlc3, z_kSlc2, z_kSlc, z_kSome, z_kRev, z_kDsel2, z_kDsel, z_kIsi, z_kIsT, z_kBif, z_kListC, z_kLrg, z_lrg, z_kMth2, z_kMth, z_kFld, z_kCall, z_kCalp, z_kMkf, z_kLc, z_tup, z_lst, z_lstL, z_lstC, z_bin, z_neg, z_cmp, z_chn, z_bop, z_not, z_ite, z_idx, z_slc, z_rev, z_dsel, z_isi, z_isT, z_bif, z_listC, z_mth, z_fld, z_call, z_calp, z_mkf, z_frz, z_nil, z_kCons2, z_kCons, z_kStar2, z_kStar, z_kB, z_cons, z_star, z_b1, z_b2, z_o0, z_o1, z_kSeq, z_kEnu, z_kRng1, z_kRng3, z_kRng2, z_kC, z_seq, z_enu, z_c0, z_c1, z_kAsg, z_kUnp, z_kPar, z_kSto26, z_kSto25, z_kSto24, z_kSto23, z_kSto22, z_sto2, z_kSto3, z_kSto2, z_kSto, z_kAugs3, z_kAugs2, z_kAugs, z_kAug, z_kStf2, z_kStf, z_kExp, z_kRet, z_kIfs, z_kFor, z_kS, z_asg, z_unp, z_par, z_sto, z_augs, z_aug, z_stf, z_exp, z_ret, z_ret0, z_ifs, z_forr, z_whil, z_pas, z_brk, z_con, z_snil, z_scons, z_callU, z_callH, z_callG, z_callX, z_calpU, z_calpH, z_calpG, z_calpX, z_runU, z_run1, z_run2, z_run3, z_run4, z_dat, z_at0, z_at1, z_at2, z_at3, z_at4, z_at5, z_ixT, z_ixL, z_pp, z_add, z_sub, z_mulS, z_mulT, z_mulL, z_lt, z_le, z_gt, z_ge, z_eqI, z_neI, z_eqS, z_isN, z_isnN, z_methH, z_kMeth2, z_kMeth, z_meth, z_recP, z_calmP, z_calmC, z_prpG, z_prpP, z_kProp, z_prop, z_objP, z_kOwn2, z_kOwn, z_kOwnC2, z_kOwnC, z_opc, z_opb, z_own, z_ownP, z_ownC, z_ownT, z_kLenO, z_lenO, z_lenP, z_kIsc, z_isc, z_bindX, z_kRai, z_rai, z_rai0, z_rai1, z_rai2, z_hd, z_hdF, z_hdT, z_nm0, z_rm0, z_rm1, z_ht0, z_ht1, z_ht2, z_ht3, z_try, z_try0, z_tryX, z_kSX, z_clpG, z_clp0, z_calp0, z_kIscT, z_kSpl2, z_kSpl, z_spl, z_kJoi2, z_kJoi, z_joi, z_kMkc, z_mkc, z_mkcG, z_mkcH, z_mkcF, z_kAugf2, z_kAugf, z_augf, z_fns, z_ini, z_gl, z_xf, z_fa, z_pI, z_binC, z_ixC, z_stC, z_lenC, z_lenD, z_max, z_min, z_int, z_lenL, z_lenT, z_ten18, z_ix0, z_ix2, z_line0, z_line1, z_line2, z_line3, z_line4, z_line5, z_line6, z_line7, z_line8, z_q1, z_q2, z_q3, z_q4, z_q5, z_q6, z_q7, z_q8, z_q9, z_q10, z_q11, z_q12, z_q13, z_q14, z_q15, z_sqT, z_sqL, z_sqS, z_as1, z_as2, z_tupL, z_sumT, z_sum, z_w0, z_w1, z_augS, z_augA, z_fnd, z_lenA, z_lenB, z_rcA, z_mtA, z_lcat, z_lset, z_stA, z_ixA, z_ixM, z_i0, z_i1, z_i2, z_i3, z_fdiv2, z_fdiv6, z_fmod6, z_mul6, z_mul2, z_slT, z_slL, z_p1, z_p2, zu_hm, zu_hp1, zu_hp2, v_x_InvalidCourse, v_x_TooHigh, v_MOST_COURSES, v_MOST_KIND, v_NO_HOLES, v_SIDES, v_WIDTHS, beq_self_eq_true, Option.getD_some, Option.getD_none, List.getElem?_cons_zero, List.getElem?_cons_succ, Option.bind_some, Option.bind_none, id_eq, Option.map_some, Option.map_none, purs, noloc, setN, List.set_cons_zero, List.set_cons_succ, List.map_cons, List.map_nil, List.length_cons, List.length_nil, List.cons_append, List.nil_append, List.append_nil, List.replicate_succ, List.replicate_zero, Nat.reduceSub, Nat.reduceAdd, Nat.reduceEqDiff, Nat.reduceBEq, if_true, if_false, ↓reduceIte, Bool.not_true, Bool.not_false, decide_true, decide_false, isNon, dselP, eq_self, Bool.and_self, Bool.and_true, Bool.true_and, Int.cast_ofNat_Int, ef]
theorem alk_str (x : Str) (j : Nat) : alk j (.str x) := by cases j <;> trivial
theorem alk_bl (x : Bool) (j : Nat) : alk j (.bl x) := by cases j <;> trivial
theorem alk_enc (c : Crs) (j : Nat) : alk (j + 2) (enc c) := by
  cases c with
  | lid k =>
    refine ⟨by simp, fun p hp => ?_⟩
    simp only [List.mem_cons, List.not_mem_nil, or_false] at hp
    rcases hp with rfl | rfl
    · exact alk_str _ _
    · exact alk_int _ _
  | wall w l b h0 h1 h2 m0 m1 =>
    refine ⟨by simp, fun p hp => ?_⟩
    simp only [List.mem_cons, List.not_mem_nil, or_false] at hp
    rcases hp with rfl | rfl | rfl | rfl | rfl | rfl
    · exact alk_str _ _
    · exact alk_str _ _
    · exact alk_str _ _
    · exact alk_bl _ _
    · refine ⟨by simp, fun p hp => ?_⟩
      simp only [List.mem_cons, List.not_mem_nil, or_false] at hp
      rcases hp with rfl | rfl | rfl <;> exact alk_int _ _
    · refine ⟨by simp, fun p hp => ?_⟩
      simp only [List.mem_cons, List.not_mem_nil, or_false] at hp
      rcases hp with rfl | rfl <;> exact alk_int _ _
theorem alk_encs {cs : List Crs} (h : cs.length ≤ 1000) : alk 3 (.tup (cs.map enc)) := by
  refine ⟨by rw [List.length_map]; omega, fun p hp => ?_⟩
  obtain ⟨c, _, rfl⟩ := List.mem_map.mp hp
  exact alk_enc c 0
end HL
end

section
set_option Elab.async false
set_option linter.all false
set_option maxRecDepth 100000
set_option maxHeartbeats 1000000
/-! U28: courses and things that are none -/
namespace HL
open PySem Ev
/-! ### mirrored -/
def mir : Crs → Crs
  | .lid k => .lid k
  | .wall w l b h0 h1 h2 m0 m1 => .wall w (!l) (!b) h0 h1 h2 m0 m1
theorem okC_mir {c : Crs} (h : okC c) : okC (mir c) := by cases c <;> exact h
theorem okC_mirs {cs : List Crs} (ok : ∀ c ∈ cs, okC c) : ∀ c ∈ cs.map mir, okC c := fun d hd => by
  obtain ⟨c, hc, rfl⟩ := List.mem_map.mp hd
  exact okC_mir (ok c hc)
theorem mc_ok (c : Crs) : F_mirrored_course [.pur (enc c)] [] = .ok (.pur (enc (mir c))) [] := by
  cases c with
  | lid k =>
    unfold enc mir
    unfold F_mirrored_course d_mirrored_course b_mirrored_course
    simp only [g_mirrored_course_x, g_mirrored_course_g, g_mirrored_course_a, z_bind, z_st, z_pS, z_slot, z_cst, z_glb, z_kTup, z_kLst, z_kLstL, z_kLstC, z_kBin2, z_kBin, z_kNeg, z_kCmp2, z_kCmp, z_kChn2, z_kChn, z_kNot, z_kIte, z_kIdx2, z_kIdx, z_kSlc3, z_kSlc2, z_kSlc, z_kSome, z_kRev, z_kDsel2, z_kDsel, z_kIsi, z_kIsT, z_kBif, z_kListC, z_kLrg, z_lrg, z_kMth2, z_kMth, z_kFld, z_kCall, z_kCalp, z_kMkf, z_kLc, z_tup, z_lst, z_lstL, z_lstC, z_bin, z_neg, z_cmp, z_chn, z_bop, z_not, z_ite, z_idx, z_slc, z_rev, z_dsel, z_isi, z_isT, z_bif, z_listC, z_mth, z_fld, z_call, z_calp, z_mkf, z_frz, z_nil, z_kCons2, z_kCons, z_kStar2, z_kStar, z_kB, z_cons, z_star, z_b1, z_b2, z_o0, z_o1, z_kSeq, z_kEnu, z_kRng1, z_kRng3, z_kRng2, z_kC, z_seq, z_enu, z_c0, z_c1, z_kAsg, z_kUnp, z_kPar, z_kSto26, z_kSto25, z_kSto24, z_kSto23, z_kSto22, z_sto2, z_kSto3, z_kSto2, z_kSto, z_kAugs3, z_kAugs2, z_kAugs, z_kAug, z_kStf2, z_kStf, z_kExp, z_kRet, z_kIfs, z_kFor, z_kS, z_asg, z_unp, z_par, z_sto, z_augs, z_aug, z_stf, z_exp, z_ret, z_ret0, z_ifs, z_forr, z_whil, z_pas, z_brk, z_con, z_snil, z_scons, z_callU, z_callH, z_callG, z_callX, z_calpU, z_calpH, z_calpG, z_calpX, z_runU, z_run1, z_run2, z_run3, z_run4, z_dat, z_at0, z_at1, z_at2, z_at3, z_at4, z_at5, z_ixT, z_ixL, z_pp, z_add, z_sub, z_mulS, z_mulT, z_mulL, z_lt, z_le, z_gt, z_ge, z_eqI, z_neI, z_eqS, z_isN, z_isnN, z_methH, z_kMeth2, z_kMeth, z_meth, z_recP, z_calmP, z_calmC, z_prpG, z_prpP, z_kProp, z_prop, z_objP, z_kOwn2, z_kOwn, z_kOwnC2, z_kOwnC, z_opc, z_opb, z_own, z_ownP, z_ownC, z_ownT, z_kLenO, z_lenO, z_lenP, z_kIsc, z_isc, z_bindX, z_kRai, z_rai, z_rai0, z_rai1, z_rai2, z_hd, z_hdF, z_hdT, z_nm0, z_rm0, z_rm1, z_ht0, z_ht1, z_ht2, z_ht3, z_try, z_try0, z_tryX, z_kSX, z_clpG, z_clp0, z_calp0, z_kIscT, z_kSpl2, z_kSpl, z_spl, z_kJoi2, z_kJoi, z_joi, z_kMkc, z_mkc, z_mkcG, z_mkcH, z_mkcF, z_kAugf2, z_kAugf, z_augf, z_fns, z_ini, z_gl, z_xf, z_fa, z_pI, z_binC, z_ixC, z_stC, z_lenC, z_lenD, z_max, z_min, z_int, z_lenL, z_lenT, z_ten18, z_ix0, z_ix2, z_line0, z_line1, z_line2, z_line3, z_line4, z_line5, z_line6, z_line7, z_line8, z_q1, z_q2, z_q3, z_q4, z_q5, z_q6, z_q7, z_q8, z_q9, z_q10, z_q11, z_q12, z_q13, z_q14, z_q15, z_sqT, z_sqL, z_sqS, z_as1, z_as2, z_tupL, z_sumT, z_sum, z_w0, z_w1, z_augS, z_augA, z_fnd, z_lenA, z_lenB, z_rcA, z_mtA, z_lcat, z_lset, z_stA, z_ixA, z_ixM, z_i0, z_i1, z_i2, z_i3, z_fdiv2, z_fdiv6, z_fmod6, z_mul6, z_mul2, z_slT, z_slL, z_p1, z_p2, zu_hm, zu_hp1, zu_hp2, v_x_InvalidCourse, v_x_TooHigh, v_MOST_COURSES, v_MOST_KIND, v_NO_HOLES, v_SIDES, v_WIDTHS, beq_self_eq_true, Option.getD_some, Option.getD_none, List.getElem?_cons_zero, List.getElem?_cons_succ, Option.bind_some, Option.bind_none, id_eq, Option.map_some, Option.map_none, purs, noloc, setN, List.set_cons_zero, List.set_cons_succ, List.map_cons, List.map_nil, List.length_cons, List.length_nil, List.cons_append, List.nil_append, List.append_nil, List.replicate_succ, List.replicate_zero, Nat.reduceSub, Nat.reduceAdd, Nat.reduceEqDiff, Nat.reduceBEq, if_true, if_false, ↓reduceIte, Bool.not_true, Bool.not_false, decide_true, decide_false, isNon, dselP, eq_self, Bool.and_self, Bool.and_true, Bool.true_and, Int.cast_ofNat_Int]
  | wall w l b h0 h1 h2 m0 m1 =>
    cases l <;>
    · unfold enc mir
      unfold F_mirrored_course d_mirrored_course b_mirrored_course
      simp only [g_mirrored_course_x, g_mirrored_course_g, g_mirrored_course_a, z_bind, z_st, z_pS, z_slot, z_cst, z_glb, z_kTup, z_kLst, z_kLstL, z_kLstC, z_kBin2, z_kBin, z_kNeg, z_kCmp2, z_kCmp, z_kChn2, z_kChn, z_kNot, z_kIte, z_kIdx2, z_kIdx, z_kSlc3, z_kSlc2, z_kSlc, z_kSome, z_kRev, z_kDsel2, z_kDsel, z_kIsi, z_kIsT, z_kBif, z_kListC, z_kLrg, z_lrg, z_kMth2, z_kMth, z_kFld, z_kCall, z_kCalp, z_kMkf, z_kLc, z_tup, z_lst, z_lstL, z_lstC, z_bin, z_neg, z_cmp, z_chn, z_bop, z_not, z_ite, z_idx, z_slc, z_rev, z_dsel, z_isi, z_isT, z_bif, z_listC, z_mth, z_fld, z_call, z_calp, z_mkf, z_frz, z_nil, z_kCons2, z_kCons, z_kStar2, z_kStar, z_kB, z_cons, z_star, z_b1, z_b2, z_o0, z_o1, z_kSeq, z_kEnu, z_kRng1, z_kRng3, z_kRng2, z_kC, z_seq, z_enu, z_c0, z_c1, z_kAsg, z_kUnp, z_kPar, z_kSto26, z_kSto25, z_kSto24, z_kSto23, z_kSto22, z_sto2, z_kSto3, z_kSto2, z_kSto, z_kAugs3, z_kAugs2, z_kAugs, z_kAug, z_kStf2, z_kStf, z_kExp, z_kRet, z_kIfs, z_kFor, z_kS, z_asg, z_unp, z_par, z_sto, z_augs, z_aug, z_stf, z_exp, z_ret, z_ret0, z_ifs, z_forr, z_whil, z_pas, z_brk, z_con, z_snil, z_scons, z_callU, z_callH, z_callG, z_callX, z_calpU, z_calpH, z_calpG, z_calpX, z_runU, z_run1, z_run2, z_run3, z_run4, z_dat, z_at0, z_at1, z_at2, z_at3, z_at4, z_at5, z_ixT, z_ixL, z_pp, z_add, z_sub, z_mulS, z_mulT, z_mulL, z_lt, z_le, z_gt, z_ge, z_eqI, z_neI, z_eqS, z_isN, z_isnN, z_methH, z_kMeth2, z_kMeth, z_meth, z_recP, z_calmP, z_calmC, z_prpG, z_prpP, z_kProp, z_prop, z_objP, z_kOwn2, z_kOwn, z_kOwnC2, z_kOwnC, z_opc, z_opb, z_own, z_ownP, z_ownC, z_ownT, z_kLenO, z_lenO, z_lenP, z_kIsc, z_isc, z_bindX, z_kRai, z_rai, z_rai0, z_rai1, z_rai2, z_hd, z_hdF, z_hdT, z_nm0, z_rm0, z_rm1, z_ht0, z_ht1, z_ht2, z_ht3, z_try, z_try0, z_tryX, z_kSX, z_clpG, z_clp0, z_calp0, z_kIscT, z_kSpl2, z_kSpl, z_spl, z_kJoi2, z_kJoi, z_joi, z_kMkc, z_mkc, z_mkcG, z_mkcH, z_mkcF, z_kAugf2, z_kAugf, z_augf, z_fns, z_ini, z_gl, z_xf, z_fa, z_pI, z_binC, z_ixC, z_stC, z_lenC, z_lenD, z_max, z_min, z_int, z_lenL, z_lenT, z_ten18, z_ix0, z_ix2, z_line0, z_line1, z_line2, z_line3, z_line4, z_line5, z_line6, z_line7, z_line8, z_q1, z_q2, z_q3, z_q4, z_q5, z_q6, z_q7, z_q8, z_q9, z_q10, z_q11, z_q12, z_q13, z_q14, z_q15, z_sqT, z_sqL, z_sqS, z_as1, z_as2, z_tupL, z_sumT, z_sum, z_w0, z_w1, z_augS, z_augA, z_fnd, z_lenA, z_lenB, z_rcA, z_mtA, z_lcat, z_lset, z_stA, z_ixA, z_ixM, z_i0, z_i1, z_i2, z_i3, z_fdiv2, z_fdiv6, z_fmod6, z_mul6, z_mul2, z_slT, z_slL, z_p1, z_p2, zu_hm, zu_hp1, zu_hp2, v_x_InvalidCourse, v_x_TooHigh, v_MOST_COURSES, v_MOST_KIND, v_NO_HOLES, v_SIDES, v_WIDTHS, beq_self_eq_true, Option.getD_some, Option.getD_none, List.getElem?_cons_zero, List.getElem?_cons_succ, Option.bind_some, Option.bind_none, id_eq, Option.map_some, Option.map_none, purs, noloc, setN, List.set_cons_zero, List.set_cons_succ, List.map_cons, List.map_nil, List.length_cons, List.length_nil, List.cons_append, List.nil_append, List.append_nil, List.replicate_succ, List.replicate_zero, Nat.reduceSub, Nat.reduceAdd, Nat.reduceEqDiff, Nat.reduceBEq, if_true, if_false, ↓reduceIte, Bool.not_true, Bool.not_false, decide_true, decide_false, isNon, dselP, eq_self, Bool.and_self, Bool.and_true, Bool.true_and, Int.cast_ofNat_Int, sS]
theorem mirrored_ok {cs : List Crs} (ok : ∀ c ∈ cs, okC c) (h1 : 1 ≤ cs.length) (h3 : cs.length ≤ 3) : F_Heap_mirrored [hp cs] [] = .ok (hp (cs.map mir)) [] := by
  have g1 := make_ok (okC_mirs ok) (by rw [List.length_map]; exact h1) (by rw [List.length_map]; exact h3)
  have ef := fld_ok cs
  unfold F_Heap_mirrored d_Heap_mirrored b_Heap_mirrored
  unfold hp at ef ⊢
  have ec : evE G_Heap_mirrored k_Heap_mirrored_1 { r := [some (.pur (.obj 0 ["layers"] [.tup (cs.map enc)])), none], m := [], l := [] } = .ok (.pur (.lst (cs.map fun c => enc (mir c)))) { r := [some (.pur (.obj 0 ["layers"] [.tup (cs.map enc)])), none], m := [], l := [] } := by
    unfold k_Heap_mirrored_1
    refine lc_map enc _ cs ?_ (by unfold line; omega) fun c _ => ⟨_, { r := [some (.pur (.obj 0 ["layers"] [.tup (cs.map enc)])), some (.pur (enc c))], m := [], l := [] }, rfl, ?_, rfl, rfl⟩
    · simp only [g_Heap_mirrored_x, g_Heap_mirrored_mirrored_course, g_Heap_mirrored_Heap, g_Heap_mirrored_g, g_Heap_mirrored_a, g_Heap_mirrored_x, g_Heap_mirrored_mirrored_course, g_Heap_mirrored_Heap, g_Heap_mirrored_g, g_Heap_mirrored_a, z_bind, z_st, z_pS, z_slot, z_cst, z_glb, z_kTup, z_kLst, z_kLstL, z_kLstC, z_kBin2, z_kBin, z_kNeg, z_kCmp2, z_kCmp, z_kChn2, z_kChn, z_kNot, z_kIte, z_kIdx2, z_kIdx, z_kSlc3, z_kSlc2, z_kSlc, z_kSome, z_kRev, z_kDsel2, z_kDsel, z_kIsi, z_kIsT, z_kBif, z_kListC, z_kLrg, z_lrg, z_kMth2, z_kMth, z_kFld, z_kCall, z_kCalp, z_kMkf, z_kLc, z_tup, z_lst, z_lstL, z_lstC, z_bin, z_neg, z_cmp, z_chn, z_bop, z_not, z_ite, z_idx, z_slc, z_rev, z_dsel, z_isi, z_isT, z_bif, z_listC, z_mth, z_fld, z_call, z_calp, z_mkf, z_frz, z_nil, z_kCons2, z_kCons, z_kStar2, z_kStar, z_kB, z_cons, z_star, z_b1, z_b2, z_o0, z_o1, z_kSeq, z_kEnu, z_kRng1, z_kRng3, z_kRng2, z_kC, z_seq, z_enu, z_c0, z_c1, z_kAsg, z_kUnp, z_kPar, z_kSto26, z_kSto25, z_kSto24, z_kSto23, z_kSto22, z_sto2, z_kSto3, z_kSto2, z_kSto, z_kAugs3, z_kAugs2, z_kAugs, z_kAug, z_kStf2, z_kStf, z_kExp, z_kRet, z_kIfs, z_kFor, z_kS, z_asg, z_unp, z_par, z_sto, z_augs, z_aug, z_stf, z_exp, z_ret, z_ret0, z_ifs, z_forr, z_whil, z_pas, z_brk, z_con, z_snil, z_scons, z_callU, z_callH, z_callG, z_callX, z_calpU, z_calpH, z_calpG, z_calpX, z_runU, z_run1, z_run2, z_run3, z_run4, z_dat, z_at0, z_at1, z_at2, z_at3, z_at4, z_at5, z_ixT, z_ixL, z_pp, z_add, z_sub, z_mulS, z_mulT, z_mulL, z_lt, z_le, z_gt, z_ge, z_eqI, z_neI, z_eqS, z_isN, z_isnN, z_methH, z_kMeth2, z_kMeth, z_meth, z_recP, z_calmP, z_calmC, z_prpG, z_prpP, z_kProp, z_prop, z_objP, z_kOwn2, z_kOwn, z_kOwnC2, z_kOwnC, z_opc, z_opb, z_own, z_ownP, z_ownC, z_ownT, z_kLenO, z_lenO, z_lenP, z_kIsc, z_isc, z_bindX, z_kRai, z_rai, z_rai0, z_rai1, z_rai2, z_hd, z_hdF, z_hdT, z_nm0, z_rm0, z_rm1, z_ht0, z_ht1, z_ht2, z_ht3, z_try, z_try0, z_tryX, z_kSX, z_clpG, z_clp0, z_calp0, z_kIscT, z_kSpl2, z_kSpl, z_spl, z_kJoi2, z_kJoi, z_joi, z_kMkc, z_mkc, z_mkcG, z_mkcH, z_mkcF, z_kAugf2, z_kAugf, z_augf, z_fns, z_ini, z_gl, z_xf, z_fa, z_pI, z_binC, z_ixC, z_stC, z_lenC, z_lenD, z_max, z_min, z_int, z_lenL, z_lenT, z_ten18, z_ix0, z_ix2, z_line0, z_line1, z_line2, z_line3, z_line4, z_line5, z_line6, z_line7, z_line8, z_q1, z_q2, z_q3, z_q4, z_q5, z_q6, z_q7, z_q8, z_q9, z_q10, z_q11, z_q12, z_q13, z_q14, z_q15, z_sqT, z_sqL, z_sqS, z_as1, z_as2, z_tupL, z_sumT, z_sum, z_w0, z_w1, z_augS, z_augA, z_fnd, z_lenA, z_lenB, z_rcA, z_mtA, z_lcat, z_lset, z_stA, z_ixA, z_ixM, z_i0, z_i1, z_i2, z_i3, z_fdiv2, z_fdiv6, z_fmod6, z_mul6, z_mul2, z_slT, z_slL, z_p1, z_p2, zu_hm, zu_hp1, zu_hp2, v_x_InvalidCourse, v_x_TooHigh, v_MOST_COURSES, v_MOST_KIND, v_NO_HOLES, v_SIDES, v_WIDTHS, beq_self_eq_true, Option.getD_some, Option.getD_none, List.getElem?_cons_zero, List.getElem?_cons_succ, Option.bind_some, Option.bind_none, id_eq, Option.map_some, Option.map_none, purs, noloc, setN, List.set_cons_zero, List.set_cons_succ, List.map_cons, List.map_nil, List.length_cons, List.length_nil, List.cons_append, List.nil_append, List.append_nil, List.replicate_succ, List.replicate_zero, Nat.reduceSub, Nat.reduceAdd, Nat.reduceEqDiff, Nat.reduceBEq, if_true, if_false, ↓reduceIte, Bool.not_true, Bool.not_false, decide_true, decide_false, isNon, dselP, eq_self, Bool.and_self, Bool.and_true, Bool.true_and, Int.cast_ofNat_Int, ef]
    · simp only [g_Heap_mirrored_x, g_Heap_mirrored_mirrored_course, g_Heap_mirrored_Heap, g_Heap_mirrored_g, g_Heap_mirrored_a, g_Heap_mirrored_x, g_Heap_mirrored_mirrored_course, g_Heap_mirrored_Heap, g_Heap_mirrored_g, g_Heap_mirrored_a, z_bind, z_st, z_pS, z_slot, z_cst, z_glb, z_kTup, z_kLst, z_kLstL, z_kLstC, z_kBin2, z_kBin, z_kNeg, z_kCmp2, z_kCmp, z_kChn2, z_kChn, z_kNot, z_kIte, z_kIdx2, z_kIdx, z_kSlc3, z_kSlc2, z_kSlc, z_kSome, z_kRev, z_kDsel2, z_kDsel, z_kIsi, z_kIsT, z_kBif, z_kListC, z_kLrg, z_lrg, z_kMth2, z_kMth, z_kFld, z_kCall, z_kCalp, z_kMkf, z_kLc, z_tup, z_lst, z_lstL, z_lstC, z_bin, z_neg, z_cmp, z_chn, z_bop, z_not, z_ite, z_idx, z_slc, z_rev, z_dsel, z_isi, z_isT, z_bif, z_listC, z_mth, z_fld, z_call, z_calp, z_mkf, z_frz, z_nil, z_kCons2, z_kCons, z_kStar2, z_kStar, z_kB, z_cons, z_star, z_b1, z_b2, z_o0, z_o1, z_kSeq, z_kEnu, z_kRng1, z_kRng3, z_kRng2, z_kC, z_seq, z_enu, z_c0, z_c1, z_kAsg, z_kUnp, z_kPar, z_kSto26, z_kSto25, z_kSto24, z_kSto23, z_kSto22, z_sto2, z_kSto3, z_kSto2, z_kSto, z_kAugs3, z_kAugs2, z_kAugs, z_kAug, z_kStf2, z_kStf, z_kExp, z_kRet, z_kIfs, z_kFor, z_kS, z_asg, z_unp, z_par, z_sto, z_augs, z_aug, z_stf, z_exp, z_ret, z_ret0, z_ifs, z_forr, z_whil, z_pas, z_brk, z_con, z_snil, z_scons, z_callU, z_callH, z_callG, z_callX, z_calpU, z_calpH, z_calpG, z_calpX, z_runU, z_run1, z_run2, z_run3, z_run4, z_dat, z_at0, z_at1, z_at2, z_at3, z_at4, z_at5, z_ixT, z_ixL, z_pp, z_add, z_sub, z_mulS, z_mulT, z_mulL, z_lt, z_le, z_gt, z_ge, z_eqI, z_neI, z_eqS, z_isN, z_isnN, z_methH, z_kMeth2, z_kMeth, z_meth, z_recP, z_calmP, z_calmC, z_prpG, z_prpP, z_kProp, z_prop, z_objP, z_kOwn2, z_kOwn, z_kOwnC2, z_kOwnC, z_opc, z_opb, z_own, z_ownP, z_ownC, z_ownT, z_kLenO, z_lenO, z_lenP, z_kIsc, z_isc, z_bindX, z_kRai, z_rai, z_rai0, z_rai1, z_rai2, z_hd, z_hdF, z_hdT, z_nm0, z_rm0, z_rm1, z_ht0, z_ht1, z_ht2, z_ht3, z_try, z_try0, z_tryX, z_kSX, z_clpG, z_clp0, z_calp0, z_kIscT, z_kSpl2, z_kSpl, z_spl, z_kJoi2, z_kJoi, z_joi, z_kMkc, z_mkc, z_mkcG, z_mkcH, z_mkcF, z_kAugf2, z_kAugf, z_augf, z_fns, z_ini, z_gl, z_xf, z_fa, z_pI, z_binC, z_ixC, z_stC, z_lenC, z_lenD, z_max, z_min, z_int, z_lenL, z_lenT, z_ten18, z_ix0, z_ix2, z_line0, z_line1, z_line2, z_line3, z_line4, z_line5, z_line6, z_line7, z_line8, z_q1, z_q2, z_q3, z_q4, z_q5, z_q6, z_q7, z_q8, z_q9, z_q10, z_q11, z_q12, z_q13, z_q14, z_q15, z_sqT, z_sqL, z_sqS, z_as1, z_as2, z_tupL, z_sumT, z_sum, z_w0, z_w1, z_augS, z_augA, z_fnd, z_lenA, z_lenB, z_rcA, z_mtA, z_lcat, z_lset, z_stA, z_ixA, z_ixM, z_i0, z_i1, z_i2, z_i3, z_fdiv2, z_fdiv6, z_fmod6, z_mul6, z_mul2, z_slT, z_slL, z_p1, z_p2, zu_hm, zu_hp1, zu_hp2, v_x_InvalidCourse, v_x_TooHigh, v_MOST_COURSES, v_MOST_KIND, v_NO_HOLES, v_SIDES, v_WIDTHS, beq_self_eq_true, Option.getD_some, Option.getD_none, List.getElem?_cons_zero, List.getElem?_cons_succ, Option.bind_some, Option.bind_none, id_eq, Option.map_some, Option.map_none, purs, noloc, setN, List.set_cons_zero, List.set_cons_succ, List.map_cons, List.map_nil, List.length_cons, List.length_nil, List.cons_append, List.nil_append, List.append_nil, List.replicate_succ, List.replicate_zero, Nat.reduceSub, Nat.reduceAdd, Nat.reduceEqDiff, Nat.reduceBEq, if_true, if_false, ↓reduceIte, Bool.not_true, Bool.not_false, decide_true, decide_false, isNon, dselP, eq_self, Bool.and_self, Bool.and_true, Bool.true_and, Int.cast_ofNat_Int, mc_ok]
  have em : (cs.map fun c => enc (mir c)) = (cs.map mir).map enc := by rw [List.map_map]; rfl
  rw [em] at ec
  unfold hp at g1
  simp only [g_Heap_mirrored_x, g_Heap_mirrored_mirrored_course, g_Heap_mirrored_Heap, g_Heap_mirrored_g, g_Heap_mirrored_a, z_bind, z_st, z_pS, z_slot, z_cst, z_glb, z_kTup, z_kLst, z_kLstL, z_kLstC, z_kBin2, z_kBin, z_kNeg, z_kCmp2, z_kCmp, z_kChn2, z_kChn, z_kNot, z_kIte, z_kIdx2, z_kIdx, z_kSlc3, z_kSlc2, z_kSlc, z_kSome, z_kRev, z_kDsel2, z_kDsel, z_kIsi, z_kIsT, z_kBif, z_kListC, z_kLrg, z_lrg, z_kMth2, z_kMth, z_kFld, z_kCall, z_kCalp, z_kMkf, z_kLc, z_tup, z_lst, z_lstL, z_lstC, z_bin, z_neg, z_cmp, z_chn, z_bop, z_not, z_ite, z_idx, z_slc, z_rev, z_dsel, z_isi, z_isT, z_bif, z_listC, z_mth, z_fld, z_call, z_calp, z_mkf, z_frz, z_nil, z_kCons2, z_kCons, z_kStar2, z_kStar, z_kB, z_cons, z_star, z_b1, z_b2, z_o0, z_o1, z_kSeq, z_kEnu, z_kRng1, z_kRng3, z_kRng2, z_kC, z_seq, z_enu, z_c0, z_c1, z_kAsg, z_kUnp, z_kPar, z_kSto26, z_kSto25, z_kSto24, z_kSto23, z_kSto22, z_sto2, z_kSto3, z_kSto2, z_kSto, z_kAugs3, z_kAugs2, z_kAugs, z_kAug, z_kStf2, z_kStf, z_kExp, z_kRet, z_kIfs, z_kFor, z_kS, z_asg, z_unp, z_par, z_sto, z_augs, z_aug, z_stf, z_exp, z_ret, z_ret0, z_ifs, z_forr, z_whil, z_pas, z_brk, z_con, z_snil, z_scons, z_callU, z_callH, z_callG, z_callX, z_calpU, z_calpH, z_calpG, z_calpX, z_runU, z_run1, z_run2, z_run3, z_run4, z_dat, z_at0, z_at1, z_at2, z_at3, z_at4, z_at5, z_ixT, z_ixL, z_pp, z_add, z_sub, z_mulS, z_mulT, z_mulL, z_lt, z_le, z_gt, z_ge, z_eqI, z_neI, z_eqS, z_isN, z_isnN, z_methH, z_kMeth2, z_kMeth, z_meth, z_recP, z_calmP, z_calmC, z_prpG, z_prpP, z_kProp, z_prop, z_objP, z_kOwn2, z_kOwn, z_kOwnC2, z_kOwnC, z_opc, z_opb, z_own, z_ownP, z_ownC, z_ownT, z_kLenO, z_lenO, z_lenP, z_kIsc, z_isc, z_bindX, z_kRai, z_rai, z_rai0, z_rai1, z_rai2, z_hd, z_hdF, z_hdT, z_nm0, z_rm0, z_rm1, z_ht0, z_ht1, z_ht2, z_ht3, z_try, z_try0, z_tryX, z_kSX, z_clpG, z_clp0, z_calp0, z_kIscT, z_kSpl2, z_kSpl, z_spl, z_kJoi2, z_kJoi, z_joi, z_kMkc, z_mkc, z_mkcG, z_mkcH, z_mkcF, z_kAugf2, z_kAugf, z_augf, z_fns, z_ini, z_gl, z_xf, z_fa, z_pI, z_binC, z_ixC, z_stC, z_lenC, z_lenD, z_max, z_min, z_int, z_lenL, z_lenT, z_ten18, z_ix0, z_ix2, z_line0, z_line1, z_line2, z_line3, z_line4, z_line5, z_line6, z_line7, z_line8, z_q1, z_q2, z_q3, z_q4, z_q5, z_q6, z_q7, z_q8, z_q9, z_q10, z_q11, z_q12, z_q13, z_q14, z_q15, z_sqT, z_sqL, z_sqS, z_as1, z_as2, z_tupL, z_sumT, z_sum, z_w0, z_w1, z_augS, z_augA, z_fnd, z_lenA, z_lenB, z_rcA, z_mtA, z_lcat, z_lset, z_stA, z_ixA, z_ixM, z_i0, z_i1, z_i2, z_i3, z_fdiv2, z_fdiv6, z_fmod6, z_mul6, z_mul2, z_slT, z_slL, z_p1, z_p2, zu_hm, zu_hp1, zu_hp2, v_x_InvalidCourse, v_x_TooHigh, v_MOST_COURSES, v_MOST_KIND, v_NO_HOLES, v_SIDES, v_WIDTHS, beq_self_eq_true, Option.getD_some, Option.getD_none, List.getElem?_cons_zero, List.getElem?_cons_succ, Option.bind_some, Option.bind_none, id_eq, Option.map_some, Option.map_none, purs, noloc, setN, List.set_cons_zero, List.set_cons_succ, List.map_cons, List.map_nil, List.length_cons, List.length_nil, List.cons_append, List.nil_append, List.append_nil, List.replicate_succ, List.replicate_zero, Nat.reduceSub, Nat.reduceAdd, Nat.reduceEqDiff, Nat.reduceBEq, if_true, if_false, ↓reduceIte, Bool.not_true, Bool.not_false, decide_true, decide_false, isNon, dselP, eq_self, Bool.and_self, Bool.and_true, Bool.true_and, Int.cast_ofNat_Int, ec, g1]
theorem addTT {xs ys : List P} : binP .Add (.tup xs) (.tup ys) = if xs.length + ys.length ≤ line then some (.tup (xs ++ ys)) else none := (rfl)
theorem lnN {n : Nat} (h : n ≤ 100) : n ≤ line := by unfold line; omega
theorem lmir_ok (c : Crs) : F__law_mirror [.pur (enc c)] [] = .ok (.pur (enc (mir c))) [] := by
  cases c with
  | lid k =>
    unfold enc mir
    unfold F__law_mirror d__law_mirror b__law_mirror
    simp only [g__law_mirror_x, g__law_mirror_g, g__law_mirror_a, z_bind, z_st, z_pS, z_slot, z_cst, z_glb, z_kTup, z_kLst, z_kLstL, z_kLstC, z_kBin2, z_kBin, z_kNeg, z_kCmp2, z_kCmp, z_kChn2, z_kChn, z_kNot, z_kIte, z_kIdx2, z_kIdx, z_kSlc3, z_kSlc2, z_kSlc, z_kSome, z_kRev, z_kDsel2, z_kDsel, z_kIsi, z_kIsT, z_kBif, z_kListC, z_kLrg, z_lrg, z_kMth2, z_kMth, z_kFld, z_kCall, z_kCalp, z_kMkf, z_kLc, z_tup, z_lst, z_lstL, z_lstC, z_bin, z_neg, z_cmp, z_chn, z_bop, z_not, z_ite, z_idx, z_slc, z_rev, z_dsel, z_isi, z_isT, z_bif, z_listC, z_mth, z_fld, z_call, z_calp, z_mkf, z_frz, z_nil, z_kCons2, z_kCons, z_kStar2, z_kStar, z_kB, z_cons, z_star, z_b1, z_b2, z_o0, z_o1, z_kSeq, z_kEnu, z_kRng1, z_kRng3, z_kRng2, z_kC, z_seq, z_enu, z_c0, z_c1, z_kAsg, z_kUnp, z_kPar, z_kSto26, z_kSto25, z_kSto24, z_kSto23, z_kSto22, z_sto2, z_kSto3, z_kSto2, z_kSto, z_kAugs3, z_kAugs2, z_kAugs, z_kAug, z_kStf2, z_kStf, z_kExp, z_kRet, z_kIfs, z_kFor, z_kS, z_asg, z_unp, z_par, z_sto, z_augs, z_aug, z_stf, z_exp, z_ret, z_ret0, z_ifs, z_forr, z_whil, z_pas, z_brk, z_con, z_snil, z_scons, z_callU, z_callH, z_callG, z_callX, z_calpU, z_calpH, z_calpG, z_calpX, z_runU, z_run1, z_run2, z_run3, z_run4, z_dat, z_at0, z_at1, z_at2, z_at3, z_at4, z_at5, z_ixT, z_ixL, z_pp, z_add, z_sub, z_mulS, z_mulT, z_mulL, z_lt, z_le, z_gt, z_ge, z_eqI, z_neI, z_eqS, z_isN, z_isnN, z_methH, z_kMeth2, z_kMeth, z_meth, z_recP, z_calmP, z_calmC, z_prpG, z_prpP, z_kProp, z_prop, z_objP, z_kOwn2, z_kOwn, z_kOwnC2, z_kOwnC, z_opc, z_opb, z_own, z_ownP, z_ownC, z_ownT, z_kLenO, z_lenO, z_lenP, z_kIsc, z_isc, z_bindX, z_kRai, z_rai, z_rai0, z_rai1, z_rai2, z_hd, z_hdF, z_hdT, z_nm0, z_rm0, z_rm1, z_ht0, z_ht1, z_ht2, z_ht3, z_try, z_try0, z_tryX, z_kSX, z_clpG, z_clp0, z_calp0, z_kIscT, z_kSpl2, z_kSpl, z_spl, z_kJoi2, z_kJoi, z_joi, z_kMkc, z_mkc, z_mkcG, z_mkcH, z_mkcF, z_kAugf2, z_kAugf, z_augf, z_fns, z_ini, z_gl, z_xf, z_fa, z_pI, z_binC, z_ixC, z_stC, z_lenC, z_lenD, z_max, z_min, z_int, z_lenL, z_lenT, z_ten18, z_ix0, z_ix2, z_line0, z_line1, z_line2, z_line3, z_line4, z_line5, z_line6, z_line7, z_line8, z_q1, z_q2, z_q3, z_q4, z_q5, z_q6, z_q7, z_q8, z_q9, z_q10, z_q11, z_q12, z_q13, z_q14, z_q15, z_sqT, z_sqL, z_sqS, z_as1, z_as2, z_tupL, z_sumT, z_sum, z_w0, z_w1, z_augS, z_augA, z_fnd, z_lenA, z_lenB, z_rcA, z_mtA, z_lcat, z_lset, z_stA, z_ixA, z_ixM, z_i0, z_i1, z_i2, z_i3, z_fdiv2, z_fdiv6, z_fmod6, z_mul6, z_mul2, z_slT, z_slL, z_p1, z_p2, zu_hm, zu_hp1, zu_hp2, v_x_InvalidCourse, v_x_TooHigh, v_MOST_COURSES, v_MOST_KIND, v_NO_HOLES, v_SIDES, v_WIDTHS, beq_self_eq_true, Option.getD_some, Option.getD_none, List.getElem?_cons_zero, List.getElem?_cons_succ, Option.bind_some, Option.bind_none, id_eq, Option.map_some, Option.map_none, purs, noloc, setN, List.set_cons_zero, List.set_cons_succ, List.map_cons, List.map_nil, List.length_cons, List.length_nil, List.cons_append, List.nil_append, List.append_nil, List.replicate_succ, List.replicate_zero, Nat.reduceSub, Nat.reduceAdd, Nat.reduceEqDiff, Nat.reduceBEq, if_true, if_false, ↓reduceIte, Bool.not_true, Bool.not_false, decide_true, decide_false, isNon, dselP, eq_self, Bool.and_self, Bool.and_true, Bool.true_and, Int.cast_ofNat_Int]
  | wall w l b h0 h1 h2 m0 m1 =>
    have s1 : slcP (.tup [.str "wall", .str (wS w), .str (sS l), .bl b, .tup [.int h0, .int h1, .int h2], .tup [.int m0, .int m1]]) none (some 2) = some (.tup [.str "wall", .str (wS w)]) := by kernel_rfl
    have s2 : slcP (.tup [.str "wall", .str (wS w), .str (sS l), .bl b, .tup [.int h0, .int h1, .int h2], .tup [.int m0, .int m1]]) (some 4) none = some (.tup [.tup [.int h0, .int h1, .int h2], .tup [.int m0, .int m1]]) := by kernel_rfl
    have a1 : ∀ x y : P, binP .Add (.tup [.str "wall", .str (wS w)]) (.tup [x, y]) = some (.tup [.str "wall", .str (wS w), x, y]) := fun x y => by kernel_rfl
    have a2 : ∀ x y z u : P, binP .Add (.tup [.str "wall", .str (wS w), x, y]) (.tup [z, u]) = some (.tup [.str "wall", .str (wS w), x, y, z, u]) := fun x y z u => by kernel_rfl
    cases l
    · have d1 : dselP ["left", "right"] [.str "right", .str "left"] (.str "right") = some (.str "left") := by kernel_rfl
      unfold sS at s1 s2
      unfold enc mir
      unfold sS
      unfold F__law_mirror d__law_mirror b__law_mirror
      simp only [g__law_mirror_x, g__law_mirror_g, g__law_mirror_a, z_bind, z_st, z_pS, z_slot, z_cst, z_glb, z_kTup, z_kLst, z_kLstL, z_kLstC, z_kBin2, z_kBin, z_kNeg, z_kCmp2, z_kCmp, z_kChn2, z_kChn, z_kNot, z_kIte, z_kIdx2, z_kIdx, z_kSlc3, z_kSlc2, z_kSlc, z_kSome, z_kRev, z_kDsel2, z_kDsel, z_kIsi, z_kIsT, z_kBif, z_kListC, z_kLrg, z_lrg, z_kMth2, z_kMth, z_kFld, z_kCall, z_kCalp, z_kMkf, z_kLc, z_tup, z_lst, z_lstL, z_lstC, z_bin, z_neg, z_cmp, z_chn, z_bop, z_not, z_ite, z_idx, z_slc, z_rev, z_dsel, z_isi, z_isT, z_bif, z_listC, z_mth, z_fld, z_call, z_calp, z_mkf, z_frz, z_nil, z_kCons2, z_kCons, z_kStar2, z_kStar, z_kB, z_cons, z_star, z_b1, z_b2, z_o0, z_o1, z_kSeq, z_kEnu, z_kRng1, z_kRng3, z_kRng2, z_kC, z_seq, z_enu, z_c0, z_c1, z_kAsg, z_kUnp, z_kPar, z_kSto26, z_kSto25, z_kSto24, z_kSto23, z_kSto22, z_sto2, z_kSto3, z_kSto2, z_kSto, z_kAugs3, z_kAugs2, z_kAugs, z_kAug, z_kStf2, z_kStf, z_kExp, z_kRet, z_kIfs, z_kFor, z_kS, z_asg, z_unp, z_par, z_sto, z_augs, z_aug, z_stf, z_exp, z_ret, z_ret0, z_ifs, z_forr, z_whil, z_pas, z_brk, z_con, z_snil, z_scons, z_callU, z_callH, z_callG, z_callX, z_calpU, z_calpH, z_calpG, z_calpX, z_runU, z_run1, z_run2, z_run3, z_run4, z_dat, z_at0, z_at1, z_at2, z_at3, z_at4, z_at5, z_ixT, z_ixL, z_pp, z_add, z_sub, z_mulS, z_mulT, z_mulL, z_lt, z_le, z_gt, z_ge, z_eqI, z_neI, z_eqS, z_isN, z_isnN, z_methH, z_kMeth2, z_kMeth, z_meth, z_recP, z_calmP, z_calmC, z_prpG, z_prpP, z_kProp, z_prop, z_objP, z_kOwn2, z_kOwn, z_kOwnC2, z_kOwnC, z_opc, z_opb, z_own, z_ownP, z_ownC, z_ownT, z_kLenO, z_lenO, z_lenP, z_kIsc, z_isc, z_bindX, z_kRai, z_rai, z_rai0, z_rai1, z_rai2, z_hd, z_hdF, z_hdT, z_nm0, z_rm0, z_rm1, z_ht0, z_ht1, z_ht2, z_ht3, z_try, z_try0, z_tryX, z_kSX, z_clpG, z_clp0, z_calp0, z_kIscT, z_kSpl2, z_kSpl, z_spl, z_kJoi2, z_kJoi, z_joi, z_kMkc, z_mkc, z_mkcG, z_mkcH, z_mkcF, z_kAugf2, z_kAugf, z_augf, z_fns, z_ini, z_gl, z_xf, z_fa, z_pI, z_binC, z_ixC, z_stC, z_lenC, z_lenD, z_max, z_min, z_int, z_lenL, z_lenT, z_ten18, z_ix0, z_ix2, z_line0, z_line1, z_line2, z_line3, z_line4, z_line5, z_line6, z_line7, z_line8, z_q1, z_q2, z_q3, z_q4, z_q5, z_q6, z_q7, z_q8, z_q9, z_q10, z_q11, z_q12, z_q13, z_q14, z_q15, z_sqT, z_sqL, z_sqS, z_as1, z_as2, z_tupL, z_sumT, z_sum, z_w0, z_w1, z_augS, z_augA, z_fnd, z_lenA, z_lenB, z_rcA, z_mtA, z_lcat, z_lset, z_stA, z_ixA, z_ixM, z_i0, z_i1, z_i2, z_i3, z_fdiv2, z_fdiv6, z_fmod6, z_mul6, z_mul2, z_slT, z_slL, z_p1, z_p2, zu_hm, zu_hp1, zu_hp2, v_x_InvalidCourse, v_x_TooHigh, v_MOST_COURSES, v_MOST_KIND, v_NO_HOLES, v_SIDES, v_WIDTHS, beq_self_eq_true, Option.getD_some, Option.getD_none, List.getElem?_cons_zero, List.getElem?_cons_succ, Option.bind_some, Option.bind_none, id_eq, Option.map_some, Option.map_none, purs, noloc, setN, List.set_cons_zero, List.set_cons_succ, List.map_cons, List.map_nil, List.length_cons, List.length_nil, List.cons_append, List.nil_append, List.append_nil, List.replicate_succ, List.replicate_zero, Nat.reduceSub, Nat.reduceAdd, Nat.reduceEqDiff, Nat.reduceBEq, if_true, if_false, ↓reduceIte, Bool.not_true, Bool.not_false, decide_true, decide_false, isNon, dselP, eq_self, Bool.and_self, Bool.and_true, Bool.true_and, Int.cast_ofNat_Int, s1, s2, a1, a2, Bool.false_eq_true]
    · have d1 : dselP ["left", "right"] [.str "right", .str "left"] (.str "left") = some (.str "right") := by kernel_rfl
      unfold sS at s1 s2
      unfold enc mir
      unfold sS
      unfold F__law_mirror d__law_mirror b__law_mirror
      simp only [g__law_mirror_x, g__law_mirror_g, g__law_mirror_a, z_bind, z_st, z_pS, z_slot, z_cst, z_glb, z_kTup, z_kLst, z_kLstL, z_kLstC, z_kBin2, z_kBin, z_kNeg, z_kCmp2, z_kCmp, z_kChn2, z_kChn, z_kNot, z_kIte, z_kIdx2, z_kIdx, z_kSlc3, z_kSlc2, z_kSlc, z_kSome, z_kRev, z_kDsel2, z_kDsel, z_kIsi, z_kIsT, z_kBif, z_kListC, z_kLrg, z_lrg, z_kMth2, z_kMth, z_kFld, z_kCall, z_kCalp, z_kMkf, z_kLc, z_tup, z_lst, z_lstL, z_lstC, z_bin, z_neg, z_cmp, z_chn, z_bop, z_not, z_ite, z_idx, z_slc, z_rev, z_dsel, z_isi, z_isT, z_bif, z_listC, z_mth, z_fld, z_call, z_calp, z_mkf, z_frz, z_nil, z_kCons2, z_kCons, z_kStar2, z_kStar, z_kB, z_cons, z_star, z_b1, z_b2, z_o0, z_o1, z_kSeq, z_kEnu, z_kRng1, z_kRng3, z_kRng2, z_kC, z_seq, z_enu, z_c0, z_c1, z_kAsg, z_kUnp, z_kPar, z_kSto26, z_kSto25, z_kSto24, z_kSto23, z_kSto22, z_sto2, z_kSto3, z_kSto2, z_kSto, z_kAugs3, z_kAugs2, z_kAugs, z_kAug, z_kStf2, z_kStf, z_kExp, z_kRet, z_kIfs, z_kFor, z_kS, z_asg, z_unp, z_par, z_sto, z_augs, z_aug, z_stf, z_exp, z_ret, z_ret0, z_ifs, z_forr, z_whil, z_pas, z_brk, z_con, z_snil, z_scons, z_callU, z_callH, z_callG, z_callX, z_calpU, z_calpH, z_calpG, z_calpX, z_runU, z_run1, z_run2, z_run3, z_run4, z_dat, z_at0, z_at1, z_at2, z_at3, z_at4, z_at5, z_ixT, z_ixL, z_pp, z_add, z_sub, z_mulS, z_mulT, z_mulL, z_lt, z_le, z_gt, z_ge, z_eqI, z_neI, z_eqS, z_isN, z_isnN, z_methH, z_kMeth2, z_kMeth, z_meth, z_recP, z_calmP, z_calmC, z_prpG, z_prpP, z_kProp, z_prop, z_objP, z_kOwn2, z_kOwn, z_kOwnC2, z_kOwnC, z_opc, z_opb, z_own, z_ownP, z_ownC, z_ownT, z_kLenO, z_lenO, z_lenP, z_kIsc, z_isc, z_bindX, z_kRai, z_rai, z_rai0, z_rai1, z_rai2, z_hd, z_hdF, z_hdT, z_nm0, z_rm0, z_rm1, z_ht0, z_ht1, z_ht2, z_ht3, z_try, z_try0, z_tryX, z_kSX, z_clpG, z_clp0, z_calp0, z_kIscT, z_kSpl2, z_kSpl, z_spl, z_kJoi2, z_kJoi, z_joi, z_kMkc, z_mkc, z_mkcG, z_mkcH, z_mkcF, z_kAugf2, z_kAugf, z_augf, z_fns, z_ini, z_gl, z_xf, z_fa, z_pI, z_binC, z_ixC, z_stC, z_lenC, z_lenD, z_max, z_min, z_int, z_lenL, z_lenT, z_ten18, z_ix0, z_ix2, z_line0, z_line1, z_line2, z_line3, z_line4, z_line5, z_line6, z_line7, z_line8, z_q1, z_q2, z_q3, z_q4, z_q5, z_q6, z_q7, z_q8, z_q9, z_q10, z_q11, z_q12, z_q13, z_q14, z_q15, z_sqT, z_sqL, z_sqS, z_as1, z_as2, z_tupL, z_sumT, z_sum, z_w0, z_w1, z_augS, z_augA, z_fnd, z_lenA, z_lenB, z_rcA, z_mtA, z_lcat, z_lset, z_stA, z_ixA, z_ixM, z_i0, z_i1, z_i2, z_i3, z_fdiv2, z_fdiv6, z_fmod6, z_mul6, z_mul2, z_slT, z_slL, z_p1, z_p2, zu_hm, zu_hp1, zu_hp2, v_x_InvalidCourse, v_x_TooHigh, v_MOST_COURSES, v_MOST_KIND, v_NO_HOLES, v_SIDES, v_WIDTHS, beq_self_eq_true, Option.getD_some, Option.getD_none, List.getElem?_cons_zero, List.getElem?_cons_succ, Option.bind_some, Option.bind_none, id_eq, Option.map_some, Option.map_none, purs, noloc, setN, List.set_cons_zero, List.set_cons_succ, List.map_cons, List.map_nil, List.length_cons, List.length_nil, List.cons_append, List.nil_append, List.append_nil, List.replicate_succ, List.replicate_zero, Nat.reduceSub, Nat.reduceAdd, Nat.reduceEqDiff, Nat.reduceBEq, if_true, if_false, ↓reduceIte, Bool.not_true, Bool.not_false, decide_true, decide_false, isNon, dselP, eq_self, Bool.and_self, Bool.and_true, Bool.true_and, Int.cast_ofNat_Int, s1, s2, a1, a2, Bool.false_eq_true]
/-! ### things that are no courses -/
def sh (w s : Str) (b : P) (h m : P) : P := .tup [.str "wall", .str w, .str s, b, h, m]
def i3 (a b c : Int) : P := .tup [.int a, .int b, .int c]
def i2 (a b : Int) : P := .tup [.int a, .int b]
def oddP : List P := [.non, .tup [], .tup [.str "lid"], .tup [.str "lid", .int 3], .tup [.str "lid", .bl true], .tup [.str "lid", .int (-1)], .tup [.str "wall"],
  .lst [.str "lid", .int 0], .str "lid", .tup [.str "lid", .int 0, .int 0],
  sh "wide" "left" (.bl false) (i3 0 0 0) (i2 1 0), sh "full" "back" (.bl false) (i3 0 0 0) (i2 1 0), sh "full" "left" (.int 0) (i3 0 0 0) (i2 1 0),
  sh "full" "left" (.bl true) (i3 1 0 0) (i2 1 0), sh "full" "left" (.bl true) (i3 2 0 2) (i2 1 0), sh "full" "left" (.bl true) (i3 0 1 0) (i2 1 0), sh "full" "left" (.bl true) (i3 3 3 0) (i2 1 0),
  sh "full" "left" (.bl true) (i3 0 0 0) (i2 0 0), sh "full" "left" (.bl true) (i3 0 0 0) (i2 1 3), sh "full" "left" (.bl true) (.tup [.int 0, .int 0, .bl false]) (i2 1 0),
  sh "full" "left" (.bl true) (.lst [.int 0, .int 0, .int 0]) (i2 1 0), sh "full" "left" (.bl true) (i3 4 0 0) (i2 1 0)]
theorem odd_ev : F__law_odd [] [] = .ok (.pur (.lst oddP)) [] := by kernel_rfl
def isFl (r : RF) : Bool := match r with
  | .ok (.pur (.bl false)) [] => true
  | _ => false
theorem isFl_of {r : RF} (h : isFl r = true) : r = .ok (.pur (.bl false)) [] := by
  unfold isFl at h
  split at h
  · rfl
  · cases h
theorem odd_1 : (oddP.all fun p => isFl (F_is_course [.pur p] [])) = true := by kernel_rfl
theorem odd_2 : (oddP.all fun p => isFl (F__law_is_course [.pur p] [])) = true := by kernel_rfl
theorem lw_ok {v lo hi : Int} : F__law_whole [.pur (.int v), .pur (.int lo), .pur (.int hi)] [] = .ok (.pur (.bl (decide (lo ≤ v) && decide (v ≤ hi)))) [] := by
  unfold F__law_whole d__law_whole b__law_whole
  by_cases h : lo ≤ v
  · by_cases h2 : v ≤ hi
    · simp only [g__law_whole_x, g__law_whole_g, g__law_whole_a, z_bind, z_st, z_pS, z_slot, z_cst, z_glb, z_kTup, z_kLst, z_kLstL, z_kLstC, z_kBin2, z_kBin, z_kNeg, z_kCmp2, z_kCmp, z_kChn2, z_kChn, z_kNot, z_kIte, z_kIdx2, z_kIdx, z_kSlc3, z_kSlc2, z_kSlc, z_kSome, z_kRev, z_kDsel2, z_kDsel, z_kIsi, z_kIsT, z_kBif, z_kListC, z_kLrg, z_lrg, z_kMth2, z_kMth, z_kFld, z_kCall, z_kCalp, z_kMkf, z_kLc, z_tup, z_lst, z_lstL, z_lstC, z_bin, z_neg, z_cmp, z_chn, z_bop, z_not, z_ite, z_idx, z_slc, z_rev, z_dsel, z_isi, z_isT, z_bif, z_listC, z_mth, z_fld, z_call, z_calp, z_mkf, z_frz, z_nil, z_kCons2, z_kCons, z_kStar2, z_kStar, z_kB, z_cons, z_star, z_b1, z_b2, z_o0, z_o1, z_kSeq, z_kEnu, z_kRng1, z_kRng3, z_kRng2, z_kC, z_seq, z_enu, z_c0, z_c1, z_kAsg, z_kUnp, z_kPar, z_kSto26, z_kSto25, z_kSto24, z_kSto23, z_kSto22, z_sto2, z_kSto3, z_kSto2, z_kSto, z_kAugs3, z_kAugs2, z_kAugs, z_kAug, z_kStf2, z_kStf, z_kExp, z_kRet, z_kIfs, z_kFor, z_kS, z_asg, z_unp, z_par, z_sto, z_augs, z_aug, z_stf, z_exp, z_ret, z_ret0, z_ifs, z_forr, z_whil, z_pas, z_brk, z_con, z_snil, z_scons, z_callU, z_callH, z_callG, z_callX, z_calpU, z_calpH, z_calpG, z_calpX, z_runU, z_run1, z_run2, z_run3, z_run4, z_dat, z_at0, z_at1, z_at2, z_at3, z_at4, z_at5, z_ixT, z_ixL, z_pp, z_add, z_sub, z_mulS, z_mulT, z_mulL, z_lt, z_le, z_gt, z_ge, z_eqI, z_neI, z_eqS, z_isN, z_isnN, z_methH, z_kMeth2, z_kMeth, z_meth, z_recP, z_calmP, z_calmC, z_prpG, z_prpP, z_kProp, z_prop, z_objP, z_kOwn2, z_kOwn, z_kOwnC2, z_kOwnC, z_opc, z_opb, z_own, z_ownP, z_ownC, z_ownT, z_kLenO, z_lenO, z_lenP, z_kIsc, z_isc, z_bindX, z_kRai, z_rai, z_rai0, z_rai1, z_rai2, z_hd, z_hdF, z_hdT, z_nm0, z_rm0, z_rm1, z_ht0, z_ht1, z_ht2, z_ht3, z_try, z_try0, z_tryX, z_kSX, z_clpG, z_clp0, z_calp0, z_kIscT, z_kSpl2, z_kSpl, z_spl, z_kJoi2, z_kJoi, z_joi, z_kMkc, z_mkc, z_mkcG, z_mkcH, z_mkcF, z_kAugf2, z_kAugf, z_augf, z_fns, z_ini, z_gl, z_xf, z_fa, z_pI, z_binC, z_ixC, z_stC, z_lenC, z_lenD, z_max, z_min, z_int, z_lenL, z_lenT, z_ten18, z_ix0, z_ix2, z_line0, z_line1, z_line2, z_line3, z_line4, z_line5, z_line6, z_line7, z_line8, z_q1, z_q2, z_q3, z_q4, z_q5, z_q6, z_q7, z_q8, z_q9, z_q10, z_q11, z_q12, z_q13, z_q14, z_q15, z_sqT, z_sqL, z_sqS, z_as1, z_as2, z_tupL, z_sumT, z_sum, z_w0, z_w1, z_augS, z_augA, z_fnd, z_lenA, z_lenB, z_rcA, z_mtA, z_lcat, z_lset, z_stA, z_ixA, z_ixM, z_i0, z_i1, z_i2, z_i3, z_fdiv2, z_fdiv6, z_fmod6, z_mul6, z_mul2, z_slT, z_slL, z_p1, z_p2, zu_hm, zu_hp1, zu_hp2, v_x_InvalidCourse, v_x_TooHigh, v_MOST_COURSES, v_MOST_KIND, v_NO_HOLES, v_SIDES, v_WIDTHS, beq_self_eq_true, Option.getD_some, Option.getD_none, List.getElem?_cons_zero, List.getElem?_cons_succ, Option.bind_some, Option.bind_none, id_eq, Option.map_some, Option.map_none, purs, noloc, setN, List.set_cons_zero, List.set_cons_succ, List.map_cons, List.map_nil, List.length_cons, List.length_nil, List.cons_append, List.nil_append, List.append_nil, List.replicate_succ, List.replicate_zero, Nat.reduceSub, Nat.reduceAdd, Nat.reduceEqDiff, Nat.reduceBEq, if_true, if_false, ↓reduceIte, Bool.not_true, Bool.not_false, decide_true, decide_false, isNon, dselP, eq_self, Bool.and_self, Bool.and_true, Bool.true_and, Int.cast_ofNat_Int, isTy, h, h2]
    · simp only [g__law_whole_x, g__law_whole_g, g__law_whole_a, z_bind, z_st, z_pS, z_slot, z_cst, z_glb, z_kTup, z_kLst, z_kLstL, z_kLstC, z_kBin2, z_kBin, z_kNeg, z_kCmp2, z_kCmp, z_kChn2, z_kChn, z_kNot, z_kIte, z_kIdx2, z_kIdx, z_kSlc3, z_kSlc2, z_kSlc, z_kSome, z_kRev, z_kDsel2, z_kDsel, z_kIsi, z_kIsT, z_kBif, z_kListC, z_kLrg, z_lrg, z_kMth2, z_kMth, z_kFld, z_kCall, z_kCalp, z_kMkf, z_kLc, z_tup, z_lst, z_lstL, z_lstC, z_bin, z_neg, z_cmp, z_chn, z_bop, z_not, z_ite, z_idx, z_slc, z_rev, z_dsel, z_isi, z_isT, z_bif, z_listC, z_mth, z_fld, z_call, z_calp, z_mkf, z_frz, z_nil, z_kCons2, z_kCons, z_kStar2, z_kStar, z_kB, z_cons, z_star, z_b1, z_b2, z_o0, z_o1, z_kSeq, z_kEnu, z_kRng1, z_kRng3, z_kRng2, z_kC, z_seq, z_enu, z_c0, z_c1, z_kAsg, z_kUnp, z_kPar, z_kSto26, z_kSto25, z_kSto24, z_kSto23, z_kSto22, z_sto2, z_kSto3, z_kSto2, z_kSto, z_kAugs3, z_kAugs2, z_kAugs, z_kAug, z_kStf2, z_kStf, z_kExp, z_kRet, z_kIfs, z_kFor, z_kS, z_asg, z_unp, z_par, z_sto, z_augs, z_aug, z_stf, z_exp, z_ret, z_ret0, z_ifs, z_forr, z_whil, z_pas, z_brk, z_con, z_snil, z_scons, z_callU, z_callH, z_callG, z_callX, z_calpU, z_calpH, z_calpG, z_calpX, z_runU, z_run1, z_run2, z_run3, z_run4, z_dat, z_at0, z_at1, z_at2, z_at3, z_at4, z_at5, z_ixT, z_ixL, z_pp, z_add, z_sub, z_mulS, z_mulT, z_mulL, z_lt, z_le, z_gt, z_ge, z_eqI, z_neI, z_eqS, z_isN, z_isnN, z_methH, z_kMeth2, z_kMeth, z_meth, z_recP, z_calmP, z_calmC, z_prpG, z_prpP, z_kProp, z_prop, z_objP, z_kOwn2, z_kOwn, z_kOwnC2, z_kOwnC, z_opc, z_opb, z_own, z_ownP, z_ownC, z_ownT, z_kLenO, z_lenO, z_lenP, z_kIsc, z_isc, z_bindX, z_kRai, z_rai, z_rai0, z_rai1, z_rai2, z_hd, z_hdF, z_hdT, z_nm0, z_rm0, z_rm1, z_ht0, z_ht1, z_ht2, z_ht3, z_try, z_try0, z_tryX, z_kSX, z_clpG, z_clp0, z_calp0, z_kIscT, z_kSpl2, z_kSpl, z_spl, z_kJoi2, z_kJoi, z_joi, z_kMkc, z_mkc, z_mkcG, z_mkcH, z_mkcF, z_kAugf2, z_kAugf, z_augf, z_fns, z_ini, z_gl, z_xf, z_fa, z_pI, z_binC, z_ixC, z_stC, z_lenC, z_lenD, z_max, z_min, z_int, z_lenL, z_lenT, z_ten18, z_ix0, z_ix2, z_line0, z_line1, z_line2, z_line3, z_line4, z_line5, z_line6, z_line7, z_line8, z_q1, z_q2, z_q3, z_q4, z_q5, z_q6, z_q7, z_q8, z_q9, z_q10, z_q11, z_q12, z_q13, z_q14, z_q15, z_sqT, z_sqL, z_sqS, z_as1, z_as2, z_tupL, z_sumT, z_sum, z_w0, z_w1, z_augS, z_augA, z_fnd, z_lenA, z_lenB, z_rcA, z_mtA, z_lcat, z_lset, z_stA, z_ixA, z_ixM, z_i0, z_i1, z_i2, z_i3, z_fdiv2, z_fdiv6, z_fmod6, z_mul6, z_mul2, z_slT, z_slL, z_p1, z_p2, zu_hm, zu_hp1, zu_hp2, v_x_InvalidCourse, v_x_TooHigh, v_MOST_COURSES, v_MOST_KIND, v_NO_HOLES, v_SIDES, v_WIDTHS, beq_self_eq_true, Option.getD_some, Option.getD_none, List.getElem?_cons_zero, List.getElem?_cons_succ, Option.bind_some, Option.bind_none, id_eq, Option.map_some, Option.map_none, purs, noloc, setN, List.set_cons_zero, List.set_cons_succ, List.map_cons, List.map_nil, List.length_cons, List.length_nil, List.cons_append, List.nil_append, List.append_nil, List.replicate_succ, List.replicate_zero, Nat.reduceSub, Nat.reduceAdd, Nat.reduceEqDiff, Nat.reduceBEq, if_true, if_false, ↓reduceIte, Bool.not_true, Bool.not_false, decide_true, decide_false, isNon, dselP, eq_self, Bool.and_self, Bool.and_true, Bool.true_and, Int.cast_ofNat_Int, isTy, h, h2]
  · simp only [g__law_whole_x, g__law_whole_g, g__law_whole_a, z_bind, z_st, z_pS, z_slot, z_cst, z_glb, z_kTup, z_kLst, z_kLstL, z_kLstC, z_kBin2, z_kBin, z_kNeg, z_kCmp2, z_kCmp, z_kChn2, z_kChn, z_kNot, z_kIte, z_kIdx2, z_kIdx, z_kSlc3, z_kSlc2, z_kSlc, z_kSome, z_kRev, z_kDsel2, z_kDsel, z_kIsi, z_kIsT, z_kBif, z_kListC, z_kLrg, z_lrg, z_kMth2, z_kMth, z_kFld, z_kCall, z_kCalp, z_kMkf, z_kLc, z_tup, z_lst, z_lstL, z_lstC, z_bin, z_neg, z_cmp, z_chn, z_bop, z_not, z_ite, z_idx, z_slc, z_rev, z_dsel, z_isi, z_isT, z_bif, z_listC, z_mth, z_fld, z_call, z_calp, z_mkf, z_frz, z_nil, z_kCons2, z_kCons, z_kStar2, z_kStar, z_kB, z_cons, z_star, z_b1, z_b2, z_o0, z_o1, z_kSeq, z_kEnu, z_kRng1, z_kRng3, z_kRng2, z_kC, z_seq, z_enu, z_c0, z_c1, z_kAsg, z_kUnp, z_kPar, z_kSto26, z_kSto25, z_kSto24, z_kSto23, z_kSto22, z_sto2, z_kSto3, z_kSto2, z_kSto, z_kAugs3, z_kAugs2, z_kAugs, z_kAug, z_kStf2, z_kStf, z_kExp, z_kRet, z_kIfs, z_kFor, z_kS, z_asg, z_unp, z_par, z_sto, z_augs, z_aug, z_stf, z_exp, z_ret, z_ret0, z_ifs, z_forr, z_whil, z_pas, z_brk, z_con, z_snil, z_scons, z_callU, z_callH, z_callG, z_callX, z_calpU, z_calpH, z_calpG, z_calpX, z_runU, z_run1, z_run2, z_run3, z_run4, z_dat, z_at0, z_at1, z_at2, z_at3, z_at4, z_at5, z_ixT, z_ixL, z_pp, z_add, z_sub, z_mulS, z_mulT, z_mulL, z_lt, z_le, z_gt, z_ge, z_eqI, z_neI, z_eqS, z_isN, z_isnN, z_methH, z_kMeth2, z_kMeth, z_meth, z_recP, z_calmP, z_calmC, z_prpG, z_prpP, z_kProp, z_prop, z_objP, z_kOwn2, z_kOwn, z_kOwnC2, z_kOwnC, z_opc, z_opb, z_own, z_ownP, z_ownC, z_ownT, z_kLenO, z_lenO, z_lenP, z_kIsc, z_isc, z_bindX, z_kRai, z_rai, z_rai0, z_rai1, z_rai2, z_hd, z_hdF, z_hdT, z_nm0, z_rm0, z_rm1, z_ht0, z_ht1, z_ht2, z_ht3, z_try, z_try0, z_tryX, z_kSX, z_clpG, z_clp0, z_calp0, z_kIscT, z_kSpl2, z_kSpl, z_spl, z_kJoi2, z_kJoi, z_joi, z_kMkc, z_mkc, z_mkcG, z_mkcH, z_mkcF, z_kAugf2, z_kAugf, z_augf, z_fns, z_ini, z_gl, z_xf, z_fa, z_pI, z_binC, z_ixC, z_stC, z_lenC, z_lenD, z_max, z_min, z_int, z_lenL, z_lenT, z_ten18, z_ix0, z_ix2, z_line0, z_line1, z_line2, z_line3, z_line4, z_line5, z_line6, z_line7, z_line8, z_q1, z_q2, z_q3, z_q4, z_q5, z_q6, z_q7, z_q8, z_q9, z_q10, z_q11, z_q12, z_q13, z_q14, z_q15, z_sqT, z_sqL, z_sqS, z_as1, z_as2, z_tupL, z_sumT, z_sum, z_w0, z_w1, z_augS, z_augA, z_fnd, z_lenA, z_lenB, z_rcA, z_mtA, z_lcat, z_lset, z_stA, z_ixA, z_ixM, z_i0, z_i1, z_i2, z_i3, z_fdiv2, z_fdiv6, z_fmod6, z_mul6, z_mul2, z_slT, z_slL, z_p1, z_p2, zu_hm, zu_hp1, zu_hp2, v_x_InvalidCourse, v_x_TooHigh, v_MOST_COURSES, v_MOST_KIND, v_NO_HOLES, v_SIDES, v_WIDTHS, beq_self_eq_true, Option.getD_some, Option.getD_none, List.getElem?_cons_zero, List.getElem?_cons_succ, Option.bind_some, Option.bind_none, id_eq, Option.map_some, Option.map_none, purs, noloc, setN, List.set_cons_zero, List.set_cons_succ, List.map_cons, List.map_nil, List.length_cons, List.length_nil, List.cons_append, List.nil_append, List.append_nil, List.replicate_succ, List.replicate_zero, Nat.reduceSub, Nat.reduceAdd, Nat.reduceEqDiff, Nat.reduceBEq, if_true, if_false, ↓reduceIte, Bool.not_true, Bool.not_false, decide_true, decide_false, isNon, dselP, eq_self, Bool.and_self, Bool.and_true, Bool.true_and, Int.cast_ofNat_Int, isTy, h]
    rfl
theorem lw_t {v lo hi : Int} (h1 : lo ≤ v) (h2 : v ≤ hi) : F__law_whole [.pur (.int v), .pur (.int lo), .pur (.int hi)] [] = .ok (.pur (.bl true)) [] := by
  rw [lw_ok, decide_eq_true h1, decide_eq_true h2]
  rfl
theorem ni2 : cmpD .NotIn (.pur (.int 2)) (.pur (.lst [.int 2, .int 6])) = some false := by kernel_rfl
theorem ni6 : cmpD .NotIn (.pur (.int 6)) (.pur (.lst [.int 2, .int 6])) = some false := by kernel_rfl
theorem neS {x y : Str} : cmpD .NotEq (.pur (.str x)) (.pur (.str y)) = some (!(x == y)) := (rfl)
theorem qww : (("wall" : Str) == "wall") = true := by decide +kernel
theorem d26 : decide ((2 : Int) = 6) = false := by decide
theorem lcrs_ok (c : Crs) (ok : okC c) : F__law_is_course [.pur (enc c)] [] = .ok (.pur (.bl true)) [] := by
  cases c with
  | lid k =>
    have e := lw_t (lo := 0) (v := k) (hi := 2) ok.1 ok.2
    unfold F__law_is_course d__law_is_course b__law_is_course enc
    simp only [g__law_is_course_x, g__law_is_course__law_whole, g__law_is_course__law_is_shut, g__law_is_course_g, g__law_is_course_a, z_bind, z_st, z_pS, z_slot, z_cst, z_glb, z_kTup, z_kLst, z_kLstL, z_kLstC, z_kBin2, z_kBin, z_kNeg, z_kCmp2, z_kCmp, z_kChn2, z_kChn, z_kNot, z_kIte, z_kIdx2, z_kIdx, z_kSlc3, z_kSlc2, z_kSlc, z_kSome, z_kRev, z_kDsel2, z_kDsel, z_kIsi, z_kIsT, z_kBif, z_kListC, z_kLrg, z_lrg, z_kMth2, z_kMth, z_kFld, z_kCall, z_kCalp, z_kMkf, z_kLc, z_tup, z_lst, z_lstL, z_lstC, z_bin, z_neg, z_cmp, z_chn, z_bop, z_not, z_ite, z_idx, z_slc, z_rev, z_dsel, z_isi, z_isT, z_bif, z_listC, z_mth, z_fld, z_call, z_calp, z_mkf, z_frz, z_nil, z_kCons2, z_kCons, z_kStar2, z_kStar, z_kB, z_cons, z_star, z_b1, z_b2, z_o0, z_o1, z_kSeq, z_kEnu, z_kRng1, z_kRng3, z_kRng2, z_kC, z_seq, z_enu, z_c0, z_c1, z_kAsg, z_kUnp, z_kPar, z_kSto26, z_kSto25, z_kSto24, z_kSto23, z_kSto22, z_sto2, z_kSto3, z_kSto2, z_kSto, z_kAugs3, z_kAugs2, z_kAugs, z_kAug, z_kStf2, z_kStf, z_kExp, z_kRet, z_kIfs, z_kFor, z_kS, z_asg, z_unp, z_par, z_sto, z_augs, z_aug, z_stf, z_exp, z_ret, z_ret0, z_ifs, z_forr, z_whil, z_pas, z_brk, z_con, z_snil, z_scons, z_callU, z_callH, z_callG, z_callX, z_calpU, z_calpH, z_calpG, z_calpX, z_runU, z_run1, z_run2, z_run3, z_run4, z_dat, z_at0, z_at1, z_at2, z_at3, z_at4, z_at5, z_ixT, z_ixL, z_pp, z_add, z_sub, z_mulS, z_mulT, z_mulL, z_lt, z_le, z_gt, z_ge, z_eqI, z_neI, z_eqS, z_isN, z_isnN, z_methH, z_kMeth2, z_kMeth, z_meth, z_recP, z_calmP, z_calmC, z_prpG, z_prpP, z_kProp, z_prop, z_objP, z_kOwn2, z_kOwn, z_kOwnC2, z_kOwnC, z_opc, z_opb, z_own, z_ownP, z_ownC, z_ownT, z_kLenO, z_lenO, z_lenP, z_kIsc, z_isc, z_bindX, z_kRai, z_rai, z_rai0, z_rai1, z_rai2, z_hd, z_hdF, z_hdT, z_nm0, z_rm0, z_rm1, z_ht0, z_ht1, z_ht2, z_ht3, z_try, z_try0, z_tryX, z_kSX, z_clpG, z_clp0, z_calp0, z_kIscT, z_kSpl2, z_kSpl, z_spl, z_kJoi2, z_kJoi, z_joi, z_kMkc, z_mkc, z_mkcG, z_mkcH, z_mkcF, z_kAugf2, z_kAugf, z_augf, z_fns, z_ini, z_gl, z_xf, z_fa, z_pI, z_binC, z_ixC, z_stC, z_lenC, z_lenD, z_max, z_min, z_int, z_lenL, z_lenT, z_ten18, z_ix0, z_ix2, z_line0, z_line1, z_line2, z_line3, z_line4, z_line5, z_line6, z_line7, z_line8, z_q1, z_q2, z_q3, z_q4, z_q5, z_q6, z_q7, z_q8, z_q9, z_q10, z_q11, z_q12, z_q13, z_q14, z_q15, z_sqT, z_sqL, z_sqS, z_as1, z_as2, z_tupL, z_sumT, z_sum, z_w0, z_w1, z_augS, z_augA, z_fnd, z_lenA, z_lenB, z_rcA, z_mtA, z_lcat, z_lset, z_stA, z_ixA, z_ixM, z_i0, z_i1, z_i2, z_i3, z_fdiv2, z_fdiv6, z_fmod6, z_mul6, z_mul2, z_slT, z_slL, z_p1, z_p2, zu_hm, zu_hp1, zu_hp2, v_x_InvalidCourse, v_x_TooHigh, v_MOST_COURSES, v_MOST_KIND, v_NO_HOLES, v_SIDES, v_WIDTHS, beq_self_eq_true, Option.getD_some, Option.getD_none, List.getElem?_cons_zero, List.getElem?_cons_succ, Option.bind_some, Option.bind_none, id_eq, Option.map_some, Option.map_none, purs, noloc, setN, List.set_cons_zero, List.set_cons_succ, List.map_cons, List.map_nil, List.length_cons, List.length_nil, List.cons_append, List.nil_append, List.append_nil, List.replicate_succ, List.replicate_zero, Nat.reduceSub, Nat.reduceAdd, Nat.reduceEqDiff, Nat.reduceBEq, if_true, if_false, ↓reduceIte, Bool.not_true, Bool.not_false, decide_true, decide_false, isNon, dselP, eq_self, Bool.and_self, Bool.and_true, Bool.true_and, Int.cast_ofNat_Int, isTy, ni2, e, d26]
  | wall w l b h0 h1 h2 m0 m1 =>
    obtain ⟨a1, a2, a3, a4⟩ := ms_of ok.2
    have e1 : cmpD .NotIn (.pur (.str (wS w))) (.pur (.lst [.str "full", .str "less", .str "more"])) = some false := by cases w <;> kernel_rfl
    have e2 : cmpD .NotIn (.pur (.str (sS l))) (.pur (.lst [.str "left", .str "right"])) = some false := by cases l <;> kernel_rfl
    have w1 := lw_t (lo := 1) (v := m0) (hi := 3) (by omega) (by omega)
    have w2 := lw_t (lo := 0) (v := m1) (hi := 2) (by omega) (by omega)
    have hh := hs_of ok.1
    have w3 := lw_t (lo := 0) (v := h0) (hi := 3) (by omega) (by omega)
    have w4 := lw_t (lo := 0) (v := h1) (hi := 2) (by omega) (by omega)
    have w5 := lw_t (lo := 0) (v := h2) (hi := 2) (by omega) (by omega)
    have n1 : ¬ h0 = 1 := by omega
    have es : F__law_is_shut [.pur (.tup [.str "wall", .str (wS w), .str (sS l), .bl b, .tup [.int h0, .int h1, .int h2], .tup [.int m0, .int m1]])] [] = .ok (.pur (.bl true)) [] := by
      rcases hh with ⟨rfl, rfl, rfl⟩ | ⟨hk, b1, b2, b3, b4⟩
      · have e3 : cmpD .Eq (.pur (.tup [.int 0, .int 0, .int 0])) (.pur (.tup [.int 0, .int 0, .int 0])) = some true := by kernel_rfl
        unfold F__law_is_shut d__law_is_shut b__law_is_shut
        simp only [g__law_is_shut_x, g__law_is_shut__law_whole, g__law_is_shut_g, g__law_is_shut_a, z_bind, z_st, z_pS, z_slot, z_cst, z_glb, z_kTup, z_kLst, z_kLstL, z_kLstC, z_kBin2, z_kBin, z_kNeg, z_kCmp2, z_kCmp, z_kChn2, z_kChn, z_kNot, z_kIte, z_kIdx2, z_kIdx, z_kSlc3, z_kSlc2, z_kSlc, z_kSome, z_kRev, z_kDsel2, z_kDsel, z_kIsi, z_kIsT, z_kBif, z_kListC, z_kLrg, z_lrg, z_kMth2, z_kMth, z_kFld, z_kCall, z_kCalp, z_kMkf, z_kLc, z_tup, z_lst, z_lstL, z_lstC, z_bin, z_neg, z_cmp, z_chn, z_bop, z_not, z_ite, z_idx, z_slc, z_rev, z_dsel, z_isi, z_isT, z_bif, z_listC, z_mth, z_fld, z_call, z_calp, z_mkf, z_frz, z_nil, z_kCons2, z_kCons, z_kStar2, z_kStar, z_kB, z_cons, z_star, z_b1, z_b2, z_o0, z_o1, z_kSeq, z_kEnu, z_kRng1, z_kRng3, z_kRng2, z_kC, z_seq, z_enu, z_c0, z_c1, z_kAsg, z_kUnp, z_kPar, z_kSto26, z_kSto25, z_kSto24, z_kSto23, z_kSto22, z_sto2, z_kSto3, z_kSto2, z_kSto, z_kAugs3, z_kAugs2, z_kAugs, z_kAug, z_kStf2, z_kStf, z_kExp, z_kRet, z_kIfs, z_kFor, z_kS, z_asg, z_unp, z_par, z_sto, z_augs, z_aug, z_stf, z_exp, z_ret, z_ret0, z_ifs, z_forr, z_whil, z_pas, z_brk, z_con, z_snil, z_scons, z_callU, z_callH, z_callG, z_callX, z_calpU, z_calpH, z_calpG, z_calpX, z_runU, z_run1, z_run2, z_run3, z_run4, z_dat, z_at0, z_at1, z_at2, z_at3, z_at4, z_at5, z_ixT, z_ixL, z_pp, z_add, z_sub, z_mulS, z_mulT, z_mulL, z_lt, z_le, z_gt, z_ge, z_eqI, z_neI, z_eqS, z_isN, z_isnN, z_methH, z_kMeth2, z_kMeth, z_meth, z_recP, z_calmP, z_calmC, z_prpG, z_prpP, z_kProp, z_prop, z_objP, z_kOwn2, z_kOwn, z_kOwnC2, z_kOwnC, z_opc, z_opb, z_own, z_ownP, z_ownC, z_ownT, z_kLenO, z_lenO, z_lenP, z_kIsc, z_isc, z_bindX, z_kRai, z_rai, z_rai0, z_rai1, z_rai2, z_hd, z_hdF, z_hdT, z_nm0, z_rm0, z_rm1, z_ht0, z_ht1, z_ht2, z_ht3, z_try, z_try0, z_tryX, z_kSX, z_clpG, z_clp0, z_calp0, z_kIscT, z_kSpl2, z_kSpl, z_spl, z_kJoi2, z_kJoi, z_joi, z_kMkc, z_mkc, z_mkcG, z_mkcH, z_mkcF, z_kAugf2, z_kAugf, z_augf, z_fns, z_ini, z_gl, z_xf, z_fa, z_pI, z_binC, z_ixC, z_stC, z_lenC, z_lenD, z_max, z_min, z_int, z_lenL, z_lenT, z_ten18, z_ix0, z_ix2, z_line0, z_line1, z_line2, z_line3, z_line4, z_line5, z_line6, z_line7, z_line8, z_q1, z_q2, z_q3, z_q4, z_q5, z_q6, z_q7, z_q8, z_q9, z_q10, z_q11, z_q12, z_q13, z_q14, z_q15, z_sqT, z_sqL, z_sqS, z_as1, z_as2, z_tupL, z_sumT, z_sum, z_w0, z_w1, z_augS, z_augA, z_fnd, z_lenA, z_lenB, z_rcA, z_mtA, z_lcat, z_lset, z_stA, z_ixA, z_ixM, z_i0, z_i1, z_i2, z_i3, z_fdiv2, z_fdiv6, z_fmod6, z_mul6, z_mul2, z_slT, z_slL, z_p1, z_p2, zu_hm, zu_hp1, zu_hp2, v_x_InvalidCourse, v_x_TooHigh, v_MOST_COURSES, v_MOST_KIND, v_NO_HOLES, v_SIDES, v_WIDTHS, beq_self_eq_true, Option.getD_some, Option.getD_none, List.getElem?_cons_zero, List.getElem?_cons_succ, Option.bind_some, Option.bind_none, id_eq, Option.map_some, Option.map_none, purs, noloc, setN, List.set_cons_zero, List.set_cons_succ, List.map_cons, List.map_nil, List.length_cons, List.length_nil, List.cons_append, List.nil_append, List.append_nil, List.replicate_succ, List.replicate_zero, Nat.reduceSub, Nat.reduceAdd, Nat.reduceEqDiff, Nat.reduceBEq, if_true, if_false, ↓reduceIte, Bool.not_true, Bool.not_false, decide_true, decide_false, isNon, dselP, eq_self, Bool.and_self, Bool.and_true, Bool.true_and, Int.cast_ofNat_Int, isTy, neS, qww, e1, e2, e3, w1, w2, w3, w4, w5]
        rfl
      · have e3 : cmpD .Eq (.pur (.tup [.int h0, .int h1, .int h2])) (.pur (.tup [.int 0, .int 0, .int 0])) = some false := by
          rcases hk with rfl | rfl <;> kernel_rfl
        unfold F__law_is_shut d__law_is_shut b__law_is_shut
        simp only [g__law_is_shut_x, g__law_is_shut__law_whole, g__law_is_shut_g, g__law_is_shut_a, z_bind, z_st, z_pS, z_slot, z_cst, z_glb, z_kTup, z_kLst, z_kLstL, z_kLstC, z_kBin2, z_kBin, z_kNeg, z_kCmp2, z_kCmp, z_kChn2, z_kChn, z_kNot, z_kIte, z_kIdx2, z_kIdx, z_kSlc3, z_kSlc2, z_kSlc, z_kSome, z_kRev, z_kDsel2, z_kDsel, z_kIsi, z_kIsT, z_kBif, z_kListC, z_kLrg, z_lrg, z_kMth2, z_kMth, z_kFld, z_kCall, z_kCalp, z_kMkf, z_kLc, z_tup, z_lst, z_lstL, z_lstC, z_bin, z_neg, z_cmp, z_chn, z_bop, z_not, z_ite, z_idx, z_slc, z_rev, z_dsel, z_isi, z_isT, z_bif, z_listC, z_mth, z_fld, z_call, z_calp, z_mkf, z_frz, z_nil, z_kCons2, z_kCons, z_kStar2, z_kStar, z_kB, z_cons, z_star, z_b1, z_b2, z_o0, z_o1, z_kSeq, z_kEnu, z_kRng1, z_kRng3, z_kRng2, z_kC, z_seq, z_enu, z_c0, z_c1, z_kAsg, z_kUnp, z_kPar, z_kSto26, z_kSto25, z_kSto24, z_kSto23, z_kSto22, z_sto2, z_kSto3, z_kSto2, z_kSto, z_kAugs3, z_kAugs2, z_kAugs, z_kAug, z_kStf2, z_kStf, z_kExp, z_kRet, z_kIfs, z_kFor, z_kS, z_asg, z_unp, z_par, z_sto, z_augs, z_aug, z_stf, z_exp, z_ret, z_ret0, z_ifs, z_forr, z_whil, z_pas, z_brk, z_con, z_snil, z_scons, z_callU, z_callH, z_callG, z_callX, z_calpU, z_calpH, z_calpG, z_calpX, z_runU, z_run1, z_run2, z_run3, z_run4, z_dat, z_at0, z_at1, z_at2, z_at3, z_at4, z_at5, z_ixT, z_ixL, z_pp, z_add, z_sub, z_mulS, z_mulT, z_mulL, z_lt, z_le, z_gt, z_ge, z_eqI, z_neI, z_eqS, z_isN, z_isnN, z_methH, z_kMeth2, z_kMeth, z_meth, z_recP, z_calmP, z_calmC, z_prpG, z_prpP, z_kProp, z_prop, z_objP, z_kOwn2, z_kOwn, z_kOwnC2, z_kOwnC, z_opc, z_opb, z_own, z_ownP, z_ownC, z_ownT, z_kLenO, z_lenO, z_lenP, z_kIsc, z_isc, z_bindX, z_kRai, z_rai, z_rai0, z_rai1, z_rai2, z_hd, z_hdF, z_hdT, z_nm0, z_rm0, z_rm1, z_ht0, z_ht1, z_ht2, z_ht3, z_try, z_try0, z_tryX, z_kSX, z_clpG, z_clp0, z_calp0, z_kIscT, z_kSpl2, z_kSpl, z_spl, z_kJoi2, z_kJoi, z_joi, z_kMkc, z_mkc, z_mkcG, z_mkcH, z_mkcF, z_kAugf2, z_kAugf, z_augf, z_fns, z_ini, z_gl, z_xf, z_fa, z_pI, z_binC, z_ixC, z_stC, z_lenC, z_lenD, z_max, z_min, z_int, z_lenL, z_lenT, z_ten18, z_ix0, z_ix2, z_line0, z_line1, z_line2, z_line3, z_line4, z_line5, z_line6, z_line7, z_line8, z_q1, z_q2, z_q3, z_q4, z_q5, z_q6, z_q7, z_q8, z_q9, z_q10, z_q11, z_q12, z_q13, z_q14, z_q15, z_sqT, z_sqL, z_sqS, z_as1, z_as2, z_tupL, z_sumT, z_sum, z_w0, z_w1, z_augS, z_augA, z_fnd, z_lenA, z_lenB, z_rcA, z_mtA, z_lcat, z_lset, z_stA, z_ixA, z_ixM, z_i0, z_i1, z_i2, z_i3, z_fdiv2, z_fdiv6, z_fmod6, z_mul6, z_mul2, z_slT, z_slL, z_p1, z_p2, zu_hm, zu_hp1, zu_hp2, v_x_InvalidCourse, v_x_TooHigh, v_MOST_COURSES, v_MOST_KIND, v_NO_HOLES, v_SIDES, v_WIDTHS, beq_self_eq_true, Option.getD_some, Option.getD_none, List.getElem?_cons_zero, List.getElem?_cons_succ, Option.bind_some, Option.bind_none, id_eq, Option.map_some, Option.map_none, purs, noloc, setN, List.set_cons_zero, List.set_cons_succ, List.map_cons, List.map_nil, List.length_cons, List.length_nil, List.cons_append, List.nil_append, List.append_nil, List.replicate_succ, List.replicate_zero, Nat.reduceSub, Nat.reduceAdd, Nat.reduceEqDiff, Nat.reduceBEq, if_true, if_false, ↓reduceIte, Bool.not_true, Bool.not_false, decide_true, decide_false, isNon, dselP, eq_self, Bool.and_self, Bool.and_true, Bool.true_and, Int.cast_ofNat_Int, isTy, neS, qww, e1, e2, e3, w1, w2, w3, w4, w5, n1, b4]
    unfold F__law_is_course d__law_is_course b__law_is_course enc
    simp only [g__law_is_course_x, g__law_is_course__law_whole, g__law_is_course__law_is_shut, g__law_is_course_g, g__law_is_course_a, z_bind, z_st, z_pS, z_slot, z_cst, z_glb, z_kTup, z_kLst, z_kLstL, z_kLstC, z_kBin2, z_kBin, z_kNeg, z_kCmp2, z_kCmp, z_kChn2, z_kChn, z_kNot, z_kIte, z_kIdx2, z_kIdx, z_kSlc3, z_kSlc2, z_kSlc, z_kSome, z_kRev, z_kDsel2, z_kDsel, z_kIsi, z_kIsT, z_kBif, z_kListC, z_kLrg, z_lrg, z_kMth2, z_kMth, z_kFld, z_kCall, z_kCalp, z_kMkf, z_kLc, z_tup, z_lst, z_lstL, z_lstC, z_bin, z_neg, z_cmp, z_chn, z_bop, z_not, z_ite, z_idx, z_slc, z_rev, z_dsel, z_isi, z_isT, z_bif, z_listC, z_mth, z_fld, z_call, z_calp, z_mkf, z_frz, z_nil, z_kCons2, z_kCons, z_kStar2, z_kStar, z_kB, z_cons, z_star, z_b1, z_b2, z_o0, z_o1, z_kSeq, z_kEnu, z_kRng1, z_kRng3, z_kRng2, z_kC, z_seq, z_enu, z_c0, z_c1, z_kAsg, z_kUnp, z_kPar, z_kSto26, z_kSto25, z_kSto24, z_kSto23, z_kSto22, z_sto2, z_kSto3, z_kSto2, z_kSto, z_kAugs3, z_kAugs2, z_kAugs, z_kAug, z_kStf2, z_kStf, z_kExp, z_kRet, z_kIfs, z_kFor, z_kS, z_asg, z_unp, z_par, z_sto, z_augs, z_aug, z_stf, z_exp, z_ret, z_ret0, z_ifs, z_forr, z_whil, z_pas, z_brk, z_con, z_snil, z_scons, z_callU, z_callH, z_callG, z_callX, z_calpU, z_calpH, z_calpG, z_calpX, z_runU, z_run1, z_run2, z_run3, z_run4, z_dat, z_at0, z_at1, z_at2, z_at3, z_at4, z_at5, z_ixT, z_ixL, z_pp, z_add, z_sub, z_mulS, z_mulT, z_mulL, z_lt, z_le, z_gt, z_ge, z_eqI, z_neI, z_eqS, z_isN, z_isnN, z_methH, z_kMeth2, z_kMeth, z_meth, z_recP, z_calmP, z_calmC, z_prpG, z_prpP, z_kProp, z_prop, z_objP, z_kOwn2, z_kOwn, z_kOwnC2, z_kOwnC, z_opc, z_opb, z_own, z_ownP, z_ownC, z_ownT, z_kLenO, z_lenO, z_lenP, z_kIsc, z_isc, z_bindX, z_kRai, z_rai, z_rai0, z_rai1, z_rai2, z_hd, z_hdF, z_hdT, z_nm0, z_rm0, z_rm1, z_ht0, z_ht1, z_ht2, z_ht3, z_try, z_try0, z_tryX, z_kSX, z_clpG, z_clp0, z_calp0, z_kIscT, z_kSpl2, z_kSpl, z_spl, z_kJoi2, z_kJoi, z_joi, z_kMkc, z_mkc, z_mkcG, z_mkcH, z_mkcF, z_kAugf2, z_kAugf, z_augf, z_fns, z_ini, z_gl, z_xf, z_fa, z_pI, z_binC, z_ixC, z_stC, z_lenC, z_lenD, z_max, z_min, z_int, z_lenL, z_lenT, z_ten18, z_ix0, z_ix2, z_line0, z_line1, z_line2, z_line3, z_line4, z_line5, z_line6, z_line7, z_line8, z_q1, z_q2, z_q3, z_q4, z_q5, z_q6, z_q7, z_q8, z_q9, z_q10, z_q11, z_q12, z_q13, z_q14, z_q15, z_sqT, z_sqL, z_sqS, z_as1, z_as2, z_tupL, z_sumT, z_sum, z_w0, z_w1, z_augS, z_augA, z_fnd, z_lenA, z_lenB, z_rcA, z_mtA, z_lcat, z_lset, z_stA, z_ixA, z_ixM, z_i0, z_i1, z_i2, z_i3, z_fdiv2, z_fdiv6, z_fmod6, z_mul6, z_mul2, z_slT, z_slL, z_p1, z_p2, zu_hm, zu_hp1, zu_hp2, v_x_InvalidCourse, v_x_TooHigh, v_MOST_COURSES, v_MOST_KIND, v_NO_HOLES, v_SIDES, v_WIDTHS, beq_self_eq_true, Option.getD_some, Option.getD_none, List.getElem?_cons_zero, List.getElem?_cons_succ, Option.bind_some, Option.bind_none, id_eq, Option.map_some, Option.map_none, purs, noloc, setN, List.set_cons_zero, List.set_cons_succ, List.map_cons, List.map_nil, List.length_cons, List.length_nil, List.cons_append, List.nil_append, List.append_nil, List.replicate_succ, List.replicate_zero, Nat.reduceSub, Nat.reduceAdd, Nat.reduceEqDiff, Nat.reduceBEq, if_true, if_false, ↓reduceIte, Bool.not_true, Bool.not_false, decide_true, decide_false, isNon, dselP, eq_self, Bool.and_self, Bool.and_true, Bool.true_and, Int.cast_ofNat_Int, isTy, ni6, es]
end HL
end

section
set_option Elab.async false
set_option linter.all false
set_option maxRecDepth 100000
set_option maxHeartbeats 1000000
/-! U29: heaps are made or refused; what is told of them -/
namespace HL
open PySem Ev
/-- a course, or a thing that is none -/
def It (p : P) : Prop := p ∈ oddP ∨ ∃ c, okC c ∧ p = enc c
def isCb (p : P) : Bool := match F_is_course [.pur p] [] with
  | .ok (.pur (.bl b)) [] => b
  | _ => false
theorem it_is {p : P} (h : It p) : F_is_course [.pur p] [] = .ok (.pur (.bl (isCb p))) [] := by
  rcases h with h | ⟨c, ok, rfl⟩
  · have e := isFl_of (List.all_eq_true.mp odd_1 p h)
    unfold isCb
    rw [e]
  · have e := course_is c ok
    unfold isCb
    rw [e]
theorem it_law {p : P} (h : It p) : F__law_is_course [.pur p] [] = .ok (.pur (.bl (isCb p))) [] := by
  rcases h with h | ⟨c, ok, rfl⟩
  · have e := isFl_of (List.all_eq_true.mp odd_1 p h)
    unfold isCb
    rw [e]
    exact isFl_of (List.all_eq_true.mp odd_2 p h)
  · have e := course_is c ok
    unfold isCb
    rw [e]
    exact lcrs_ok c ok
theorem it_enc {p : P} (h : It p) (hb : isCb p = true) : ∃ c, okC c ∧ p = enc c := by
  rcases h with h | h
  · have e := isFl_of (List.all_eq_true.mp odd_1 p h)
    unfold isCb at hb
    rw [e] at hb
    cases hb
  · exact h
/-- the first that is none -/
def fb : List P → Nat → Option Nat
  | [], _ => none
  | p :: ps, k => if isCb p then fb ps (k + 1) else some k
theorem fb_enc : ∀ {ps : List P} {k : Nat}, (∀ p ∈ ps, It p) → fb ps k = none → ∃ cs : List Crs, (∀ c ∈ cs, okC c) ∧ ps = cs.map enc
  | [], k, _, _ => ⟨[], (fun c hc => nomatch hc), rfl⟩
  | p :: ps, k, h, e => by
    unfold fb at e
    cases hb : isCb p with
    | false => rw [hb] at e; cases e
    | true =>
      rw [hb] at e
      obtain ⟨c, ok, rfl⟩ := it_enc (h p List.mem_cons_self) hb
      obtain ⟨cs, oks, rfl⟩ := fb_enc (fun q hq => h q (List.mem_cons_of_mem _ hq)) e
      exact ⟨c :: cs, fun d hd => by
        rcases List.mem_cons.mp hd with rfl | hd
        · exact ok
        · exact oks d hd, rfl⟩
theorem initx_loop {d0 d1 : D} : ∀ (ps : List P) (k : Nat) (a b : Option D) (m : List Cell), (∀ p ∈ ps, It p) → ∀ i, fb ps k = some i → ∃ s', forF (.tp [2, 3]) (exSs G_Heap_init b_Heap_init_l1) (enuP (k : Int) ps) { r := [some d0, some d1, a, b], m := m, l := [] } = .ex ⟨2, [("index", .int (i : Int))]⟩ s'
  | [], k, a, b, m, _, i, e => nomatch e
  | p :: ps, k, a, b, m, h, i, e => by
    have e1 := it_is (h p List.mem_cons_self)
    unfold fb at e
    rw [enuP, z_for1]
    conv => enter [1, s', 1]; unfold b_Heap_init_l1
    cases hb : isCb p with
    | true =>
      rw [hb] at e e1
      obtain ⟨s', ih⟩ := initx_loop (d0 := d0) (d1 := d1) ps (k + 1) (some (.pur (.int (k : Int)))) (some (.pur p)) m (fun q hq => h q (List.mem_cons_of_mem _ hq)) i e
      refine ⟨s', ?_⟩
      simp only [g_Heap_init_x, g_Heap_init_is_course, g_Heap_init_g, g_Heap_init_a, z_bind, z_st, z_pS, z_slot, z_cst, z_glb, z_kTup, z_kLst, z_kLstL, z_kLstC, z_kBin2, z_kBin, z_kNeg, z_kCmp2, z_kCmp, z_kChn2, z_kChn, z_kNot, z_kIte, z_kIdx2, z_kIdx, z_kSlc3, z_kSlc2, z_kSlc, z_kSome, z_kRev, z_kDsel2, z_kDsel, z_kIsi, z_kIsT, z_kBif, z_kListC, z_kLrg, z_lrg, z_kMth2, z_kMth, z_kFld, z_kCall, z_kCalp, z_kMkf, z_kLc, z_tup, z_lst, z_lstL, z_lstC, z_bin, z_neg, z_cmp, z_chn, z_bop, z_not, z_ite, z_idx, z_slc, z_rev, z_dsel, z_isi, z_isT, z_bif, z_listC, z_mth, z_fld, z_call, z_calp, z_mkf, z_frz, z_nil, z_kCons2, z_kCons, z_kStar2, z_kStar, z_kB, z_cons, z_star, z_b1, z_b2, z_o0, z_o1, z_kSeq, z_kEnu, z_kRng1, z_kRng3, z_kRng2, z_kC, z_seq, z_enu, z_c0, z_c1, z_kAsg, z_kUnp, z_kPar, z_kSto26, z_kSto25, z_kSto24, z_kSto23, z_kSto22, z_sto2, z_kSto3, z_kSto2, z_kSto, z_kAugs3, z_kAugs2, z_kAugs, z_kAug, z_kStf2, z_kStf, z_kExp, z_kRet, z_kIfs, z_kFor, z_kS, z_asg, z_unp, z_par, z_sto, z_augs, z_aug, z_stf, z_exp, z_ret, z_ret0, z_ifs, z_forr, z_whil, z_pas, z_brk, z_con, z_snil, z_scons, z_callU, z_callH, z_callG, z_callX, z_calpU, z_calpH, z_calpG, z_calpX, z_runU, z_run1, z_run2, z_run3, z_run4, z_dat, z_at0, z_at1, z_at2, z_at3, z_at4, z_at5, z_ixT, z_ixL, z_pp, z_add, z_sub, z_mulS, z_mulT, z_mulL, z_lt, z_le, z_gt, z_ge, z_eqI, z_neI, z_eqS, z_isN, z_isnN, z_methH, z_kMeth2, z_kMeth, z_meth, z_recP, z_calmP, z_calmC, z_prpG, z_prpP, z_kProp, z_prop, z_objP, z_kOwn2, z_kOwn, z_kOwnC2, z_kOwnC, z_opc, z_opb, z_own, z_ownP, z_ownC, z_ownT, z_kLenO, z_lenO, z_lenP, z_kIsc, z_isc, z_bindX, z_kRai, z_rai, z_rai0, z_rai1, z_rai2, z_hd, z_hdF, z_hdT, z_nm0, z_rm0, z_rm1, z_ht0, z_ht1, z_ht2, z_ht3, z_try, z_try0, z_tryX, z_kSX, z_clpG, z_clp0, z_calp0, z_kIscT, z_kSpl2, z_kSpl, z_spl, z_kJoi2, z_kJoi, z_joi, z_kMkc, z_mkc, z_mkcG, z_mkcH, z_mkcF, z_kAugf2, z_kAugf, z_augf, z_fns, z_ini, z_gl, z_xf, z_fa, z_pI, z_binC, z_ixC, z_stC, z_lenC, z_lenD, z_max, z_min, z_int, z_lenL, z_lenT, z_ten18, z_ix0, z_ix2, z_line0, z_line1, z_line2, z_line3, z_line4, z_line5, z_line6, z_line7, z_line8, z_q1, z_q2, z_q3, z_q4, z_q5, z_q6, z_q7, z_q8, z_q9, z_q10, z_q11, z_q12, z_q13, z_q14, z_q15, z_sqT, z_sqL, z_sqS, z_as1, z_as2, z_tupL, z_sumT, z_sum, z_w0, z_w1, z_augS, z_augA, z_fnd, z_lenA, z_lenB, z_rcA, z_mtA, z_lcat, z_lset, z_stA, z_ixA, z_ixM, z_i0, z_i1, z_i2, z_i3, z_fdiv2, z_fdiv6, z_fmod6, z_mul6, z_mul2, z_slT, z_slL, z_p1, z_p2, zu_hm, zu_hp1, zu_hp2, v_x_InvalidCourse, v_x_TooHigh, v_MOST_COURSES, v_MOST_KIND, v_NO_HOLES, v_SIDES, v_WIDTHS, beq_self_eq_true, Option.getD_some, Option.getD_none, List.getElem?_cons_zero, List.getElem?_cons_succ, Option.bind_some, Option.bind_none, id_eq, Option.map_some, Option.map_none, purs, noloc, setN, List.set_cons_zero, List.set_cons_succ, List.map_cons, List.map_nil, List.length_cons, List.length_nil, List.cons_append, List.nil_append, List.append_nil, List.replicate_succ, List.replicate_zero, Nat.reduceSub, Nat.reduceAdd, Nat.reduceEqDiff, Nat.reduceBEq, if_true, if_false, ↓reduceIte, Bool.not_true, Bool.not_false, decide_true, decide_false, isNon, dselP, eq_self, Bool.and_self, Bool.and_true, Bool.true_and, Int.cast_ofNat_Int, e1]
      exact ih
    | false =>
      rw [hb] at e e1
      cases e
      refine ⟨{ r := [some d0, some d1, some (.pur (.int (k : Int))), some (.pur p)], m := m, l := [] }, ?_⟩
      simp only [g_Heap_init_x, g_Heap_init_is_course, g_Heap_init_g, g_Heap_init_a, z_bind, z_st, z_pS, z_slot, z_cst, z_glb, z_kTup, z_kLst, z_kLstL, z_kLstC, z_kBin2, z_kBin, z_kNeg, z_kCmp2, z_kCmp, z_kChn2, z_kChn, z_kNot, z_kIte, z_kIdx2, z_kIdx, z_kSlc3, z_kSlc2, z_kSlc, z_kSome, z_kRev, z_kDsel2, z_kDsel, z_kIsi, z_kIsT, z_kBif, z_kListC, z_kLrg, z_lrg, z_kMth2, z_kMth, z_kFld, z_kCall, z_kCalp, z_kMkf, z_kLc, z_tup, z_lst, z_lstL, z_lstC, z_bin, z_neg, z_cmp, z_chn, z_bop, z_not, z_ite, z_idx, z_slc, z_rev, z_dsel, z_isi, z_isT, z_bif, z_listC, z_mth, z_fld, z_call, z_calp, z_mkf, z_frz, z_nil, z_kCons2, z_kCons, z_kStar2, z_kStar, z_kB, z_cons, z_star, z_b1, z_b2, z_o0, z_o1, z_kSeq, z_kEnu, z_kRng1, z_kRng3, z_kRng2, z_kC, z_seq, z_enu, z_c0, z_c1, z_kAsg, z_kUnp, z_kPar, z_kSto26, z_kSto25, z_kSto24, z_kSto23, z_kSto22, z_sto2, z_kSto3, z_kSto2, z_kSto, z_kAugs3, z_kAugs2, z_kAugs, z_kAug, z_kStf2, z_kStf, z_kExp, z_kRet, z_kIfs, z_kFor, z_kS, z_asg, z_unp, z_par, z_sto, z_augs, z_aug, z_stf, z_exp, z_ret, z_ret0, z_ifs, z_forr, z_whil, z_pas, z_brk, z_con, z_snil, z_scons, z_callU, z_callH, z_callG, z_callX, z_calpU, z_calpH, z_calpG, z_calpX, z_runU, z_run1, z_run2, z_run3, z_run4, z_dat, z_at0, z_at1, z_at2, z_at3, z_at4, z_at5, z_ixT, z_ixL, z_pp, z_add, z_sub, z_mulS, z_mulT, z_mulL, z_lt, z_le, z_gt, z_ge, z_eqI, z_neI, z_eqS, z_isN, z_isnN, z_methH, z_kMeth2, z_kMeth, z_meth, z_recP, z_calmP, z_calmC, z_prpG, z_prpP, z_kProp, z_prop, z_objP, z_kOwn2, z_kOwn, z_kOwnC2, z_kOwnC, z_opc, z_opb, z_own, z_ownP, z_ownC, z_ownT, z_kLenO, z_lenO, z_lenP, z_kIsc, z_isc, z_bindX, z_kRai, z_rai, z_rai0, z_rai1, z_rai2, z_hd, z_hdF, z_hdT, z_nm0, z_rm0, z_rm1, z_ht0, z_ht1, z_ht2, z_ht3, z_try, z_try0, z_tryX, z_kSX, z_clpG, z_clp0, z_calp0, z_kIscT, z_kSpl2, z_kSpl, z_spl, z_kJoi2, z_kJoi, z_joi, z_kMkc, z_mkc, z_mkcG, z_mkcH, z_mkcF, z_kAugf2, z_kAugf, z_augf, z_fns, z_ini, z_gl, z_xf, z_fa, z_pI, z_binC, z_ixC, z_stC, z_lenC, z_lenD, z_max, z_min, z_int, z_lenL, z_lenT, z_ten18, z_ix0, z_ix2, z_line0, z_line1, z_line2, z_line3, z_line4, z_line5, z_line6, z_line7, z_line8, z_q1, z_q2, z_q3, z_q4, z_q5, z_q6, z_q7, z_q8, z_q9, z_q10, z_q11, z_q12, z_q13, z_q14, z_q15, z_sqT, z_sqL, z_sqS, z_as1, z_as2, z_tupL, z_sumT, z_sum, z_w0, z_w1, z_augS, z_augA, z_fnd, z_lenA, z_lenB, z_rcA, z_mtA, z_lcat, z_lset, z_stA, z_ixA, z_ixM, z_i0, z_i1, z_i2, z_i3, z_fdiv2, z_fdiv6, z_fmod6, z_mul6, z_mul2, z_slT, z_slL, z_p1, z_p2, zu_hm, zu_hp1, zu_hp2, v_x_InvalidCourse, v_x_TooHigh, v_MOST_COURSES, v_MOST_KIND, v_NO_HOLES, v_SIDES, v_WIDTHS, beq_self_eq_true, Option.getD_some, Option.getD_none, List.getElem?_cons_zero, List.getElem?_cons_succ, Option.bind_some, Option.bind_none, id_eq, Option.map_some, Option.map_none, purs, noloc, setN, List.set_cons_zero, List.set_cons_succ, List.map_cons, List.map_nil, List.length_cons, List.length_nil, List.cons_append, List.nil_append, List.append_nil, List.replicate_succ, List.replicate_zero, Nat.reduceSub, Nat.reduceAdd, Nat.reduceEqDiff, Nat.reduceBEq, if_true, if_false, ↓reduceIte, Bool.not_true, Bool.not_false, decide_true, decide_false, isNon, dselP, eq_self, Bool.and_self, Bool.and_true, Bool.true_and, Int.cast_ofNat_Int, e1]
def ixe (p : P) : Exc := ⟨2, [("index", p)]⟩
/-- Heap(x) is refused -/
def Refd (x p : P) : Prop := ∃ m, F_Heap_init [.cel 0, .pur x] [.ins 0 []] = .ex (ixe p) m
theorem ref_bad {ps : List P} (h : ∀ p ∈ ps, It p) (h1 : 1 ≤ ps.length) (h3 : ps.length ≤ 3) {i : Nat} (e : fb ps 0 = some i) : Refd (.tup ps) (.int (i : Int)) := by
  obtain ⟨s', e⟩ := initx_loop (d0 := .cel 0) (d1 := .pur (.tup ps)) ps 0 none none [.ins 0 []] h i e
  have e : forF (.tp [2, 3]) (exSs G_Heap_init b_Heap_init_l1) (enuP 0 ps) { r := [some (.cel 0), some (.pur (.tup ps)), none, none], m := [.ins 0 []], l := [] } = .ex ⟨2, [("index", .int (i : Int))]⟩ s' := e
  have g1 : (1 : Int) ≤ (ps.length : Int) := by omega
  have g3 : (ps.length : Int) ≤ 3 := by omega
  refine ⟨s'.m, ?_⟩
  unfold F_Heap_init d_Heap_init b_Heap_init
  simp only [g_Heap_init_x, g_Heap_init_is_course, g_Heap_init_g, g_Heap_init_a, z_bind, z_st, z_pS, z_slot, z_cst, z_glb, z_kTup, z_kLst, z_kLstL, z_kLstC, z_kBin2, z_kBin, z_kNeg, z_kCmp2, z_kCmp, z_kChn2, z_kChn, z_kNot, z_kIte, z_kIdx2, z_kIdx, z_kSlc3, z_kSlc2, z_kSlc, z_kSome, z_kRev, z_kDsel2, z_kDsel, z_kIsi, z_kIsT, z_kBif, z_kListC, z_kLrg, z_lrg, z_kMth2, z_kMth, z_kFld, z_kCall, z_kCalp, z_kMkf, z_kLc, z_tup, z_lst, z_lstL, z_lstC, z_bin, z_neg, z_cmp, z_chn, z_bop, z_not, z_ite, z_idx, z_slc, z_rev, z_dsel, z_isi, z_isT, z_bif, z_listC, z_mth, z_fld, z_call, z_calp, z_mkf, z_frz, z_nil, z_kCons2, z_kCons, z_kStar2, z_kStar, z_kB, z_cons, z_star, z_b1, z_b2, z_o0, z_o1, z_kSeq, z_kEnu, z_kRng1, z_kRng3, z_kRng2, z_kC, z_seq, z_enu, z_c0, z_c1, z_kAsg, z_kUnp, z_kPar, z_kSto26, z_kSto25, z_kSto24, z_kSto23, z_kSto22, z_sto2, z_kSto3, z_kSto2, z_kSto, z_kAugs3, z_kAugs2, z_kAugs, z_kAug, z_kStf2, z_kStf, z_kExp, z_kRet, z_kIfs, z_kFor, z_kS, z_asg, z_unp, z_par, z_sto, z_augs, z_aug, z_stf, z_exp, z_ret, z_ret0, z_ifs, z_forr, z_whil, z_pas, z_brk, z_con, z_snil, z_scons, z_callU, z_callH, z_callG, z_callX, z_calpU, z_calpH, z_calpG, z_calpX, z_runU, z_run1, z_run2, z_run3, z_run4, z_dat, z_at0, z_at1, z_at2, z_at3, z_at4, z_at5, z_ixT, z_ixL, z_pp, z_add, z_sub, z_mulS, z_mulT, z_mulL, z_lt, z_le, z_gt, z_ge, z_eqI, z_neI, z_eqS, z_isN, z_isnN, z_methH, z_kMeth2, z_kMeth, z_meth, z_recP, z_calmP, z_calmC, z_prpG, z_prpP, z_kProp, z_prop, z_objP, z_kOwn2, z_kOwn, z_kOwnC2, z_kOwnC, z_opc, z_opb, z_own, z_ownP, z_ownC, z_ownT, z_kLenO, z_lenO, z_lenP, z_kIsc, z_isc, z_bindX, z_kRai, z_rai, z_rai0, z_rai1, z_rai2, z_hd, z_hdF, z_hdT, z_nm0, z_rm0, z_rm1, z_ht0, z_ht1, z_ht2, z_ht3, z_try, z_try0, z_tryX, z_kSX, z_clpG, z_clp0, z_calp0, z_kIscT, z_kSpl2, z_kSpl, z_spl, z_kJoi2, z_kJoi, z_joi, z_kMkc, z_mkc, z_mkcG, z_mkcH, z_mkcF, z_kAugf2, z_kAugf, z_augf, z_fns, z_ini, z_gl, z_xf, z_fa, z_pI, z_binC, z_ixC, z_stC, z_lenC, z_lenD, z_max, z_min, z_int, z_lenL, z_lenT, z_ten18, z_ix0, z_ix2, z_line0, z_line1, z_line2, z_line3, z_line4, z_line5, z_line6, z_line7, z_line8, z_q1, z_q2, z_q3, z_q4, z_q5, z_q6, z_q7, z_q8, z_q9, z_q10, z_q11, z_q12, z_q13, z_q14, z_q15, z_sqT, z_sqL, z_sqS, z_as1, z_as2, z_tupL, z_sumT, z_sum, z_w0, z_w1, z_augS, z_augA, z_fnd, z_lenA, z_lenB, z_rcA, z_mtA, z_lcat, z_lset, z_stA, z_ixA, z_ixM, z_i0, z_i1, z_i2, z_i3, z_fdiv2, z_fdiv6, z_fmod6, z_mul6, z_mul2, z_slT, z_slL, z_p1, z_p2, zu_hm, zu_hp1, zu_hp2, v_x_InvalidCourse, v_x_TooHigh, v_MOST_COURSES, v_MOST_KIND, v_NO_HOLES, v_SIDES, v_WIDTHS, beq_self_eq_true, Option.getD_some, Option.getD_none, List.getElem?_cons_zero, List.getElem?_cons_succ, Option.bind_some, Option.bind_none, id_eq, Option.map_some, Option.map_none, purs, noloc, setN, List.set_cons_zero, List.set_cons_succ, List.map_cons, List.map_nil, List.length_cons, List.length_nil, List.cons_append, List.nil_append, List.append_nil, List.replicate_succ, List.replicate_zero, Nat.reduceSub, Nat.reduceAdd, Nat.reduceEqDiff, Nat.reduceBEq, if_true, if_false, ↓reduceIte, Bool.not_true, Bool.not_false, decide_true, decide_false, isNon, dselP, eq_self, Bool.and_self, Bool.and_true, Bool.true_and, Int.cast_ofNat_Int, isTy, g1, g3, e]
  rfl
theorem ref_long {ps : List P} (h3 : 3 < ps.length) : Refd (.tup ps) .non := by
  have g1 : (1 : Int) ≤ (ps.length : Int) := by omega
  have g3 : ¬ (ps.length : Int) ≤ 3 := by omega
  refine ⟨[.ins 0 []], ?_⟩
  unfold F_Heap_init d_Heap_init b_Heap_init
  simp only [g_Heap_init_x, g_Heap_init_is_course, g_Heap_init_g, g_Heap_init_a, z_bind, z_st, z_pS, z_slot, z_cst, z_glb, z_kTup, z_kLst, z_kLstL, z_kLstC, z_kBin2, z_kBin, z_kNeg, z_kCmp2, z_kCmp, z_kChn2, z_kChn, z_kNot, z_kIte, z_kIdx2, z_kIdx, z_kSlc3, z_kSlc2, z_kSlc, z_kSome, z_kRev, z_kDsel2, z_kDsel, z_kIsi, z_kIsT, z_kBif, z_kListC, z_kLrg, z_lrg, z_kMth2, z_kMth, z_kFld, z_kCall, z_kCalp, z_kMkf, z_kLc, z_tup, z_lst, z_lstL, z_lstC, z_bin, z_neg, z_cmp, z_chn, z_bop, z_not, z_ite, z_idx, z_slc, z_rev, z_dsel, z_isi, z_isT, z_bif, z_listC, z_mth, z_fld, z_call, z_calp, z_mkf, z_frz, z_nil, z_kCons2, z_kCons, z_kStar2, z_kStar, z_kB, z_cons, z_star, z_b1, z_b2, z_o0, z_o1, z_kSeq, z_kEnu, z_kRng1, z_kRng3, z_kRng2, z_kC, z_seq, z_enu, z_c0, z_c1, z_kAsg, z_kUnp, z_kPar, z_kSto26, z_kSto25, z_kSto24, z_kSto23, z_kSto22, z_sto2, z_kSto3, z_kSto2, z_kSto, z_kAugs3, z_kAugs2, z_kAugs, z_kAug, z_kStf2, z_kStf, z_kExp, z_kRet, z_kIfs, z_kFor, z_kS, z_asg, z_unp, z_par, z_sto, z_augs, z_aug, z_stf, z_exp, z_ret, z_ret0, z_ifs, z_forr, z_whil, z_pas, z_brk, z_con, z_snil, z_scons, z_callU, z_callH, z_callG, z_callX, z_calpU, z_calpH, z_calpG, z_calpX, z_runU, z_run1, z_run2, z_run3, z_run4, z_dat, z_at0, z_at1, z_at2, z_at3, z_at4, z_at5, z_ixT, z_ixL, z_pp, z_add, z_sub, z_mulS, z_mulT, z_mulL, z_lt, z_le, z_gt, z_ge, z_eqI, z_neI, z_eqS, z_isN, z_isnN, z_methH, z_kMeth2, z_kMeth, z_meth, z_recP, z_calmP, z_calmC, z_prpG, z_prpP, z_kProp, z_prop, z_objP, z_kOwn2, z_kOwn, z_kOwnC2, z_kOwnC, z_opc, z_opb, z_own, z_ownP, z_ownC, z_ownT, z_kLenO, z_lenO, z_lenP, z_kIsc, z_isc, z_bindX, z_kRai, z_rai, z_rai0, z_rai1, z_rai2, z_hd, z_hdF, z_hdT, z_nm0, z_rm0, z_rm1, z_ht0, z_ht1, z_ht2, z_ht3, z_try, z_try0, z_tryX, z_kSX, z_clpG, z_clp0, z_calp0, z_kIscT, z_kSpl2, z_kSpl, z_spl, z_kJoi2, z_kJoi, z_joi, z_kMkc, z_mkc, z_mkcG, z_mkcH, z_mkcF, z_kAugf2, z_kAugf, z_augf, z_fns, z_ini, z_gl, z_xf, z_fa, z_pI, z_binC, z_ixC, z_stC, z_lenC, z_lenD, z_max, z_min, z_int, z_lenL, z_lenT, z_ten18, z_ix0, z_ix2, z_line0, z_line1, z_line2, z_line3, z_line4, z_line5, z_line6, z_line7, z_line8, z_q1, z_q2, z_q3, z_q4, z_q5, z_q6, z_q7, z_q8, z_q9, z_q10, z_q11, z_q12, z_q13, z_q14, z_q15, z_sqT, z_sqL, z_sqS, z_as1, z_as2, z_tupL, z_sumT, z_sum, z_w0, z_w1, z_augS, z_augA, z_fnd, z_lenA, z_lenB, z_rcA, z_mtA, z_lcat, z_lset, z_stA, z_ixA, z_ixM, z_i0, z_i1, z_i2, z_i3, z_fdiv2, z_fdiv6, z_fmod6, z_mul6, z_mul2, z_slT, z_slL, z_p1, z_p2, zu_hm, zu_hp1, zu_hp2, v_x_InvalidCourse, v_x_TooHigh, v_MOST_COURSES, v_MOST_KIND, v_NO_HOLES, v_SIDES, v_WIDTHS, beq_self_eq_true, Option.getD_some, Option.getD_none, List.getElem?_cons_zero, List.getElem?_cons_succ, Option.bind_some, Option.bind_none, id_eq, Option.map_some, Option.map_none, purs, noloc, setN, List.set_cons_zero, List.set_cons_succ, List.map_cons, List.map_nil, List.length_cons, List.length_nil, List.cons_append, List.nil_append, List.append_nil, List.replicate_succ, List.replicate_zero, Nat.reduceSub, Nat.reduceAdd, Nat.reduceEqDiff, Nat.reduceBEq, if_true, if_false, ↓reduceIte, Bool.not_true, Bool.not_false, decide_true, decide_false, isNon, dselP, eq_self, Bool.and_self, Bool.and_true, Bool.true_and, Int.cast_ofNat_Int, isTy, g1, g3]
  rfl
theorem ref_nil : Refd (.tup []) .non := ⟨[.ins 0 []], by kernel_rfl⟩
theorem ref_lst {ps : List P} : Refd (.lst ps) .non := by
  refine ⟨[.ins 0 []], ?_⟩
  unfold F_Heap_init d_Heap_init b_Heap_init
  simp only [g_Heap_init_x, g_Heap_init_is_course, g_Heap_init_g, g_Heap_init_a, z_bind, z_st, z_pS, z_slot, z_cst, z_glb, z_kTup, z_kLst, z_kLstL, z_kLstC, z_kBin2, z_kBin, z_kNeg, z_kCmp2, z_kCmp, z_kChn2, z_kChn, z_kNot, z_kIte, z_kIdx2, z_kIdx, z_kSlc3, z_kSlc2, z_kSlc, z_kSome, z_kRev, z_kDsel2, z_kDsel, z_kIsi, z_kIsT, z_kBif, z_kListC, z_kLrg, z_lrg, z_kMth2, z_kMth, z_kFld, z_kCall, z_kCalp, z_kMkf, z_kLc, z_tup, z_lst, z_lstL, z_lstC, z_bin, z_neg, z_cmp, z_chn, z_bop, z_not, z_ite, z_idx, z_slc, z_rev, z_dsel, z_isi, z_isT, z_bif, z_listC, z_mth, z_fld, z_call, z_calp, z_mkf, z_frz, z_nil, z_kCons2, z_kCons, z_kStar2, z_kStar, z_kB, z_cons, z_star, z_b1, z_b2, z_o0, z_o1, z_kSeq, z_kEnu, z_kRng1, z_kRng3, z_kRng2, z_kC, z_seq, z_enu, z_c0, z_c1, z_kAsg, z_kUnp, z_kPar, z_kSto26, z_kSto25, z_kSto24, z_kSto23, z_kSto22, z_sto2, z_kSto3, z_kSto2, z_kSto, z_kAugs3, z_kAugs2, z_kAugs, z_kAug, z_kStf2, z_kStf, z_kExp, z_kRet, z_kIfs, z_kFor, z_kS, z_asg, z_unp, z_par, z_sto, z_augs, z_aug, z_stf, z_exp, z_ret, z_ret0, z_ifs, z_forr, z_whil, z_pas, z_brk, z_con, z_snil, z_scons, z_callU, z_callH, z_callG, z_callX, z_calpU, z_calpH, z_calpG, z_calpX, z_runU, z_run1, z_run2, z_run3, z_run4, z_dat, z_at0, z_at1, z_at2, z_at3, z_at4, z_at5, z_ixT, z_ixL, z_pp, z_add, z_sub, z_mulS, z_mulT, z_mulL, z_lt, z_le, z_gt, z_ge, z_eqI, z_neI, z_eqS, z_isN, z_isnN, z_methH, z_kMeth2, z_kMeth, z_meth, z_recP, z_calmP, z_calmC, z_prpG, z_prpP, z_kProp, z_prop, z_objP, z_kOwn2, z_kOwn, z_kOwnC2, z_kOwnC, z_opc, z_opb, z_own, z_ownP, z_ownC, z_ownT, z_kLenO, z_lenO, z_lenP, z_kIsc, z_isc, z_bindX, z_kRai, z_rai, z_rai0, z_rai1, z_rai2, z_hd, z_hdF, z_hdT, z_nm0, z_rm0, z_rm1, z_ht0, z_ht1, z_ht2, z_ht3, z_try, z_try0, z_tryX, z_kSX, z_clpG, z_clp0, z_calp0, z_kIscT, z_kSpl2, z_kSpl, z_spl, z_kJoi2, z_kJoi, z_joi, z_kMkc, z_mkc, z_mkcG, z_mkcH, z_mkcF, z_kAugf2, z_kAugf, z_augf, z_fns, z_ini, z_gl, z_xf, z_fa, z_pI, z_binC, z_ixC, z_stC, z_lenC, z_lenD, z_max, z_min, z_int, z_lenL, z_lenT, z_ten18, z_ix0, z_ix2, z_line0, z_line1, z_line2, z_line3, z_line4, z_line5, z_line6, z_line7, z_line8, z_q1, z_q2, z_q3, z_q4, z_q5, z_q6, z_q7, z_q8, z_q9, z_q10, z_q11, z_q12, z_q13, z_q14, z_q15, z_sqT, z_sqL, z_sqS, z_as1, z_as2, z_tupL, z_sumT, z_sum, z_w0, z_w1, z_augS, z_augA, z_fnd, z_lenA, z_lenB, z_rcA, z_mtA, z_lcat, z_lset, z_stA, z_ixA, z_ixM, z_i0, z_i1, z_i2, z_i3, z_fdiv2, z_fdiv6, z_fmod6, z_mul6, z_mul2, z_slT, z_slL, z_p1, z_p2, zu_hm, zu_hp1, zu_hp2, v_x_InvalidCourse, v_x_TooHigh, v_MOST_COURSES, v_MOST_KIND, v_NO_HOLES, v_SIDES, v_WIDTHS, beq_self_eq_true, Option.getD_some, Option.getD_none, List.getElem?_cons_zero, List.getElem?_cons_succ, Option.bind_some, Option.bind_none, id_eq, Option.map_some, Option.map_none, purs, noloc, setN, List.set_cons_zero, List.set_cons_succ, List.map_cons, List.map_nil, List.length_cons, List.length_nil, List.cons_append, List.nil_append, List.append_nil, List.replicate_succ, List.replicate_zero, Nat.reduceSub, Nat.reduceAdd, Nat.reduceEqDiff, Nat.reduceBEq, if_true, if_false, ↓reduceIte, Bool.not_true, Bool.not_false, decide_true, decide_false, isNon, dselP, eq_self, Bool.and_self, Bool.and_true, Bool.true_and, Int.cast_ofNat_Int, isTy]
  rfl
theorem ref_non : Refd .non .non := ⟨[.ins 0 []], by kernel_rfl⟩
theorem lk_ix {p : P} : List.lookup ("index" : Str) [(("index" : Str), p)] = some p := by
  have h2 : (("index" : Str) == "index") = true := by decide +kernel
  rw [List.lookup, h2]
theorem mkf_ex {x p : P} {m : List Cell} (e : F_Heap_init [.cel 0, .pur x] [.ins 0 []] = .ex (ixe p) m) (s : S) : mkfF 0 F_Heap_init [.pur x] s = .ex (ixe p) s := by
  unfold mkfF
  show (match F_Heap_init [.cel 0, .pur x] [.ins 0 []] with
    | .ok (.pur .non) [.ins c' fs] => if c' == 0 then (match pfs fs with
      | some (ns, ps) => R.ok (D.pur (.obj 0 ns ps)) s
      | none => R.st) else R.st
    | .ex x _ => .ex x s
    | _ => R.st) = _
  rw [e]
theorem tried_ref {x p : P} (h : Refd x p) : F__law_tried [.pur x] [] = .ok (.pur (.lst [p])) [] := by
  obtain ⟨m, e⟩ := h
  have e1 := mkf_ex e
  unfold F__law_tried d__law_tried b__law_tried
  simp only [g__law_tried_x, g__law_tried_Heap, g__law_tried_g, g__law_tried_a, z_bind, z_st, z_pS, z_slot, z_cst, z_glb, z_kTup, z_kLst, z_kLstL, z_kLstC, z_kBin2, z_kBin, z_kNeg, z_kCmp2, z_kCmp, z_kChn2, z_kChn, z_kNot, z_kIte, z_kIdx2, z_kIdx, z_kSlc3, z_kSlc2, z_kSlc, z_kSome, z_kRev, z_kDsel2, z_kDsel, z_kIsi, z_kIsT, z_kBif, z_kListC, z_kLrg, z_lrg, z_kMth2, z_kMth, z_kFld, z_kCall, z_kCalp, z_kMkf, z_kLc, z_tup, z_lst, z_lstL, z_lstC, z_bin, z_neg, z_cmp, z_chn, z_bop, z_not, z_ite, z_idx, z_slc, z_rev, z_dsel, z_isi, z_isT, z_bif, z_listC, z_mth, z_fld, z_call, z_calp, z_mkf, z_frz, z_nil, z_kCons2, z_kCons, z_kStar2, z_kStar, z_kB, z_cons, z_star, z_b1, z_b2, z_o0, z_o1, z_kSeq, z_kEnu, z_kRng1, z_kRng3, z_kRng2, z_kC, z_seq, z_enu, z_c0, z_c1, z_kAsg, z_kUnp, z_kPar, z_kSto26, z_kSto25, z_kSto24, z_kSto23, z_kSto22, z_sto2, z_kSto3, z_kSto2, z_kSto, z_kAugs3, z_kAugs2, z_kAugs, z_kAug, z_kStf2, z_kStf, z_kExp, z_kRet, z_kIfs, z_kFor, z_kS, z_asg, z_unp, z_par, z_sto, z_augs, z_aug, z_stf, z_exp, z_ret, z_ret0, z_ifs, z_forr, z_whil, z_pas, z_brk, z_con, z_snil, z_scons, z_callU, z_callH, z_callG, z_callX, z_calpU, z_calpH, z_calpG, z_calpX, z_runU, z_run1, z_run2, z_run3, z_run4, z_dat, z_at0, z_at1, z_at2, z_at3, z_at4, z_at5, z_ixT, z_ixL, z_pp, z_add, z_sub, z_mulS, z_mulT, z_mulL, z_lt, z_le, z_gt, z_ge, z_eqI, z_neI, z_eqS, z_isN, z_isnN, z_methH, z_kMeth2, z_kMeth, z_meth, z_recP, z_calmP, z_calmC, z_prpG, z_prpP, z_kProp, z_prop, z_objP, z_kOwn2, z_kOwn, z_kOwnC2, z_kOwnC, z_opc, z_opb, z_own, z_ownP, z_ownC, z_ownT, z_kLenO, z_lenO, z_lenP, z_kIsc, z_isc, z_bindX, z_kRai, z_rai, z_rai0, z_rai1, z_rai2, z_hd, z_hdF, z_hdT, z_nm0, z_rm0, z_rm1, z_ht0, z_ht1, z_ht2, z_ht3, z_try, z_try0, z_tryX, z_kSX, z_clpG, z_clp0, z_calp0, z_kIscT, z_kSpl2, z_kSpl, z_spl, z_kJoi2, z_kJoi, z_joi, z_kMkc, z_mkc, z_mkcG, z_mkcH, z_mkcF, z_kAugf2, z_kAugf, z_augf, z_fns, z_ini, z_gl, z_xf, z_fa, z_pI, z_binC, z_ixC, z_stC, z_lenC, z_lenD, z_max, z_min, z_int, z_lenL, z_lenT, z_ten18, z_ix0, z_ix2, z_line0, z_line1, z_line2, z_line3, z_line4, z_line5, z_line6, z_line7, z_line8, z_q1, z_q2, z_q3, z_q4, z_q5, z_q6, z_q7, z_q8, z_q9, z_q10, z_q11, z_q12, z_q13, z_q14, z_q15, z_sqT, z_sqL, z_sqS, z_as1, z_as2, z_tupL, z_sumT, z_sum, z_w0, z_w1, z_augS, z_augA, z_fnd, z_lenA, z_lenB, z_rcA, z_mtA, z_lcat, z_lset, z_stA, z_ixA, z_ixM, z_i0, z_i1, z_i2, z_i3, z_fdiv2, z_fdiv6, z_fmod6, z_mul6, z_mul2, z_slT, z_slL, z_p1, z_p2, zu_hm, zu_hp1, zu_hp2, v_x_InvalidCourse, v_x_TooHigh, v_MOST_COURSES, v_MOST_KIND, v_NO_HOLES, v_SIDES, v_WIDTHS, beq_self_eq_true, Option.getD_some, Option.getD_none, List.getElem?_cons_zero, List.getElem?_cons_succ, Option.bind_some, Option.bind_none, id_eq, Option.map_some, Option.map_none, purs, noloc, setN, List.set_cons_zero, List.set_cons_succ, List.map_cons, List.map_nil, List.length_cons, List.length_nil, List.cons_append, List.nil_append, List.append_nil, List.replicate_succ, List.replicate_zero, Nat.reduceSub, Nat.reduceAdd, Nat.reduceEqDiff, Nat.reduceBEq, if_true, if_false, ↓reduceIte, Bool.not_true, Bool.not_false, decide_true, decide_false, isNon, dselP, eq_self, Bool.and_self, Bool.and_true, Bool.true_and, Int.cast_ofNat_Int, e1, ixe, lk_ix, y_nm1, Option.isSome_some]
  rfl
theorem tried_ok {cs : List Crs} (ok : ∀ c ∈ cs, okC c) (h1 : 1 ≤ cs.length) (h3 : cs.length ≤ 3) : F__law_tried [.pur (.tup (cs.map enc))] [] = .ok (hp cs) [] := by
  have e1 := make_ok ok h1 h3
  unfold hp at e1 ⊢
  unfold F__law_tried d__law_tried b__law_tried
  simp only [g__law_tried_x, g__law_tried_Heap, g__law_tried_g, g__law_tried_a, z_bind, z_st, z_pS, z_slot, z_cst, z_glb, z_kTup, z_kLst, z_kLstL, z_kLstC, z_kBin2, z_kBin, z_kNeg, z_kCmp2, z_kCmp, z_kChn2, z_kChn, z_kNot, z_kIte, z_kIdx2, z_kIdx, z_kSlc3, z_kSlc2, z_kSlc, z_kSome, z_kRev, z_kDsel2, z_kDsel, z_kIsi, z_kIsT, z_kBif, z_kListC, z_kLrg, z_lrg, z_kMth2, z_kMth, z_kFld, z_kCall, z_kCalp, z_kMkf, z_kLc, z_tup, z_lst, z_lstL, z_lstC, z_bin, z_neg, z_cmp, z_chn, z_bop, z_not, z_ite, z_idx, z_slc, z_rev, z_dsel, z_isi, z_isT, z_bif, z_listC, z_mth, z_fld, z_call, z_calp, z_mkf, z_frz, z_nil, z_kCons2, z_kCons, z_kStar2, z_kStar, z_kB, z_cons, z_star, z_b1, z_b2, z_o0, z_o1, z_kSeq, z_kEnu, z_kRng1, z_kRng3, z_kRng2, z_kC, z_seq, z_enu, z_c0, z_c1, z_kAsg, z_kUnp, z_kPar, z_kSto26, z_kSto25, z_kSto24, z_kSto23, z_kSto22, z_sto2, z_kSto3, z_kSto2, z_kSto, z_kAugs3, z_kAugs2, z_kAugs, z_kAug, z_kStf2, z_kStf, z_kExp, z_kRet, z_kIfs, z_kFor, z_kS, z_asg, z_unp, z_par, z_sto, z_augs, z_aug, z_stf, z_exp, z_ret, z_ret0, z_ifs, z_forr, z_whil, z_pas, z_brk, z_con, z_snil, z_scons, z_callU, z_callH, z_callG, z_callX, z_calpU, z_calpH, z_calpG, z_calpX, z_runU, z_run1, z_run2, z_run3, z_run4, z_dat, z_at0, z_at1, z_at2, z_at3, z_at4, z_at5, z_ixT, z_ixL, z_pp, z_add, z_sub, z_mulS, z_mulT, z_mulL, z_lt, z_le, z_gt, z_ge, z_eqI, z_neI, z_eqS, z_isN, z_isnN, z_methH, z_kMeth2, z_kMeth, z_meth, z_recP, z_calmP, z_calmC, z_prpG, z_prpP, z_kProp, z_prop, z_objP, z_kOwn2, z_kOwn, z_kOwnC2, z_kOwnC, z_opc, z_opb, z_own, z_ownP, z_ownC, z_ownT, z_kLenO, z_lenO, z_lenP, z_kIsc, z_isc, z_bindX, z_kRai, z_rai, z_rai0, z_rai1, z_rai2, z_hd, z_hdF, z_hdT, z_nm0, z_rm0, z_rm1, z_ht0, z_ht1, z_ht2, z_ht3, z_try, z_try0, z_tryX, z_kSX, z_clpG, z_clp0, z_calp0, z_kIscT, z_kSpl2, z_kSpl, z_spl, z_kJoi2, z_kJoi, z_joi, z_kMkc, z_mkc, z_mkcG, z_mkcH, z_mkcF, z_kAugf2, z_kAugf, z_augf, z_fns, z_ini, z_gl, z_xf, z_fa, z_pI, z_binC, z_ixC, z_stC, z_lenC, z_lenD, z_max, z_min, z_int, z_lenL, z_lenT, z_ten18, z_ix0, z_ix2, z_line0, z_line1, z_line2, z_line3, z_line4, z_line5, z_line6, z_line7, z_line8, z_q1, z_q2, z_q3, z_q4, z_q5, z_q6, z_q7, z_q8, z_q9, z_q10, z_q11, z_q12, z_q13, z_q14, z_q15, z_sqT, z_sqL, z_sqS, z_as1, z_as2, z_tupL, z_sumT, z_sum, z_w0, z_w1, z_augS, z_augA, z_fnd, z_lenA, z_lenB, z_rcA, z_mtA, z_lcat, z_lset, z_stA, z_ixA, z_ixM, z_i0, z_i1, z_i2, z_i3, z_fdiv2, z_fdiv6, z_fmod6, z_mul6, z_mul2, z_slT, z_slL, z_p1, z_p2, zu_hm, zu_hp1, zu_hp2, v_x_InvalidCourse, v_x_TooHigh, v_MOST_COURSES, v_MOST_KIND, v_NO_HOLES, v_SIDES, v_WIDTHS, beq_self_eq_true, Option.getD_some, Option.getD_none, List.getElem?_cons_zero, List.getElem?_cons_succ, Option.bind_some, Option.bind_none, id_eq, Option.map_some, Option.map_none, purs, noloc, setN, List.set_cons_zero, List.set_cons_succ, List.map_cons, List.map_nil, List.length_cons, List.length_nil, List.cons_append, List.nil_append, List.append_nil, List.replicate_succ, List.replicate_zero, Nat.reduceSub, Nat.reduceAdd, Nat.reduceEqDiff, Nat.reduceBEq, if_true, if_false, ↓reduceIte, Bool.not_true, Bool.not_false, decide_true, decide_false, isNon, dselP, eq_self, Bool.and_self, Bool.and_true, Bool.true_and, Int.cast_ofNat_Int, e1]
/-! ### told -/
theorem len_ok (cs : List Crs) : F_Heap___len__ [hp cs] [] = .ok (.pur (.int (cs.length : Int))) [] := by
  have ef := fld_ok cs
  unfold F_Heap___len__ d_Heap___len__ b_Heap___len__
  unfold hp at ef ⊢
  simp only [g_Heap___len___x, g_Heap___len___g, g_Heap___len___a, z_bind, z_st, z_pS, z_slot, z_cst, z_glb, z_kTup, z_kLst, z_kLstL, z_kLstC, z_kBin2, z_kBin, z_kNeg, z_kCmp2, z_kCmp, z_kChn2, z_kChn, z_kNot, z_kIte, z_kIdx2, z_kIdx, z_kSlc3, z_kSlc2, z_kSlc, z_kSome, z_kRev, z_kDsel2, z_kDsel, z_kIsi, z_kIsT, z_kBif, z_kListC, z_kLrg, z_lrg, z_kMth2, z_kMth, z_kFld, z_kCall, z_kCalp, z_kMkf, z_kLc, z_tup, z_lst, z_lstL, z_lstC, z_bin, z_neg, z_cmp, z_chn, z_bop, z_not, z_ite, z_idx, z_slc, z_rev, z_dsel, z_isi, z_isT, z_bif, z_listC, z_mth, z_fld, z_call, z_calp, z_mkf, z_frz, z_nil, z_kCons2, z_kCons, z_kStar2, z_kStar, z_kB, z_cons, z_star, z_b1, z_b2, z_o0, z_o1, z_kSeq, z_kEnu, z_kRng1, z_kRng3, z_kRng2, z_kC, z_seq, z_enu, z_c0, z_c1, z_kAsg, z_kUnp, z_kPar, z_kSto26, z_kSto25, z_kSto24, z_kSto23, z_kSto22, z_sto2, z_kSto3, z_kSto2, z_kSto, z_kAugs3, z_kAugs2, z_kAugs, z_kAug, z_kStf2, z_kStf, z_kExp, z_kRet, z_kIfs, z_kFor, z_kS, z_asg, z_unp, z_par, z_sto, z_augs, z_aug, z_stf, z_exp, z_ret, z_ret0, z_ifs, z_forr, z_whil, z_pas, z_brk, z_con, z_snil, z_scons, z_callU, z_callH, z_callG, z_callX, z_calpU, z_calpH, z_calpG, z_calpX, z_runU, z_run1, z_run2, z_run3, z_run4, z_dat, z_at0, z_at1, z_at2, z_at3, z_at4, z_at5, z_ixT, z_ixL, z_pp, z_add, z_sub, z_mulS, z_mulT, z_mulL, z_lt, z_le, z_gt, z_ge, z_eqI, z_neI, z_eqS, z_isN, z_isnN, z_methH, z_kMeth2, z_kMeth, z_meth, z_recP, z_calmP, z_calmC, z_prpG, z_prpP, z_kProp, z_prop, z_objP, z_kOwn2, z_kOwn, z_kOwnC2, z_kOwnC, z_opc, z_opb, z_own, z_ownP, z_ownC, z_ownT, z_kLenO, z_lenO, z_lenP, z_kIsc, z_isc, z_bindX, z_kRai, z_rai, z_rai0, z_rai1, z_rai2, z_hd, z_hdF, z_hdT, z_nm0, z_rm0, z_rm1, z_ht0, z_ht1, z_ht2, z_ht3, z_try, z_try0, z_tryX, z_kSX, z_clpG, z_clp0, z_calp0, z_kIscT, z_kSpl2, z_kSpl, z_spl, z_kJoi2, z_kJoi, z_joi, z_kMkc, z_mkc, z_mkcG, z_mkcH, z_mkcF, z_kAugf2, z_kAugf, z_augf, z_fns, z_ini, z_gl, z_xf, z_fa, z_pI, z_binC, z_ixC, z_stC, z_lenC, z_lenD, z_max, z_min, z_int, z_lenL, z_lenT, z_ten18, z_ix0, z_ix2, z_line0, z_line1, z_line2, z_line3, z_line4, z_line5, z_line6, z_line7, z_line8, z_q1, z_q2, z_q3, z_q4, z_q5, z_q6, z_q7, z_q8, z_q9, z_q10, z_q11, z_q12, z_q13, z_q14, z_q15, z_sqT, z_sqL, z_sqS, z_as1, z_as2, z_tupL, z_sumT, z_sum, z_w0, z_w1, z_augS, z_augA, z_fnd, z_lenA, z_lenB, z_rcA, z_mtA, z_lcat, z_lset, z_stA, z_ixA, z_ixM, z_i0, z_i1, z_i2, z_i3, z_fdiv2, z_fdiv6, z_fmod6, z_mul6, z_mul2, z_slT, z_slL, z_p1, z_p2, zu_hm, zu_hp1, zu_hp2, v_x_InvalidCourse, v_x_TooHigh, v_MOST_COURSES, v_MOST_KIND, v_NO_HOLES, v_SIDES, v_WIDTHS, beq_self_eq_true, Option.getD_some, Option.getD_none, List.getElem?_cons_zero, List.getElem?_cons_succ, Option.bind_some, Option.bind_none, id_eq, Option.map_some, Option.map_none, purs, noloc, setN, List.set_cons_zero, List.set_cons_succ, List.map_cons, List.map_nil, List.length_cons, List.length_nil, List.cons_append, List.nil_append, List.append_nil, List.replicate_succ, List.replicate_zero, Nat.reduceSub, Nat.reduceAdd, Nat.reduceEqDiff, Nat.reduceBEq, if_true, if_false, ↓reduceIte, Bool.not_true, Bool.not_false, decide_true, decide_false, isNon, dselP, eq_self, Bool.and_self, Bool.and_true, Bool.true_and, Int.cast_ofNat_Int, ef, List.length_map]
theorem heq_tup (cs : List Crs) (ps : List P) : F_Heap___eq__ [hp cs, .pur (.tup ps)] [] = .ok (.pur (.bl false)) [] := by
  unfold F_Heap___eq__ d_Heap___eq__ b_Heap___eq__
  unfold hp
  simp only [g_Heap___eq___x, g_Heap___eq___g, g_Heap___eq___a, z_bind, z_st, z_pS, z_slot, z_cst, z_glb, z_kTup, z_kLst, z_kLstL, z_kLstC, z_kBin2, z_kBin, z_kNeg, z_kCmp2, z_kCmp, z_kChn2, z_kChn, z_kNot, z_kIte, z_kIdx2, z_kIdx, z_kSlc3, z_kSlc2, z_kSlc, z_kSome, z_kRev, z_kDsel2, z_kDsel, z_kIsi, z_kIsT, z_kBif, z_kListC, z_kLrg, z_lrg, z_kMth2, z_kMth, z_kFld, z_kCall, z_kCalp, z_kMkf, z_kLc, z_tup, z_lst, z_lstL, z_lstC, z_bin, z_neg, z_cmp, z_chn, z_bop, z_not, z_ite, z_idx, z_slc, z_rev, z_dsel, z_isi, z_isT, z_bif, z_listC, z_mth, z_fld, z_call, z_calp, z_mkf, z_frz, z_nil, z_kCons2, z_kCons, z_kStar2, z_kStar, z_kB, z_cons, z_star, z_b1, z_b2, z_o0, z_o1, z_kSeq, z_kEnu, z_kRng1, z_kRng3, z_kRng2, z_kC, z_seq, z_enu, z_c0, z_c1, z_kAsg, z_kUnp, z_kPar, z_kSto26, z_kSto25, z_kSto24, z_kSto23, z_kSto22, z_sto2, z_kSto3, z_kSto2, z_kSto, z_kAugs3, z_kAugs2, z_kAugs, z_kAug, z_kStf2, z_kStf, z_kExp, z_kRet, z_kIfs, z_kFor, z_kS, z_asg, z_unp, z_par, z_sto, z_augs, z_aug, z_stf, z_exp, z_ret, z_ret0, z_ifs, z_forr, z_whil, z_pas, z_brk, z_con, z_snil, z_scons, z_callU, z_callH, z_callG, z_callX, z_calpU, z_calpH, z_calpG, z_calpX, z_runU, z_run1, z_run2, z_run3, z_run4, z_dat, z_at0, z_at1, z_at2, z_at3, z_at4, z_at5, z_ixT, z_ixL, z_pp, z_add, z_sub, z_mulS, z_mulT, z_mulL, z_lt, z_le, z_gt, z_ge, z_eqI, z_neI, z_eqS, z_isN, z_isnN, z_methH, z_kMeth2, z_kMeth, z_meth, z_recP, z_calmP, z_calmC, z_prpG, z_prpP, z_kProp, z_prop, z_objP, z_kOwn2, z_kOwn, z_kOwnC2, z_kOwnC, z_opc, z_opb, z_own, z_ownP, z_ownC, z_ownT, z_kLenO, z_lenO, z_lenP, z_kIsc, z_isc, z_bindX, z_kRai, z_rai, z_rai0, z_rai1, z_rai2, z_hd, z_hdF, z_hdT, z_nm0, z_rm0, z_rm1, z_ht0, z_ht1, z_ht2, z_ht3, z_try, z_try0, z_tryX, z_kSX, z_clpG, z_clp0, z_calp0, z_kIscT, z_kSpl2, z_kSpl, z_spl, z_kJoi2, z_kJoi, z_joi, z_kMkc, z_mkc, z_mkcG, z_mkcH, z_mkcF, z_kAugf2, z_kAugf, z_augf, z_fns, z_ini, z_gl, z_xf, z_fa, z_pI, z_binC, z_ixC, z_stC, z_lenC, z_lenD, z_max, z_min, z_int, z_lenL, z_lenT, z_ten18, z_ix0, z_ix2, z_line0, z_line1, z_line2, z_line3, z_line4, z_line5, z_line6, z_line7, z_line8, z_q1, z_q2, z_q3, z_q4, z_q5, z_q6, z_q7, z_q8, z_q9, z_q10, z_q11, z_q12, z_q13, z_q14, z_q15, z_sqT, z_sqL, z_sqS, z_as1, z_as2, z_tupL, z_sumT, z_sum, z_w0, z_w1, z_augS, z_augA, z_fnd, z_lenA, z_lenB, z_rcA, z_mtA, z_lcat, z_lset, z_stA, z_ixA, z_ixM, z_i0, z_i1, z_i2, z_i3, z_fdiv2, z_fdiv6, z_fmod6, z_mul6, z_mul2, z_slT, z_slL, z_p1, z_p2, zu_hm, zu_hp1, zu_hp2, v_x_InvalidCourse, v_x_TooHigh, v_MOST_COURSES, v_MOST_KIND, v_NO_HOLES, v_SIDES, v_WIDTHS, beq_self_eq_true, Option.getD_some, Option.getD_none, List.getElem?_cons_zero, List.getElem?_cons_succ, Option.bind_some, Option.bind_none, id_eq, Option.map_some, Option.map_none, purs, noloc, setN, List.set_cons_zero, List.set_cons_succ, List.map_cons, List.map_nil, List.length_cons, List.length_nil, List.cons_append, List.nil_append, List.append_nil, List.replicate_succ, List.replicate_zero, Nat.reduceSub, Nat.reduceAdd, Nat.reduceEqDiff, Nat.reduceBEq, if_true, if_false, ↓reduceIte, Bool.not_true, Bool.not_false, decide_true, decide_false, isNon, dselP, eq_self, Bool.and_self, Bool.and_true, Bool.true_and, Int.cast_ofNat_Int]
theorem gtI {i j : Int} : cmpD .Gt (.pur (.int i)) (.pur (.int j)) = some (decide (j < i)) := (rfl)
theorem joined_ok {a b : List Crs} (oka : ∀ c ∈ a, okC c) (okb : ∀ c ∈ b, okC c) (h1 : 1 ≤ a.length) (h3 : a.length ≤ 3) (h3' : b.length ≤ 3) : F__law_joined [hp a, hp b] [] = .ok (if 3 < a.length + b.length then .pur .non else hp (a ++ b)) [] := by
  have fa := fld_ok a
  have fb := fld_ok b
  by_cases h : 3 < a.length + b.length
  · have h' : (3 : Int) < (a.length : Int) + (b.length : Int) := by omega
    have e : F_Heap___add__ [hp a, hp b] [] = .ex ⟨3, []⟩ [] := by
      unfold F_Heap___add__ d_Heap___add__ b_Heap___add__
      unfold hp at fa fb ⊢
      simp only [g_Heap___add___x, g_Heap___add___Heap, g_Heap___add___g, g_Heap___add___a, z_bind, z_st, z_pS, z_slot, z_cst, z_glb, z_kTup, z_kLst, z_kLstL, z_kLstC, z_kBin2, z_kBin, z_kNeg, z_kCmp2, z_kCmp, z_kChn2, z_kChn, z_kNot, z_kIte, z_kIdx2, z_kIdx, z_kSlc3, z_kSlc2, z_kSlc, z_kSome, z_kRev, z_kDsel2, z_kDsel, z_kIsi, z_kIsT, z_kBif, z_kListC, z_kLrg, z_lrg, z_kMth2, z_kMth, z_kFld, z_kCall, z_kCalp, z_kMkf, z_kLc, z_tup, z_lst, z_lstL, z_lstC, z_bin, z_neg, z_cmp, z_chn, z_bop, z_not, z_ite, z_idx, z_slc, z_rev, z_dsel, z_isi, z_isT, z_bif, z_listC, z_mth, z_fld, z_call, z_calp, z_mkf, z_frz, z_nil, z_kCons2, z_kCons, z_kStar2, z_kStar, z_kB, z_cons, z_star, z_b1, z_b2, z_o0, z_o1, z_kSeq, z_kEnu, z_kRng1, z_kRng3, z_kRng2, z_kC, z_seq, z_enu, z_c0, z_c1, z_kAsg, z_kUnp, z_kPar, z_kSto26, z_kSto25, z_kSto24, z_kSto23, z_kSto22, z_sto2, z_kSto3, z_kSto2, z_kSto, z_kAugs3, z_kAugs2, z_kAugs, z_kAug, z_kStf2, z_kStf, z_kExp, z_kRet, z_kIfs, z_kFor, z_kS, z_asg, z_unp, z_par, z_sto, z_augs, z_aug, z_stf, z_exp, z_ret, z_ret0, z_ifs, z_forr, z_whil, z_pas, z_brk, z_con, z_snil, z_scons, z_callU, z_callH, z_callG, z_callX, z_calpU, z_calpH, z_calpG, z_calpX, z_runU, z_run1, z_run2, z_run3, z_run4, z_dat, z_at0, z_at1, z_at2, z_at3, z_at4, z_at5, z_ixT, z_ixL, z_pp, z_add, z_sub, z_mulS, z_mulT, z_mulL, z_lt, z_le, z_gt, z_ge, z_eqI, z_neI, z_eqS, z_isN, z_isnN, z_methH, z_kMeth2, z_kMeth, z_meth, z_recP, z_calmP, z_calmC, z_prpG, z_prpP, z_kProp, z_prop, z_objP, z_kOwn2, z_kOwn, z_kOwnC2, z_kOwnC, z_opc, z_opb, z_own, z_ownP, z_ownC, z_ownT, z_kLenO, z_lenO, z_lenP, z_kIsc, z_isc, z_bindX, z_kRai, z_rai, z_rai0, z_rai1, z_rai2, z_hd, z_hdF, z_hdT, z_nm0, z_rm0, z_rm1, z_ht0, z_ht1, z_ht2, z_ht3, z_try, z_try0, z_tryX, z_kSX, z_clpG, z_clp0, z_calp0, z_kIscT, z_kSpl2, z_kSpl, z_spl, z_kJoi2, z_kJoi, z_joi, z_kMkc, z_mkc, z_mkcG, z_mkcH, z_mkcF, z_kAugf2, z_kAugf, z_augf, z_fns, z_ini, z_gl, z_xf, z_fa, z_pI, z_binC, z_ixC, z_stC, z_lenC, z_lenD, z_max, z_min, z_int, z_lenL, z_lenT, z_ten18, z_ix0, z_ix2, z_line0, z_line1, z_line2, z_line3, z_line4, z_line5, z_line6, z_line7, z_line8, z_q1, z_q2, z_q3, z_q4, z_q5, z_q6, z_q7, z_q8, z_q9, z_q10, z_q11, z_q12, z_q13, z_q14, z_q15, z_sqT, z_sqL, z_sqS, z_as1, z_as2, z_tupL, z_sumT, z_sum, z_w0, z_w1, z_augS, z_augA, z_fnd, z_lenA, z_lenB, z_rcA, z_mtA, z_lcat, z_lset, z_stA, z_ixA, z_ixM, z_i0, z_i1, z_i2, z_i3, z_fdiv2, z_fdiv6, z_fmod6, z_mul6, z_mul2, z_slT, z_slL, z_p1, z_p2, zu_hm, zu_hp1, zu_hp2, v_x_InvalidCourse, v_x_TooHigh, v_MOST_COURSES, v_MOST_KIND, v_NO_HOLES, v_SIDES, v_WIDTHS, beq_self_eq_true, Option.getD_some, Option.getD_none, List.getElem?_cons_zero, List.getElem?_cons_succ, Option.bind_some, Option.bind_none, id_eq, Option.map_some, Option.map_none, purs, noloc, setN, List.set_cons_zero, List.set_cons_succ, List.map_cons, List.map_nil, List.length_cons, List.length_nil, List.cons_append, List.nil_append, List.append_nil, List.replicate_succ, List.replicate_zero, Nat.reduceSub, Nat.reduceAdd, Nat.reduceEqDiff, Nat.reduceBEq, if_true, if_false, ↓reduceIte, Bool.not_true, Bool.not_false, decide_true, decide_false, isNon, dselP, eq_self, Bool.and_self, Bool.and_true, Bool.true_and, Int.cast_ofNat_Int, fa, fb, List.length_map, gtI, h']
    rw [if_pos h]
    unfold hp at e ⊢
    unfold F__law_joined d__law_joined b__law_joined
    simp only [g__law_joined_x, g__law_joined_Heap___add__, g__law_joined_g, g__law_joined_a, z_bind, z_st, z_pS, z_slot, z_cst, z_glb, z_kTup, z_kLst, z_kLstL, z_kLstC, z_kBin2, z_kBin, z_kNeg, z_kCmp2, z_kCmp, z_kChn2, z_kChn, z_kNot, z_kIte, z_kIdx2, z_kIdx, z_kSlc3, z_kSlc2, z_kSlc, z_kSome, z_kRev, z_kDsel2, z_kDsel, z_kIsi, z_kIsT, z_kBif, z_kListC, z_kLrg, z_lrg, z_kMth2, z_kMth, z_kFld, z_kCall, z_kCalp, z_kMkf, z_kLc, z_tup, z_lst, z_lstL, z_lstC, z_bin, z_neg, z_cmp, z_chn, z_bop, z_not, z_ite, z_idx, z_slc, z_rev, z_dsel, z_isi, z_isT, z_bif, z_listC, z_mth, z_fld, z_call, z_calp, z_mkf, z_frz, z_nil, z_kCons2, z_kCons, z_kStar2, z_kStar, z_kB, z_cons, z_star, z_b1, z_b2, z_o0, z_o1, z_kSeq, z_kEnu, z_kRng1, z_kRng3, z_kRng2, z_kC, z_seq, z_enu, z_c0, z_c1, z_kAsg, z_kUnp, z_kPar, z_kSto26, z_kSto25, z_kSto24, z_kSto23, z_kSto22, z_sto2, z_kSto3, z_kSto2, z_kSto, z_kAugs3, z_kAugs2, z_kAugs, z_kAug, z_kStf2, z_kStf, z_kExp, z_kRet, z_kIfs, z_kFor, z_kS, z_asg, z_unp, z_par, z_sto, z_augs, z_aug, z_stf, z_exp, z_ret, z_ret0, z_ifs, z_forr, z_whil, z_pas, z_brk, z_con, z_snil, z_scons, z_callU, z_callH, z_callG, z_callX, z_calpU, z_calpH, z_calpG, z_calpX, z_runU, z_run1, z_run2, z_run3, z_run4, z_dat, z_at0, z_at1, z_at2, z_at3, z_at4, z_at5, z_ixT, z_ixL, z_pp, z_add, z_sub, z_mulS, z_mulT, z_mulL, z_lt, z_le, z_gt, z_ge, z_eqI, z_neI, z_eqS, z_isN, z_isnN, z_methH, z_kMeth2, z_kMeth, z_meth, z_recP, z_calmP, z_calmC, z_prpG, z_prpP, z_kProp, z_prop, z_objP, z_kOwn2, z_kOwn, z_kOwnC2, z_kOwnC, z_opc, z_opb, z_own, z_ownP, z_ownC, z_ownT, z_kLenO, z_lenO, z_lenP, z_kIsc, z_isc, z_bindX, z_kRai, z_rai, z_rai0, z_rai1, z_rai2, z_hd, z_hdF, z_hdT, z_nm0, z_rm0, z_rm1, z_ht0, z_ht1, z_ht2, z_ht3, z_try, z_try0, z_tryX, z_kSX, z_clpG, z_clp0, z_calp0, z_kIscT, z_kSpl2, z_kSpl, z_spl, z_kJoi2, z_kJoi, z_joi, z_kMkc, z_mkc, z_mkcG, z_mkcH, z_mkcF, z_kAugf2, z_kAugf, z_augf, z_fns, z_ini, z_gl, z_xf, z_fa, z_pI, z_binC, z_ixC, z_stC, z_lenC, z_lenD, z_max, z_min, z_int, z_lenL, z_lenT, z_ten18, z_ix0, z_ix2, z_line0, z_line1, z_line2, z_line3, z_line4, z_line5, z_line6, z_line7, z_line8, z_q1, z_q2, z_q3, z_q4, z_q5, z_q6, z_q7, z_q8, z_q9, z_q10, z_q11, z_q12, z_q13, z_q14, z_q15, z_sqT, z_sqL, z_sqS, z_as1, z_as2, z_tupL, z_sumT, z_sum, z_w0, z_w1, z_augS, z_augA, z_fnd, z_lenA, z_lenB, z_rcA, z_mtA, z_lcat, z_lset, z_stA, z_ixA, z_ixM, z_i0, z_i1, z_i2, z_i3, z_fdiv2, z_fdiv6, z_fmod6, z_mul6, z_mul2, z_slT, z_slL, z_p1, z_p2, zu_hm, zu_hp1, zu_hp2, v_x_InvalidCourse, v_x_TooHigh, v_MOST_COURSES, v_MOST_KIND, v_NO_HOLES, v_SIDES, v_WIDTHS, beq_self_eq_true, Option.getD_some, Option.getD_none, List.getElem?_cons_zero, List.getElem?_cons_succ, Option.bind_some, Option.bind_none, id_eq, Option.map_some, Option.map_none, purs, noloc, setN, List.set_cons_zero, List.set_cons_succ, List.map_cons, List.map_nil, List.length_cons, List.length_nil, List.cons_append, List.nil_append, List.append_nil, List.replicate_succ, List.replicate_zero, Nat.reduceSub, Nat.reduceAdd, Nat.reduceEqDiff, Nat.reduceBEq, if_true, if_false, ↓reduceIte, Bool.not_true, Bool.not_false, decide_true, decide_false, isNon, dselP, eq_self, Bool.and_self, Bool.and_true, Bool.true_and, Int.cast_ofNat_Int, e, Option.isSome_some]
  · have h' : ¬ (3 : Int) < (a.length : Int) + (b.length : Int) := by omega
    have hl : (a.map enc).length + (b.map enc).length ≤ line := by rw [List.length_map, List.length_map]; unfold line; omega
    have e : F_Heap___add__ [hp a, hp b] [] = .ok (hp (a ++ b)) [] := by
      have em := make_ok (cs := a ++ b) (fun c hc => by
        rcases List.mem_append.mp hc with hc | hc
        · exact oka c hc
        · exact okb c hc) (by rw [List.length_append]; omega) (by rw [List.length_append]; omega)
      rw [List.map_append] at em
      unfold F_Heap___add__ d_Heap___add__ b_Heap___add__
      unfold hp at fa fb em ⊢
      have a1 : binP .Add (.tup (a.map enc)) (.tup (b.map enc)) = some (.tup (a.map enc ++ b.map enc)) := by rw [addTT, if_pos hl]
      simp only [g_Heap___add___x, g_Heap___add___Heap, g_Heap___add___g, g_Heap___add___a, z_bind, z_st, z_pS, z_slot, z_cst, z_glb, z_kTup, z_kLst, z_kLstL, z_kLstC, z_kBin2, z_kBin, z_kNeg, z_kCmp2, z_kCmp, z_kChn2, z_kChn, z_kNot, z_kIte, z_kIdx2, z_kIdx, z_kSlc3, z_kSlc2, z_kSlc, z_kSome, z_kRev, z_kDsel2, z_kDsel, z_kIsi, z_kIsT, z_kBif, z_kListC, z_kLrg, z_lrg, z_kMth2, z_kMth, z_kFld, z_kCall, z_kCalp, z_kMkf, z_kLc, z_tup, z_lst, z_lstL, z_lstC, z_bin, z_neg, z_cmp, z_chn, z_bop, z_not, z_ite, z_idx, z_slc, z_rev, z_dsel, z_isi, z_isT, z_bif, z_listC, z_mth, z_fld, z_call, z_calp, z_mkf, z_frz, z_nil, z_kCons2, z_kCons, z_kStar2, z_kStar, z_kB, z_cons, z_star, z_b1, z_b2, z_o0, z_o1, z_kSeq, z_kEnu, z_kRng1, z_kRng3, z_kRng2, z_kC, z_seq, z_enu, z_c0, z_c1, z_kAsg, z_kUnp, z_kPar, z_kSto26, z_kSto25, z_kSto24, z_kSto23, z_kSto22, z_sto2, z_kSto3, z_kSto2, z_kSto, z_kAugs3, z_kAugs2, z_kAugs, z_kAug, z_kStf2, z_kStf, z_kExp, z_kRet, z_kIfs, z_kFor, z_kS, z_asg, z_unp, z_par, z_sto, z_augs, z_aug, z_stf, z_exp, z_ret, z_ret0, z_ifs, z_forr, z_whil, z_pas, z_brk, z_con, z_snil, z_scons, z_callU, z_callH, z_callG, z_callX, z_calpU, z_calpH, z_calpG, z_calpX, z_runU, z_run1, z_run2, z_run3, z_run4, z_dat, z_at0, z_at1, z_at2, z_at3, z_at4, z_at5, z_ixT, z_ixL, z_pp, z_add, z_sub, z_mulS, z_mulT, z_mulL, z_lt, z_le, z_gt, z_ge, z_eqI, z_neI, z_eqS, z_isN, z_isnN, z_methH, z_kMeth2, z_kMeth, z_meth, z_recP, z_calmP, z_calmC, z_prpG, z_prpP, z_kProp, z_prop, z_objP, z_kOwn2, z_kOwn, z_kOwnC2, z_kOwnC, z_opc, z_opb, z_own, z_ownP, z_ownC, z_ownT, z_kLenO, z_lenO, z_lenP, z_kIsc, z_isc, z_bindX, z_kRai, z_rai, z_rai0, z_rai1, z_rai2, z_hd, z_hdF, z_hdT, z_nm0, z_rm0, z_rm1, z_ht0, z_ht1, z_ht2, z_ht3, z_try, z_try0, z_tryX, z_kSX, z_clpG, z_clp0, z_calp0, z_kIscT, z_kSpl2, z_kSpl, z_spl, z_kJoi2, z_kJoi, z_joi, z_kMkc, z_mkc, z_mkcG, z_mkcH, z_mkcF, z_kAugf2, z_kAugf, z_augf, z_fns, z_ini, z_gl, z_xf, z_fa, z_pI, z_binC, z_ixC, z_stC, z_lenC, z_lenD, z_max, z_min, z_int, z_lenL, z_lenT, z_ten18, z_ix0, z_ix2, z_line0, z_line1, z_line2, z_line3, z_line4, z_line5, z_line6, z_line7, z_line8, z_q1, z_q2, z_q3, z_q4, z_q5, z_q6, z_q7, z_q8, z_q9, z_q10, z_q11, z_q12, z_q13, z_q14, z_q15, z_sqT, z_sqL, z_sqS, z_as1, z_as2, z_tupL, z_sumT, z_sum, z_w0, z_w1, z_augS, z_augA, z_fnd, z_lenA, z_lenB, z_rcA, z_mtA, z_lcat, z_lset, z_stA, z_ixA, z_ixM, z_i0, z_i1, z_i2, z_i3, z_fdiv2, z_fdiv6, z_fmod6, z_mul6, z_mul2, z_slT, z_slL, z_p1, z_p2, zu_hm, zu_hp1, zu_hp2, v_x_InvalidCourse, v_x_TooHigh, v_MOST_COURSES, v_MOST_KIND, v_NO_HOLES, v_SIDES, v_WIDTHS, beq_self_eq_true, Option.getD_some, Option.getD_none, List.getElem?_cons_zero, List.getElem?_cons_succ, Option.bind_some, Option.bind_none, id_eq, Option.map_some, Option.map_none, purs, noloc, setN, List.set_cons_zero, List.set_cons_succ, List.map_cons, List.map_nil, List.length_cons, List.length_nil, List.cons_append, List.nil_append, List.append_nil, List.replicate_succ, List.replicate_zero, Nat.reduceSub, Nat.reduceAdd, Nat.reduceEqDiff, Nat.reduceBEq, if_true, if_false, ↓reduceIte, Bool.not_true, Bool.not_false, decide_true, decide_false, isNon, dselP, eq_self, Bool.and_self, Bool.and_true, Bool.true_and, Int.cast_ofNat_Int, fa, fb, List.length_map, gtI, h', a1, em, List.map_append]
    rw [if_neg h]
    unfold hp at e ⊢
    unfold F__law_joined d__law_joined b__law_joined
    simp only [g__law_joined_x, g__law_joined_Heap___add__, g__law_joined_g, g__law_joined_a, z_bind, z_st, z_pS, z_slot, z_cst, z_glb, z_kTup, z_kLst, z_kLstL, z_kLstC, z_kBin2, z_kBin, z_kNeg, z_kCmp2, z_kCmp, z_kChn2, z_kChn, z_kNot, z_kIte, z_kIdx2, z_kIdx, z_kSlc3, z_kSlc2, z_kSlc, z_kSome, z_kRev, z_kDsel2, z_kDsel, z_kIsi, z_kIsT, z_kBif, z_kListC, z_kLrg, z_lrg, z_kMth2, z_kMth, z_kFld, z_kCall, z_kCalp, z_kMkf, z_kLc, z_tup, z_lst, z_lstL, z_lstC, z_bin, z_neg, z_cmp, z_chn, z_bop, z_not, z_ite, z_idx, z_slc, z_rev, z_dsel, z_isi, z_isT, z_bif, z_listC, z_mth, z_fld, z_call, z_calp, z_mkf, z_frz, z_nil, z_kCons2, z_kCons, z_kStar2, z_kStar, z_kB, z_cons, z_star, z_b1, z_b2, z_o0, z_o1, z_kSeq, z_kEnu, z_kRng1, z_kRng3, z_kRng2, z_kC, z_seq, z_enu, z_c0, z_c1, z_kAsg, z_kUnp, z_kPar, z_kSto26, z_kSto25, z_kSto24, z_kSto23, z_kSto22, z_sto2, z_kSto3, z_kSto2, z_kSto, z_kAugs3, z_kAugs2, z_kAugs, z_kAug, z_kStf2, z_kStf, z_kExp, z_kRet, z_kIfs, z_kFor, z_kS, z_asg, z_unp, z_par, z_sto, z_augs, z_aug, z_stf, z_exp, z_ret, z_ret0, z_ifs, z_forr, z_whil, z_pas, z_brk, z_con, z_snil, z_scons, z_callU, z_callH, z_callG, z_callX, z_calpU, z_calpH, z_calpG, z_calpX, z_runU, z_run1, z_run2, z_run3, z_run4, z_dat, z_at0, z_at1, z_at2, z_at3, z_at4, z_at5, z_ixT, z_ixL, z_pp, z_add, z_sub, z_mulS, z_mulT, z_mulL, z_lt, z_le, z_gt, z_ge, z_eqI, z_neI, z_eqS, z_isN, z_isnN, z_methH, z_kMeth2, z_kMeth, z_meth, z_recP, z_calmP, z_calmC, z_prpG, z_prpP, z_kProp, z_prop, z_objP, z_kOwn2, z_kOwn, z_kOwnC2, z_kOwnC, z_opc, z_opb, z_own, z_ownP, z_ownC, z_ownT, z_kLenO, z_lenO, z_lenP, z_kIsc, z_isc, z_bindX, z_kRai, z_rai, z_rai0, z_rai1, z_rai2, z_hd, z_hdF, z_hdT, z_nm0, z_rm0, z_rm1, z_ht0, z_ht1, z_ht2, z_ht3, z_try, z_try0, z_tryX, z_kSX, z_clpG, z_clp0, z_calp0, z_kIscT, z_kSpl2, z_kSpl, z_spl, z_kJoi2, z_kJoi, z_joi, z_kMkc, z_mkc, z_mkcG, z_mkcH, z_mkcF, z_kAugf2, z_kAugf, z_augf, z_fns, z_ini, z_gl, z_xf, z_fa, z_pI, z_binC, z_ixC, z_stC, z_lenC, z_lenD, z_max, z_min, z_int, z_lenL, z_lenT, z_ten18, z_ix0, z_ix2, z_line0, z_line1, z_line2, z_line3, z_line4, z_line5, z_line6, z_line7, z_line8, z_q1, z_q2, z_q3, z_q4, z_q5, z_q6, z_q7, z_q8, z_q9, z_q10, z_q11, z_q12, z_q13, z_q14, z_q15, z_sqT, z_sqL, z_sqS, z_as1, z_as2, z_tupL, z_sumT, z_sum, z_w0, z_w1, z_augS, z_augA, z_fnd, z_lenA, z_lenB, z_rcA, z_mtA, z_lcat, z_lset, z_stA, z_ixA, z_ixM, z_i0, z_i1, z_i2, z_i3, z_fdiv2, z_fdiv6, z_fmod6, z_mul6, z_mul2, z_slT, z_slL, z_p1, z_p2, zu_hm, zu_hp1, zu_hp2, v_x_InvalidCourse, v_x_TooHigh, v_MOST_COURSES, v_MOST_KIND, v_NO_HOLES, v_SIDES, v_WIDTHS, beq_self_eq_true, Option.getD_some, Option.getD_none, List.getElem?_cons_zero, List.getElem?_cons_succ, Option.bind_some, Option.bind_none, id_eq, Option.map_some, Option.map_none, purs, noloc, setN, List.set_cons_zero, List.set_cons_succ, List.map_cons, List.map_nil, List.length_cons, List.length_nil, List.cons_append, List.nil_append, List.append_nil, List.replicate_succ, List.replicate_zero, Nat.reduceSub, Nat.reduceAdd, Nat.reduceEqDiff, Nat.reduceBEq, if_true, if_false, ↓reduceIte, Bool.not_true, Bool.not_false, decide_true, decide_false, isNon, dselP, eq_self, Bool.and_self, Bool.and_true, Bool.true_and, Int.cast_ofNat_Int, e]
theorem told_ok {m : List Cell} (hm : Dr m) {cs : List Crs} (ok : ∀ c ∈ cs, okC c) (h1 : 1 ≤ cs.length) (h3 : cs.length ≤ 3) : ∃ m', F__law_are_told [.cel 1, hp cs, .pur (.tup (cs.map enc))] m = .ok (.pur (.bl true)) m' ∧ Dr m' := by
  obtain ⟨cs2, m', e1, ok2, g1, g2, hm'⟩ := courses_ok hm (most := 2) (by omega) (by omega)
  refine ⟨m', ?_, hm'⟩
  have e2 := crs_ok cs
  have e3 := alike_ok (alk_encs (cs := cs) (by omega)) (by omega)
  have e4 := len_ok cs
  have e5 := make_ok ok h1 h3
  have e6 := heq_ok cs
  have e7 := heq_tup cs (cs.map enc)
  have e8 := mirrored_ok ok h1 h3
  have e9 := crs_ok (cs.map mir)
  have e10 := make_ok ok2 g1 (by omega)
  have e11 := joined_ok ok ok2 h1 h3 (by omega)
  have ek : ∀ s : S, 5 < s.r.length → s.r[2]? = some (some (.pur (.tup (cs.map enc)))) → evE G__law_are_told k__law_are_told_1 s = .ok (.pur (.lst ((cs.map mir).map enc))) s := fun s hs a1 => by
    have := lc_mapc (Γ := G__law_are_told) (t := .nm 5) (own := [5]) (e := .calp 33 (.cons (.slot 5) .nil)) enc (fun c => enc (mir c)) cs (it := .seq (.slot 2)) (s := s) (s0 := s) (by
      simp only [z_bind, z_st, z_pS, z_slot, z_cst, z_glb, z_kTup, z_kLst, z_kLstL, z_kLstC, z_kBin2, z_kBin, z_kNeg, z_kCmp2, z_kCmp, z_kChn2, z_kChn, z_kNot, z_kIte, z_kIdx2, z_kIdx, z_kSlc3, z_kSlc2, z_kSlc, z_kSome, z_kRev, z_kDsel2, z_kDsel, z_kIsi, z_kIsT, z_kBif, z_kListC, z_kLrg, z_lrg, z_kMth2, z_kMth, z_kFld, z_kCall, z_kCalp, z_kMkf, z_kLc, z_tup, z_lst, z_lstL, z_lstC, z_bin, z_neg, z_cmp, z_chn, z_bop, z_not, z_ite, z_idx, z_slc, z_rev, z_dsel, z_isi, z_isT, z_bif, z_listC, z_mth, z_fld, z_call, z_calp, z_mkf, z_frz, z_nil, z_kCons2, z_kCons, z_kStar2, z_kStar, z_kB, z_cons, z_star, z_b1, z_b2, z_o0, z_o1, z_kSeq, z_kEnu, z_kRng1, z_kRng3, z_kRng2, z_kC, z_seq, z_enu, z_c0, z_c1, z_kAsg, z_kUnp, z_kPar, z_kSto26, z_kSto25, z_kSto24, z_kSto23, z_kSto22, z_sto2, z_kSto3, z_kSto2, z_kSto, z_kAugs3, z_kAugs2, z_kAugs, z_kAug, z_kStf2, z_kStf, z_kExp, z_kRet, z_kIfs, z_kFor, z_kS, z_asg, z_unp, z_par, z_sto, z_augs, z_aug, z_stf, z_exp, z_ret, z_ret0, z_ifs, z_forr, z_whil, z_pas, z_brk, z_con, z_snil, z_scons, z_callU, z_callH, z_callG, z_callX, z_calpU, z_calpH, z_calpG, z_calpX, z_runU, z_run1, z_run2, z_run3, z_run4, z_dat, z_at0, z_at1, z_at2, z_at3, z_at4, z_at5, z_ixT, z_ixL, z_pp, z_add, z_sub, z_mulS, z_mulT, z_mulL, z_lt, z_le, z_gt, z_ge, z_eqI, z_neI, z_eqS, z_isN, z_isnN, z_methH, z_kMeth2, z_kMeth, z_meth, z_recP, z_calmP, z_calmC, z_prpG, z_prpP, z_kProp, z_prop, z_objP, z_kOwn2, z_kOwn, z_kOwnC2, z_kOwnC, z_opc, z_opb, z_own, z_ownP, z_ownC, z_ownT, z_kLenO, z_lenO, z_lenP, z_kIsc, z_isc, z_bindX, z_kRai, z_rai, z_rai0, z_rai1, z_rai2, z_hd, z_hdF, z_hdT, z_nm0, z_rm0, z_rm1, z_ht0, z_ht1, z_ht2, z_ht3, z_try, z_try0, z_tryX, z_kSX, z_clpG, z_clp0, z_calp0, z_kIscT, z_kSpl2, z_kSpl, z_spl, z_kJoi2, z_kJoi, z_joi, z_kMkc, z_mkc, z_mkcG, z_mkcH, z_mkcF, z_kAugf2, z_kAugf, z_augf, z_fns, z_ini, z_gl, z_xf, z_fa, z_pI, z_binC, z_ixC, z_stC, z_lenC, z_lenD, z_max, z_min, z_int, z_lenL, z_lenT, z_ten18, z_ix0, z_ix2, z_line0, z_line1, z_line2, z_line3, z_line4, z_line5, z_line6, z_line7, z_line8, z_q1, z_q2, z_q3, z_q4, z_q5, z_q6, z_q7, z_q8, z_q9, z_q10, z_q11, z_q12, z_q13, z_q14, z_q15, z_sqT, z_sqL, z_sqS, z_as1, z_as2, z_tupL, z_sumT, z_sum, z_w0, z_w1, z_augS, z_augA, z_fnd, z_lenA, z_lenB, z_rcA, z_mtA, z_lcat, z_lset, z_stA, z_ixA, z_ixM, z_i0, z_i1, z_i2, z_i3, z_fdiv2, z_fdiv6, z_fmod6, z_mul6, z_mul2, z_slT, z_slL, z_p1, z_p2, zu_hm, zu_hp1, zu_hp2, v_x_InvalidCourse, v_x_TooHigh, v_MOST_COURSES, v_MOST_KIND, v_NO_HOLES, v_SIDES, v_WIDTHS, beq_self_eq_true, Option.getD_some, Option.getD_none, List.getElem?_cons_zero, List.getElem?_cons_succ, Option.bind_some, Option.bind_none, id_eq, Option.map_some, Option.map_none, purs, noloc, setN, List.set_cons_zero, List.set_cons_succ, List.map_cons, List.map_nil, List.length_cons, List.length_nil, List.cons_append, List.nil_append, List.append_nil, List.replicate_succ, List.replicate_zero, Nat.reduceSub, Nat.reduceAdd, Nat.reduceEqDiff, Nat.reduceBEq, if_true, if_false, ↓reduceIte, Bool.not_true, Bool.not_false, decide_true, decide_false, isNon, dselP, eq_self, Bool.and_self, Bool.and_true, Bool.true_and, Int.cast_ofNat_Int, a1]) (by unfold line; omega) fun c hc => ⟨_, rfl, by
        have q1 : ((s.r.set 5 none).set 5 (some (.pur (enc c))))[5]? = some (some (.pur (enc c))) := by
          rw [List.getElem?_set_self (by rw [List.length_set]; exact hs)]
        have q2 := lmir_ok c
        simp only [g__law_are_told_x, g__law_are_told__law_joined, g__law_are_told__law_courses, g__law_are_told__law_mirror, g__law_are_told__law_alike, g__law_are_told_Heap, g__law_are_told_Heap_mirrored, g__law_are_told_Heap___eq__, g__law_are_told_Heap___len__, g__law_are_told_Heap_courses, g__law_are_told_g, g__law_are_told_a, z_bind, z_st, z_pS, z_slot, z_cst, z_glb, z_kTup, z_kLst, z_kLstL, z_kLstC, z_kBin2, z_kBin, z_kNeg, z_kCmp2, z_kCmp, z_kChn2, z_kChn, z_kNot, z_kIte, z_kIdx2, z_kIdx, z_kSlc3, z_kSlc2, z_kSlc, z_kSome, z_kRev, z_kDsel2, z_kDsel, z_kIsi, z_kIsT, z_kBif, z_kListC, z_kLrg, z_lrg, z_kMth2, z_kMth, z_kFld, z_kCall, z_kCalp, z_kMkf, z_kLc, z_tup, z_lst, z_lstL, z_lstC, z_bin, z_neg, z_cmp, z_chn, z_bop, z_not, z_ite, z_idx, z_slc, z_rev, z_dsel, z_isi, z_isT, z_bif, z_listC, z_mth, z_fld, z_call, z_calp, z_mkf, z_frz, z_nil, z_kCons2, z_kCons, z_kStar2, z_kStar, z_kB, z_cons, z_star, z_b1, z_b2, z_o0, z_o1, z_kSeq, z_kEnu, z_kRng1, z_kRng3, z_kRng2, z_kC, z_seq, z_enu, z_c0, z_c1, z_kAsg, z_kUnp, z_kPar, z_kSto26, z_kSto25, z_kSto24, z_kSto23, z_kSto22, z_sto2, z_kSto3, z_kSto2, z_kSto, z_kAugs3, z_kAugs2, z_kAugs, z_kAug, z_kStf2, z_kStf, z_kExp, z_kRet, z_kIfs, z_kFor, z_kS, z_asg, z_unp, z_par, z_sto, z_augs, z_aug, z_stf, z_exp, z_ret, z_ret0, z_ifs, z_forr, z_whil, z_pas, z_brk, z_con, z_snil, z_scons, z_callU, z_callH, z_callG, z_callX, z_calpU, z_calpH, z_calpG, z_calpX, z_runU, z_run1, z_run2, z_run3, z_run4, z_dat, z_at0, z_at1, z_at2, z_at3, z_at4, z_at5, z_ixT, z_ixL, z_pp, z_add, z_sub, z_mulS, z_mulT, z_mulL, z_lt, z_le, z_gt, z_ge, z_eqI, z_neI, z_eqS, z_isN, z_isnN, z_methH, z_kMeth2, z_kMeth, z_meth, z_recP, z_calmP, z_calmC, z_prpG, z_prpP, z_kProp, z_prop, z_objP, z_kOwn2, z_kOwn, z_kOwnC2, z_kOwnC, z_opc, z_opb, z_own, z_ownP, z_ownC, z_ownT, z_kLenO, z_lenO, z_lenP, z_kIsc, z_isc, z_bindX, z_kRai, z_rai, z_rai0, z_rai1, z_rai2, z_hd, z_hdF, z_hdT, z_nm0, z_rm0, z_rm1, z_ht0, z_ht1, z_ht2, z_ht3, z_try, z_try0, z_tryX, z_kSX, z_clpG, z_clp0, z_calp0, z_kIscT, z_kSpl2, z_kSpl, z_spl, z_kJoi2, z_kJoi, z_joi, z_kMkc, z_mkc, z_mkcG, z_mkcH, z_mkcF, z_kAugf2, z_kAugf, z_augf, z_fns, z_ini, z_gl, z_xf, z_fa, z_pI, z_binC, z_ixC, z_stC, z_lenC, z_lenD, z_max, z_min, z_int, z_lenL, z_lenT, z_ten18, z_ix0, z_ix2, z_line0, z_line1, z_line2, z_line3, z_line4, z_line5, z_line6, z_line7, z_line8, z_q1, z_q2, z_q3, z_q4, z_q5, z_q6, z_q7, z_q8, z_q9, z_q10, z_q11, z_q12, z_q13, z_q14, z_q15, z_sqT, z_sqL, z_sqS, z_as1, z_as2, z_tupL, z_sumT, z_sum, z_w0, z_w1, z_augS, z_augA, z_fnd, z_lenA, z_lenB, z_rcA, z_mtA, z_lcat, z_lset, z_stA, z_ixA, z_ixM, z_i0, z_i1, z_i2, z_i3, z_fdiv2, z_fdiv6, z_fmod6, z_mul6, z_mul2, z_slT, z_slL, z_p1, z_p2, zu_hm, zu_hp1, zu_hp2, v_x_InvalidCourse, v_x_TooHigh, v_MOST_COURSES, v_MOST_KIND, v_NO_HOLES, v_SIDES, v_WIDTHS, beq_self_eq_true, Option.getD_some, Option.getD_none, List.getElem?_cons_zero, List.getElem?_cons_succ, Option.bind_some, Option.bind_none, id_eq, Option.map_some, Option.map_none, purs, noloc, setN, List.set_cons_zero, List.set_cons_succ, List.map_cons, List.map_nil, List.length_cons, List.length_nil, List.cons_append, List.nil_append, List.append_nil, List.replicate_succ, List.replicate_zero, Nat.reduceSub, Nat.reduceAdd, Nat.reduceEqDiff, Nat.reduceBEq, if_true, if_false, ↓reduceIte, Bool.not_true, Bool.not_false, decide_true, decide_false, isNon, dselP, eq_self, Bool.and_self, Bool.and_true, Bool.true_and, Int.cast_ofNat_Int, q1, q2]⟩
    rw [List.map_map]
    exact this
  have c1 : cmpD .NotEq (.pur (.tup ((cs.map mir).map enc))) (.pur (.tup ((cs.map mir).map enc))) = some false := by
    have q := eq_encs (cs.map mir)
    show (cEq _ _).map (!·) = _
    rw [show cEq (.tup ((cs.map mir).map enc)) (.tup ((cs.map mir).map enc)) = some true from q]
    rfl
  have lb0 : (0 : Int) ≤ (cs.length : Int) := by omega
  have lb1 : (cs.length : Int) < 4611686018427387904 := by omega
  have hl : (cs.map enc).length + (cs2.map enc).length ≤ line := by rw [List.length_map, List.length_map]; unfold line; omega
  have a1 : binP .Add (.tup (cs.map enc)) (.tup (cs2.map enc)) = some (.tup ((cs ++ cs2).map enc)) := by rw [addTT, if_pos hl, List.map_append]
  by_cases h : 3 < cs.length + cs2.length
  · rw [if_pos h] at e11
    have h' : (3 : Int) < ((cs.length + cs2.length : Nat) : Int) := by omega
    unfold hp at e2 e4 e5 e6 e7 e8 e9 e10 e11 ⊢
    unfold F__law_are_told d__law_are_told b__law_are_told
    simp only [g__law_are_told_x, g__law_are_told__law_joined, g__law_are_told__law_courses, g__law_are_told__law_mirror, g__law_are_told__law_alike, g__law_are_told_Heap, g__law_are_told_Heap_mirrored, g__law_are_told_Heap___eq__, g__law_are_told_Heap___len__, g__law_are_told_Heap_courses, g__law_are_told_g, g__law_are_told_a, z_bind, z_st, z_pS, z_slot, z_cst, z_glb, z_kTup, z_kLst, z_kLstL, z_kLstC, z_kBin2, z_kBin, z_kNeg, z_kCmp2, z_kCmp, z_kChn2, z_kChn, z_kNot, z_kIte, z_kIdx2, z_kIdx, z_kSlc3, z_kSlc2, z_kSlc, z_kSome, z_kRev, z_kDsel2, z_kDsel, z_kIsi, z_kIsT, z_kBif, z_kListC, z_kLrg, z_lrg, z_kMth2, z_kMth, z_kFld, z_kCall, z_kCalp, z_kMkf, z_kLc, z_tup, z_lst, z_lstL, z_lstC, z_bin, z_neg, z_cmp, z_chn, z_bop, z_not, z_ite, z_idx, z_slc, z_rev, z_dsel, z_isi, z_isT, z_bif, z_listC, z_mth, z_fld, z_call, z_calp, z_mkf, z_frz, z_nil, z_kCons2, z_kCons, z_kStar2, z_kStar, z_kB, z_cons, z_star, z_b1, z_b2, z_o0, z_o1, z_kSeq, z_kEnu, z_kRng1, z_kRng3, z_kRng2, z_kC, z_seq, z_enu, z_c0, z_c1, z_kAsg, z_kUnp, z_kPar, z_kSto26, z_kSto25, z_kSto24, z_kSto23, z_kSto22, z_sto2, z_kSto3, z_kSto2, z_kSto, z_kAugs3, z_kAugs2, z_kAugs, z_kAug, z_kStf2, z_kStf, z_kExp, z_kRet, z_kIfs, z_kFor, z_kS, z_asg, z_unp, z_par, z_sto, z_augs, z_aug, z_stf, z_exp, z_ret, z_ret0, z_ifs, z_forr, z_whil, z_pas, z_brk, z_con, z_snil, z_scons, z_callU, z_callH, z_callG, z_callX, z_calpU, z_calpH, z_calpG, z_calpX, z_runU, z_run1, z_run2, z_run3, z_run4, z_dat, z_at0, z_at1, z_at2, z_at3, z_at4, z_at5, z_ixT, z_ixL, z_pp, z_add, z_sub, z_mulS, z_mulT, z_mulL, z_lt, z_le, z_gt, z_ge, z_eqI, z_neI, z_eqS, z_isN, z_isnN, z_methH, z_kMeth2, z_kMeth, z_meth, z_recP, z_calmP, z_calmC, z_prpG, z_prpP, z_kProp, z_prop, z_objP, z_kOwn2, z_kOwn, z_kOwnC2, z_kOwnC, z_opc, z_opb, z_own, z_ownP, z_ownC, z_ownT, z_kLenO, z_lenO, z_lenP, z_kIsc, z_isc, z_bindX, z_kRai, z_rai, z_rai0, z_rai1, z_rai2, z_hd, z_hdF, z_hdT, z_nm0, z_rm0, z_rm1, z_ht0, z_ht1, z_ht2, z_ht3, z_try, z_try0, z_tryX, z_kSX, z_clpG, z_clp0, z_calp0, z_kIscT, z_kSpl2, z_kSpl, z_spl, z_kJoi2, z_kJoi, z_joi, z_kMkc, z_mkc, z_mkcG, z_mkcH, z_mkcF, z_kAugf2, z_kAugf, z_augf, z_fns, z_ini, z_gl, z_xf, z_fa, z_pI, z_binC, z_ixC, z_stC, z_lenC, z_lenD, z_max, z_min, z_int, z_lenL, z_lenT, z_ten18, z_ix0, z_ix2, z_line0, z_line1, z_line2, z_line3, z_line4, z_line5, z_line6, z_line7, z_line8, z_q1, z_q2, z_q3, z_q4, z_q5, z_q6, z_q7, z_q8, z_q9, z_q10, z_q11, z_q12, z_q13, z_q14, z_q15, z_sqT, z_sqL, z_sqS, z_as1, z_as2, z_tupL, z_sumT, z_sum, z_w0, z_w1, z_augS, z_augA, z_fnd, z_lenA, z_lenB, z_rcA, z_mtA, z_lcat, z_lset, z_stA, z_ixA, z_ixM, z_i0, z_i1, z_i2, z_i3, z_fdiv2, z_fdiv6, z_fmod6, z_mul6, z_mul2, z_slT, z_slL, z_p1, z_p2, zu_hm, zu_hp1, zu_hp2, v_x_InvalidCourse, v_x_TooHigh, v_MOST_COURSES, v_MOST_KIND, v_NO_HOLES, v_SIDES, v_WIDTHS, beq_self_eq_true, Option.getD_some, Option.getD_none, List.getElem?_cons_zero, List.getElem?_cons_succ, Option.bind_some, Option.bind_none, id_eq, Option.map_some, Option.map_none, purs, noloc, setN, List.set_cons_zero, List.set_cons_succ, List.map_cons, List.map_nil, List.length_cons, List.length_nil, List.cons_append, List.nil_append, List.append_nil, List.replicate_succ, List.replicate_zero, Nat.reduceSub, Nat.reduceAdd, Nat.reduceEqDiff, Nat.reduceBEq, if_true, if_false, ↓reduceIte, Bool.not_true, Bool.not_false, decide_true, decide_false, isNon, dselP, eq_self, Bool.and_self, Bool.and_true, Bool.true_and, Int.cast_ofNat_Int, e1, e2, e3, e4, e5, e6, e7, e8, e9, e10, e11, ek, c1, lb0, lb1, a1, gtI, h', List.length_map, List.length_append, Nat.reduceLT]
  · rw [if_neg h] at e11
    have h' : ¬ (3 : Int) < ((cs.length + cs2.length : Nat) : Int) := by omega
    have e12 := crs_ok (cs ++ cs2)
    have e13 := eq_encs (cs ++ cs2)
    unfold hp at e2 e4 e5 e6 e7 e8 e9 e10 e11 e12 ⊢
    unfold F__law_are_told d__law_are_told b__law_are_told
    simp only [g__law_are_told_x, g__law_are_told__law_joined, g__law_are_told__law_courses, g__law_are_told__law_mirror, g__law_are_told__law_alike, g__law_are_told_Heap, g__law_are_told_Heap_mirrored, g__law_are_told_Heap___eq__, g__law_are_told_Heap___len__, g__law_are_told_Heap_courses, g__law_are_told_g, g__law_are_told_a, z_bind, z_st, z_pS, z_slot, z_cst, z_glb, z_kTup, z_kLst, z_kLstL, z_kLstC, z_kBin2, z_kBin, z_kNeg, z_kCmp2, z_kCmp, z_kChn2, z_kChn, z_kNot, z_kIte, z_kIdx2, z_kIdx, z_kSlc3, z_kSlc2, z_kSlc, z_kSome, z_kRev, z_kDsel2, z_kDsel, z_kIsi, z_kIsT, z_kBif, z_kListC, z_kLrg, z_lrg, z_kMth2, z_kMth, z_kFld, z_kCall, z_kCalp, z_kMkf, z_kLc, z_tup, z_lst, z_lstL, z_lstC, z_bin, z_neg, z_cmp, z_chn, z_bop, z_not, z_ite, z_idx, z_slc, z_rev, z_dsel, z_isi, z_isT, z_bif, z_listC, z_mth, z_fld, z_call, z_calp, z_mkf, z_frz, z_nil, z_kCons2, z_kCons, z_kStar2, z_kStar, z_kB, z_cons, z_star, z_b1, z_b2, z_o0, z_o1, z_kSeq, z_kEnu, z_kRng1, z_kRng3, z_kRng2, z_kC, z_seq, z_enu, z_c0, z_c1, z_kAsg, z_kUnp, z_kPar, z_kSto26, z_kSto25, z_kSto24, z_kSto23, z_kSto22, z_sto2, z_kSto3, z_kSto2, z_kSto, z_kAugs3, z_kAugs2, z_kAugs, z_kAug, z_kStf2, z_kStf, z_kExp, z_kRet, z_kIfs, z_kFor, z_kS, z_asg, z_unp, z_par, z_sto, z_augs, z_aug, z_stf, z_exp, z_ret, z_ret0, z_ifs, z_forr, z_whil, z_pas, z_brk, z_con, z_snil, z_scons, z_callU, z_callH, z_callG, z_callX, z_calpU, z_calpH, z_calpG, z_calpX, z_runU, z_run1, z_run2, z_run3, z_run4, z_dat, z_at0, z_at1, z_at2, z_at3, z_at4, z_at5, z_ixT, z_ixL, z_pp, z_add, z_sub, z_mulS, z_mulT, z_mulL, z_lt, z_le, z_gt, z_ge, z_eqI, z_neI, z_eqS, z_isN, z_isnN, z_methH, z_kMeth2, z_kMeth, z_meth, z_recP, z_calmP, z_calmC, z_prpG, z_prpP, z_kProp, z_prop, z_objP, z_kOwn2, z_kOwn, z_kOwnC2, z_kOwnC, z_opc, z_opb, z_own, z_ownP, z_ownC, z_ownT, z_kLenO, z_lenO, z_lenP, z_kIsc, z_isc, z_bindX, z_kRai, z_rai, z_rai0, z_rai1, z_rai2, z_hd, z_hdF, z_hdT, z_nm0, z_rm0, z_rm1, z_ht0, z_ht1, z_ht2, z_ht3, z_try, z_try0, z_tryX, z_kSX, z_clpG, z_clp0, z_calp0, z_kIscT, z_kSpl2, z_kSpl, z_spl, z_kJoi2, z_kJoi, z_joi, z_kMkc, z_mkc, z_mkcG, z_mkcH, z_mkcF, z_kAugf2, z_kAugf, z_augf, z_fns, z_ini, z_gl, z_xf, z_fa, z_pI, z_binC, z_ixC, z_stC, z_lenC, z_lenD, z_max, z_min, z_int, z_lenL, z_lenT, z_ten18, z_ix0, z_ix2, z_line0, z_line1, z_line2, z_line3, z_line4, z_line5, z_line6, z_line7, z_line8, z_q1, z_q2, z_q3, z_q4, z_q5, z_q6, z_q7, z_q8, z_q9, z_q10, z_q11, z_q12, z_q13, z_q14, z_q15, z_sqT, z_sqL, z_sqS, z_as1, z_as2, z_tupL, z_sumT, z_sum, z_w0, z_w1, z_augS, z_augA, z_fnd, z_lenA, z_lenB, z_rcA, z_mtA, z_lcat, z_lset, z_stA, z_ixA, z_ixM, z_i0, z_i1, z_i2, z_i3, z_fdiv2, z_fdiv6, z_fmod6, z_mul6, z_mul2, z_slT, z_slL, z_p1, z_p2, zu_hm, zu_hp1, zu_hp2, v_x_InvalidCourse, v_x_TooHigh, v_MOST_COURSES, v_MOST_KIND, v_NO_HOLES, v_SIDES, v_WIDTHS, beq_self_eq_true, Option.getD_some, Option.getD_none, List.getElem?_cons_zero, List.getElem?_cons_succ, Option.bind_some, Option.bind_none, id_eq, Option.map_some, Option.map_none, purs, noloc, setN, List.set_cons_zero, List.set_cons_succ, List.map_cons, List.map_nil, List.length_cons, List.length_nil, List.cons_append, List.nil_append, List.append_nil, List.replicate_succ, List.replicate_zero, Nat.reduceSub, Nat.reduceAdd, Nat.reduceEqDiff, Nat.reduceBEq, if_true, if_false, ↓reduceIte, Bool.not_true, Bool.not_false, decide_true, decide_false, isNon, dselP, eq_self, Bool.and_self, Bool.and_true, Bool.true_and, Int.cast_ofNat_Int, e1, e2, e3, e4, e5, e6, e7, e8, e9, e10, e11, e12, e13, ek, c1, lb0, lb1, a1, gtI, h', List.length_map, List.length_append, Nat.reduceLT]
end HL
end

section
set_option Elab.async false
set_option linter.all false
set_option maxRecDepth 100000
set_option maxHeartbeats 1000000
/-! L01: the law k01 -/
namespace HL
open PySem Ev
theorem for_1 {t : T} {b : S → R Fl} {p : P} {xs : List P} {s s1 s2 : S} (h1 : asgT t (.pur p) s = some s1) (h2 : b s1 = .ok .nx s2) : forF t b (p :: xs) s = forF t b xs s2 := by
  rw [z_for1, h1]
  dsimp only
  rw [h2]
  rfl
theorem odd_len : oddP.length = 22 := by kernel_rfl
def Its (ps : List P) : Prop := ∀ p ∈ ps, It p
theorem sl_take (ps : List P) (k : Nat) : slcP (.tup ps) none (some (k : Int)) = some (.tup (ps.take k)) := by rw [z_slT, cut_take]
theorem sl_drop (ps : List P) (k : Nat) : slcP (.tup ps) (some (k : Int)) none = some (.tup (ps.drop k)) := by rw [z_slT, cut_drop]
theorem add_t {xs ys : List P} (h : xs.length + ys.length ≤ 1000) : binP .Add (.tup xs) (.tup ys) = some (.tup (xs ++ ys)) := by rw [addTT, if_pos (by unfold line; omega)]
theorem add_l {xs ys : List P} (h : xs.length + ys.length ≤ 1000) : binP .Add (.lst xs) (.lst ys) = some (.lst (xs ++ ys)) := by
  show (if xs.length + ys.length ≤ line then some (P.lst (xs ++ ys)) else none) = _
  rw [if_pos (by unfold line; omega)]
theorem change_ok {d0 d2 d4 d5 d6 d7 d8 d9 d10 : Option D} {l : List (Option (List P))} {m : List Cell} (hm : Dr m) {ps : List P} (hI : Its ps) (h1 : 1 ≤ ps.length) (h3 : ps.length ≤ 3) :
    ∃ (qs : List P) (m' : List Cell) (g7 g8 g9 : Option D), exSs G_law b_law_l2 { r := [d0, some (.cel 1), d2, some (.pur (.tup ps)), d4, d5, d6, d7, d8, d9, d10], m := m, l := l } = .ok .nx { r := [d0, some (.cel 1), d2, some (.pur (.tup qs)), d4, d5, d6, g7, g8, g9, d10], m := m', l := l } ∧ Dr m' ∧ Its qs ∧ 1 ≤ qs.length ∧ qs.length ≤ 4 := by
  obtain ⟨v1, m1, e1, a1, b1, hm1⟩ := next_ok hm (cap := (ps.length : Int) + 1) (by omega) (by omega)
  obtain ⟨sp, rfl⟩ := Int.eq_ofNat_of_zero_le a1
  obtain ⟨c, m2, e2, okc, hm2⟩ := course_ok hm1
  obtain ⟨p, m3, e3, hp3, hm3⟩ := pick_ok hm2 (ps := oddP ++ [enc c]) (by simp) (by rw [List.length_append, odd_len]; simp)
  obtain ⟨v2, m4, e4, a4, b4, hm4⟩ := next_ok hm3 (cap := 2) (by omega) (by omega)
  obtain ⟨w, rfl⟩ := Int.eq_ofNat_of_zero_le a4
  have hp : It p := by
    rcases List.mem_append.mp hp3 with h | h
    · exact .inl h
    · rw [List.mem_singleton.mp h]
      exact .inr ⟨c, okc, rfl⟩
  have t1 := sl_take ps sp
  have t2 : slcP (.tup ps) (some ((sp : Int) + (w : Int))) none = some (.tup (ps.drop (sp + w))) := sl_drop ps (sp + w)
  have q1 : binP .Add (.lst oddP) (.lst [enc c]) = some (.lst (oddP ++ [enc c])) := add_l (by rw [odd_len]; simp)
  have q2 : binP .Add (.tup (ps.take sp)) (.tup [p]) = some (.tup (ps.take sp ++ [p])) := add_t (by simp only [List.length_take, List.length_singleton]; omega)
  have q3 : binP .Add (.tup (ps.take sp ++ [p])) (.tup (ps.drop (sp + w))) = some (.tup (ps.take sp ++ [p] ++ ps.drop (sp + w))) := add_t (by simp only [List.length_append, List.length_take, List.length_drop, List.length_singleton]; omega)
  have eo := odd_ev
  refine ⟨ps.take sp ++ [p] ++ ps.drop (sp + w), m4, some (.pur (.int (sp : Int))), some (.pur p), some (.pur (.tup (ps.drop (sp + w)))), ?_, hm4, fun z hz => ?_, ?_, ?_⟩
  · unfold b_law_l2
    generalize oddP = O at *
    generalize enc c = pc at *
    simp only [g_law_x, g_law__law_alike, g_law__law_are_told, g_law__law_is_course, g_law__law_tried, g_law__law_pick, g_law__law_next, g_law__law_odd, g_law__law_course, g_law__law_courses, g_law__law_mix, g_law_g, g_law_a, z_bind, z_st, z_pS, z_slot, z_cst, z_glb, z_kTup, z_kLst, z_kLstL, z_kLstC, z_kBin2, z_kBin, z_kNeg, z_kCmp2, z_kCmp, z_kChn2, z_kChn, z_kNot, z_kIte, z_kIdx2, z_kIdx, z_kSlc3, z_kSlc2, z_kSlc, z_kSome, z_kRev, z_kDsel2, z_kDsel, z_kIsi, z_kIsT, z_kBif, z_kListC, z_kLrg, z_lrg, z_kMth2, z_kMth, z_kFld, z_kCall, z_kCalp, z_kMkf, z_kLc, z_tup, z_lst, z_lstL, z_lstC, z_bin, z_neg, z_cmp, z_chn, z_bop, z_not, z_ite, z_idx, z_slc, z_rev, z_dsel, z_isi, z_isT, z_bif, z_listC, z_mth, z_fld, z_call, z_calp, z_mkf, z_frz, z_nil, z_kCons2, z_kCons, z_kStar2, z_kStar, z_kB, z_cons, z_star, z_b1, z_b2, z_o0, z_o1, z_kSeq, z_kEnu, z_kRng1, z_kRng3, z_kRng2, z_kC, z_seq, z_enu, z_c0, z_c1, z_kAsg, z_kUnp, z_kPar, z_kSto26, z_kSto25, z_kSto24, z_kSto23, z_kSto22, z_sto2, z_kSto3, z_kSto2, z_kSto, z_kAugs3, z_kAugs2, z_kAugs, z_kAug, z_kStf2, z_kStf, z_kExp, z_kRet, z_kIfs, z_kFor, z_kS, z_asg, z_unp, z_par, z_sto, z_augs, z_aug, z_stf, z_exp, z_ret, z_ret0, z_ifs, z_forr, z_whil, z_pas, z_brk, z_con, z_snil, z_scons, z_callU, z_callH, z_callG, z_callX, z_calpU, z_calpH, z_calpG, z_calpX, z_runU, z_run1, z_run2, z_run3, z_run4, z_dat, z_at0, z_at1, z_at2, z_at3, z_at4, z_at5, z_ixT, z_ixL, z_pp, z_add, z_sub, z_mulS, z_mulT, z_mulL, z_lt, z_le, z_gt, z_ge, z_eqI, z_neI, z_eqS, z_isN, z_isnN, z_methH, z_kMeth2, z_kMeth, z_meth, z_recP, z_calmP, z_calmC, z_prpG, z_prpP, z_kProp, z_prop, z_objP, z_kOwn2, z_kOwn, z_kOwnC2, z_kOwnC, z_opc, z_opb, z_own, z_ownP, z_ownC, z_ownT, z_kLenO, z_lenO, z_lenP, z_kIsc, z_isc, z_bindX, z_kRai, z_rai, z_rai0, z_rai1, z_rai2, z_hd, z_hdF, z_hdT, z_nm0, z_rm0, z_rm1, z_ht0, z_ht1, z_ht2, z_ht3, z_try, z_try0, z_tryX, z_kSX, z_clpG, z_clp0, z_calp0, z_kIscT, z_kSpl2, z_kSpl, z_spl, z_kJoi2, z_kJoi, z_joi, z_kMkc, z_mkc, z_mkcG, z_mkcH, z_mkcF, z_kAugf2, z_kAugf, z_augf, z_fns, z_ini, z_gl, z_xf, z_fa, z_pI, z_binC, z_ixC, z_stC, z_lenC, z_lenD, z_max, z_min, z_int, z_lenL, z_lenT, z_ten18, z_ix0, z_ix2, z_line0, z_line1, z_line2, z_line3, z_line4, z_line5, z_line6, z_line7, z_line8, z_q1, z_q2, z_q3, z_q4, z_q5, z_q6, z_q7, z_q8, z_q9, z_q10, z_q11, z_q12, z_q13, z_q14, z_q15, z_sqT, z_sqL, z_sqS, z_as1, z_as2, z_tupL, z_sumT, z_sum, z_w0, z_w1, z_augS, z_augA, z_fnd, z_lenA, z_lenB, z_rcA, z_mtA, z_lcat, z_lset, z_stA, z_ixA, z_ixM, z_i0, z_i1, z_i2, z_i3, z_fdiv2, z_fdiv6, z_fmod6, z_mul6, z_mul2, z_slT, z_slL, z_p1, z_p2, zu_hm, zu_hp1, zu_hp2, v_x_InvalidCourse, v_x_TooHigh, v_MOST_COURSES, v_MOST_KIND, v_NO_HOLES, v_SIDES, v_WIDTHS, beq_self_eq_true, Option.getD_some, Option.getD_none, List.getElem?_cons_zero, List.getElem?_cons_succ, Option.bind_some, Option.bind_none, id_eq, Option.map_some, Option.map_none, purs, noloc, setN, List.set_cons_zero, List.set_cons_succ, List.map_cons, List.map_nil, List.length_cons, List.length_nil, List.cons_append, List.nil_append, List.append_nil, List.replicate_succ, List.replicate_zero, Nat.reduceSub, Nat.reduceAdd, Nat.reduceEqDiff, Nat.reduceBEq, if_true, if_false, ↓reduceIte, Bool.not_true, Bool.not_false, decide_true, decide_false, isNon, dselP, eq_self, Bool.and_self, Bool.and_true, Bool.true_and, Int.cast_ofNat_Int, e1, e2, e3, e4, eo, t1, t2, q1, q2, q3]
  · rcases List.mem_append.mp hz with hz | hz
    · rcases List.mem_append.mp hz with hz | hz
      · exact hI z (List.mem_of_mem_take hz)
      · rw [List.mem_singleton.mp hz]
        exact hp
    · exact hI z (List.mem_of_mem_drop hz)
  · simp only [List.length_append, List.length_take, List.length_drop, List.length_singleton]
    omega
  · simp only [List.length_append, List.length_take, List.length_drop, List.length_singleton]
    omega
theorem flt_fb : ∀ (ps : List P) (j : Nat), ((List.range ps.length).filter fun k => !(ps[k]?.map isCb).getD true).take 1 = match fb ps j with
    | none => []
    | some i => [i - j]
  | [], j => rfl
  | p :: ps, j => by
    rw [List.length_cons, List.range_succ_eq_map, List.filter_cons, List.filter_map, fb]
    have e0 : (!(((p :: ps)[0]?).map isCb).getD true) = !isCb p := rfl
    rw [e0]
    cases hb : isCb p with
    | false => simp
    | true =>
      have e1 : ((fun k => !(((p :: ps)[k]?).map isCb).getD true) ∘ Nat.succ) = fun k => !(ps[k]?.map isCb).getD true := rfl
      rw [e1]
      show (List.map Nat.succ _).take 1 = match (if true = true then fb ps (j + 1) else some j) with
        | none => []
        | some i => [i - j]
      rw [if_pos rfl, ← List.map_take, flt_fb ps (j + 1)]
      cases hf : fb ps (j + 1) with
      | none => rfl
      | some i =>
        have hge : ∀ (qs : List P) (k i : Nat), fb qs k = some i → k ≤ i := fun qs => by
          induction qs with
          | nil => intro k i h; cases h
          | cons q qs ih =>
            intro k i h
            unfold fb at h
            cases hq : isCb q with
            | true =>
              rw [hq] at h
              have := ih _ _ h
              omega
            | false =>
              rw [hq] at h
              cases h
              omega
        have := hge _ _ _ hf
        show [Nat.succ (i - (j + 1))] = [i - j]
        congr 1
        omega
theorem law_due {ps : List P} (hI : Its ps) (hl : ps.length ≤ 100) {s : S} (h3 : s.r[3]? = some (some (.pur (.tup ps)))) (hr : 10 < s.r.length) : evE G_law k_law_1 s = .ok (.pur (.lst (((List.range ps.length).filter fun k => !(ps[k]?.map isCb).getD true).map fun k : Nat => P.int (k : Int)))) s := by
  refine lc_filc (Γ := G_law) (t := .nm 10) (own := [10]) (e := .slot 10) (fun k : Nat => P.int (k : Int)) (fun k : Nat => P.int (k : Int)) (fun k => !(ps[k]?.map isCb).getD true) (List.range ps.length) (it_rng1 (n := ps.length) (by simp only [z_bind, z_st, z_pS, z_slot, z_cst, z_glb, z_kTup, z_kLst, z_kLstL, z_kLstC, z_kBin2, z_kBin, z_kNeg, z_kCmp2, z_kCmp, z_kChn2, z_kChn, z_kNot, z_kIte, z_kIdx2, z_kIdx, z_kSlc3, z_kSlc2, z_kSlc, z_kSome, z_kRev, z_kDsel2, z_kDsel, z_kIsi, z_kIsT, z_kBif, z_kListC, z_kLrg, z_lrg, z_kMth2, z_kMth, z_kFld, z_kCall, z_kCalp, z_kMkf, z_kLc, z_tup, z_lst, z_lstL, z_lstC, z_bin, z_neg, z_cmp, z_chn, z_bop, z_not, z_ite, z_idx, z_slc, z_rev, z_dsel, z_isi, z_isT, z_bif, z_listC, z_mth, z_fld, z_call, z_calp, z_mkf, z_frz, z_nil, z_kCons2, z_kCons, z_kStar2, z_kStar, z_kB, z_cons, z_star, z_b1, z_b2, z_o0, z_o1, z_kSeq, z_kEnu, z_kRng1, z_kRng3, z_kRng2, z_kC, z_seq, z_enu, z_c0, z_c1, z_kAsg, z_kUnp, z_kPar, z_kSto26, z_kSto25, z_kSto24, z_kSto23, z_kSto22, z_sto2, z_kSto3, z_kSto2, z_kSto, z_kAugs3, z_kAugs2, z_kAugs, z_kAug, z_kStf2, z_kStf, z_kExp, z_kRet, z_kIfs, z_kFor, z_kS, z_asg, z_unp, z_par, z_sto, z_augs, z_aug, z_stf, z_exp, z_ret, z_ret0, z_ifs, z_forr, z_whil, z_pas, z_brk, z_con, z_snil, z_scons, z_callU, z_callH, z_callG, z_callX, z_calpU, z_calpH, z_calpG, z_calpX, z_runU, z_run1, z_run2, z_run3, z_run4, z_dat, z_at0, z_at1, z_at2, z_at3, z_at4, z_at5, z_ixT, z_ixL, z_pp, z_add, z_sub, z_mulS, z_mulT, z_mulL, z_lt, z_le, z_gt, z_ge, z_eqI, z_neI, z_eqS, z_isN, z_isnN, z_methH, z_kMeth2, z_kMeth, z_meth, z_recP, z_calmP, z_calmC, z_prpG, z_prpP, z_kProp, z_prop, z_objP, z_kOwn2, z_kOwn, z_kOwnC2, z_kOwnC, z_opc, z_opb, z_own, z_ownP, z_ownC, z_ownT, z_kLenO, z_lenO, z_lenP, z_kIsc, z_isc, z_bindX, z_kRai, z_rai, z_rai0, z_rai1, z_rai2, z_hd, z_hdF, z_hdT, z_nm0, z_rm0, z_rm1, z_ht0, z_ht1, z_ht2, z_ht3, z_try, z_try0, z_tryX, z_kSX, z_clpG, z_clp0, z_calp0, z_kIscT, z_kSpl2, z_kSpl, z_spl, z_kJoi2, z_kJoi, z_joi, z_kMkc, z_mkc, z_mkcG, z_mkcH, z_mkcF, z_kAugf2, z_kAugf, z_augf, z_fns, z_ini, z_gl, z_xf, z_fa, z_pI, z_binC, z_ixC, z_stC, z_lenC, z_lenD, z_max, z_min, z_int, z_lenL, z_lenT, z_ten18, z_ix0, z_ix2, z_line0, z_line1, z_line2, z_line3, z_line4, z_line5, z_line6, z_line7, z_line8, z_q1, z_q2, z_q3, z_q4, z_q5, z_q6, z_q7, z_q8, z_q9, z_q10, z_q11, z_q12, z_q13, z_q14, z_q15, z_sqT, z_sqL, z_sqS, z_as1, z_as2, z_tupL, z_sumT, z_sum, z_w0, z_w1, z_augS, z_augA, z_fnd, z_lenA, z_lenB, z_rcA, z_mtA, z_lcat, z_lset, z_stA, z_ixA, z_ixM, z_i0, z_i1, z_i2, z_i3, z_fdiv2, z_fdiv6, z_fmod6, z_mul6, z_mul2, z_slT, z_slL, z_p1, z_p2, zu_hm, zu_hp1, zu_hp2, v_x_InvalidCourse, v_x_TooHigh, v_MOST_COURSES, v_MOST_KIND, v_NO_HOLES, v_SIDES, v_WIDTHS, beq_self_eq_true, Option.getD_some, Option.getD_none, List.getElem?_cons_zero, List.getElem?_cons_succ, Option.bind_some, Option.bind_none, id_eq, Option.map_some, Option.map_none, purs, noloc, setN, List.set_cons_zero, List.set_cons_succ, List.map_cons, List.map_nil, List.length_cons, List.length_nil, List.cons_append, List.nil_append, List.append_nil, List.replicate_succ, List.replicate_zero, Nat.reduceSub, Nat.reduceAdd, Nat.reduceEqDiff, Nat.reduceBEq, if_true, if_false, ↓reduceIte, Bool.not_true, Bool.not_false, decide_true, decide_false, isNon, dselP, eq_self, Bool.and_self, Bool.and_true, Bool.true_and, Int.cast_ofNat_Int, h3]) (by omega)) (by rw [List.length_range]; unfold line; omega) fun k hk => ⟨_, rfl, ?_⟩
  have hk := List.mem_range.mp hk
  have g1 : ((s.r.set 10 none).set 10 (some (.pur (.int (k : Int)))))[10]? = some (some (.pur (.int (k : Int)))) := by
    rw [List.getElem?_set_self (by rw [List.length_set]; exact hr)]
  have g3 : ((s.r.set 10 none).set 10 (some (.pur (.int (k : Int)))))[3]? = some (some (.pur (.tup ps))) := by
    rw [List.getElem?_set_ne (by omega), List.getElem?_set_ne (by omega)]
    exact h3
  have hp : ps[k]? = some ps[k] := List.getElem?_eq_getElem hk
  have ha : atP ps (k : Int) = some ps[k] := z_atP hp
  have el := it_law (hI _ (List.getElem_mem hk))
  constructor
  · rw [hp]
    simp only [g_law_x, g_law__law_alike, g_law__law_are_told, g_law__law_is_course, g_law__law_tried, g_law__law_pick, g_law__law_next, g_law__law_odd, g_law__law_course, g_law__law_courses, g_law__law_mix, g_law_g, g_law_a, z_bind, z_st, z_pS, z_slot, z_cst, z_glb, z_kTup, z_kLst, z_kLstL, z_kLstC, z_kBin2, z_kBin, z_kNeg, z_kCmp2, z_kCmp, z_kChn2, z_kChn, z_kNot, z_kIte, z_kIdx2, z_kIdx, z_kSlc3, z_kSlc2, z_kSlc, z_kSome, z_kRev, z_kDsel2, z_kDsel, z_kIsi, z_kIsT, z_kBif, z_kListC, z_kLrg, z_lrg, z_kMth2, z_kMth, z_kFld, z_kCall, z_kCalp, z_kMkf, z_kLc, z_tup, z_lst, z_lstL, z_lstC, z_bin, z_neg, z_cmp, z_chn, z_bop, z_not, z_ite, z_idx, z_slc, z_rev, z_dsel, z_isi, z_isT, z_bif, z_listC, z_mth, z_fld, z_call, z_calp, z_mkf, z_frz, z_nil, z_kCons2, z_kCons, z_kStar2, z_kStar, z_kB, z_cons, z_star, z_b1, z_b2, z_o0, z_o1, z_kSeq, z_kEnu, z_kRng1, z_kRng3, z_kRng2, z_kC, z_seq, z_enu, z_c0, z_c1, z_kAsg, z_kUnp, z_kPar, z_kSto26, z_kSto25, z_kSto24, z_kSto23, z_kSto22, z_sto2, z_kSto3, z_kSto2, z_kSto, z_kAugs3, z_kAugs2, z_kAugs, z_kAug, z_kStf2, z_kStf, z_kExp, z_kRet, z_kIfs, z_kFor, z_kS, z_asg, z_unp, z_par, z_sto, z_augs, z_aug, z_stf, z_exp, z_ret, z_ret0, z_ifs, z_forr, z_whil, z_pas, z_brk, z_con, z_snil, z_scons, z_callU, z_callH, z_callG, z_callX, z_calpU, z_calpH, z_calpG, z_calpX, z_runU, z_run1, z_run2, z_run3, z_run4, z_dat, z_at0, z_at1, z_at2, z_at3, z_at4, z_at5, z_ixT, z_ixL, z_pp, z_add, z_sub, z_mulS, z_mulT, z_mulL, z_lt, z_le, z_gt, z_ge, z_eqI, z_neI, z_eqS, z_isN, z_isnN, z_methH, z_kMeth2, z_kMeth, z_meth, z_recP, z_calmP, z_calmC, z_prpG, z_prpP, z_kProp, z_prop, z_objP, z_kOwn2, z_kOwn, z_kOwnC2, z_kOwnC, z_opc, z_opb, z_own, z_ownP, z_ownC, z_ownT, z_kLenO, z_lenO, z_lenP, z_kIsc, z_isc, z_bindX, z_kRai, z_rai, z_rai0, z_rai1, z_rai2, z_hd, z_hdF, z_hdT, z_nm0, z_rm0, z_rm1, z_ht0, z_ht1, z_ht2, z_ht3, z_try, z_try0, z_tryX, z_kSX, z_clpG, z_clp0, z_calp0, z_kIscT, z_kSpl2, z_kSpl, z_spl, z_kJoi2, z_kJoi, z_joi, z_kMkc, z_mkc, z_mkcG, z_mkcH, z_mkcF, z_kAugf2, z_kAugf, z_augf, z_fns, z_ini, z_gl, z_xf, z_fa, z_pI, z_binC, z_ixC, z_stC, z_lenC, z_lenD, z_max, z_min, z_int, z_lenL, z_lenT, z_ten18, z_ix0, z_ix2, z_line0, z_line1, z_line2, z_line3, z_line4, z_line5, z_line6, z_line7, z_line8, z_q1, z_q2, z_q3, z_q4, z_q5, z_q6, z_q7, z_q8, z_q9, z_q10, z_q11, z_q12, z_q13, z_q14, z_q15, z_sqT, z_sqL, z_sqS, z_as1, z_as2, z_tupL, z_sumT, z_sum, z_w0, z_w1, z_augS, z_augA, z_fnd, z_lenA, z_lenB, z_rcA, z_mtA, z_lcat, z_lset, z_stA, z_ixA, z_ixM, z_i0, z_i1, z_i2, z_i3, z_fdiv2, z_fdiv6, z_fmod6, z_mul6, z_mul2, z_slT, z_slL, z_p1, z_p2, zu_hm, zu_hp1, zu_hp2, v_x_InvalidCourse, v_x_TooHigh, v_MOST_COURSES, v_MOST_KIND, v_NO_HOLES, v_SIDES, v_WIDTHS, beq_self_eq_true, Option.getD_some, Option.getD_none, List.getElem?_cons_zero, List.getElem?_cons_succ, Option.bind_some, Option.bind_none, id_eq, Option.map_some, Option.map_none, purs, noloc, setN, List.set_cons_zero, List.set_cons_succ, List.map_cons, List.map_nil, List.length_cons, List.length_nil, List.cons_append, List.nil_append, List.append_nil, List.replicate_succ, List.replicate_zero, Nat.reduceSub, Nat.reduceAdd, Nat.reduceEqDiff, Nat.reduceBEq, if_true, if_false, ↓reduceIte, Bool.not_true, Bool.not_false, decide_true, decide_false, isNon, dselP, eq_self, Bool.and_self, Bool.and_true, Bool.true_and, Int.cast_ofNat_Int, g1, g3, ha, el, Option.map_some, Option.getD_some]
  · intro _
    simp only [z_bind, z_st, z_pS, z_slot, z_cst, z_glb, z_kTup, z_kLst, z_kLstL, z_kLstC, z_kBin2, z_kBin, z_kNeg, z_kCmp2, z_kCmp, z_kChn2, z_kChn, z_kNot, z_kIte, z_kIdx2, z_kIdx, z_kSlc3, z_kSlc2, z_kSlc, z_kSome, z_kRev, z_kDsel2, z_kDsel, z_kIsi, z_kIsT, z_kBif, z_kListC, z_kLrg, z_lrg, z_kMth2, z_kMth, z_kFld, z_kCall, z_kCalp, z_kMkf, z_kLc, z_tup, z_lst, z_lstL, z_lstC, z_bin, z_neg, z_cmp, z_chn, z_bop, z_not, z_ite, z_idx, z_slc, z_rev, z_dsel, z_isi, z_isT, z_bif, z_listC, z_mth, z_fld, z_call, z_calp, z_mkf, z_frz, z_nil, z_kCons2, z_kCons, z_kStar2, z_kStar, z_kB, z_cons, z_star, z_b1, z_b2, z_o0, z_o1, z_kSeq, z_kEnu, z_kRng1, z_kRng3, z_kRng2, z_kC, z_seq, z_enu, z_c0, z_c1, z_kAsg, z_kUnp, z_kPar, z_kSto26, z_kSto25, z_kSto24, z_kSto23, z_kSto22, z_sto2, z_kSto3, z_kSto2, z_kSto, z_kAugs3, z_kAugs2, z_kAugs, z_kAug, z_kStf2, z_kStf, z_kExp, z_kRet, z_kIfs, z_kFor, z_kS, z_asg, z_unp, z_par, z_sto, z_augs, z_aug, z_stf, z_exp, z_ret, z_ret0, z_ifs, z_forr, z_whil, z_pas, z_brk, z_con, z_snil, z_scons, z_callU, z_callH, z_callG, z_callX, z_calpU, z_calpH, z_calpG, z_calpX, z_runU, z_run1, z_run2, z_run3, z_run4, z_dat, z_at0, z_at1, z_at2, z_at3, z_at4, z_at5, z_ixT, z_ixL, z_pp, z_add, z_sub, z_mulS, z_mulT, z_mulL, z_lt, z_le, z_gt, z_ge, z_eqI, z_neI, z_eqS, z_isN, z_isnN, z_methH, z_kMeth2, z_kMeth, z_meth, z_recP, z_calmP, z_calmC, z_prpG, z_prpP, z_kProp, z_prop, z_objP, z_kOwn2, z_kOwn, z_kOwnC2, z_kOwnC, z_opc, z_opb, z_own, z_ownP, z_ownC, z_ownT, z_kLenO, z_lenO, z_lenP, z_kIsc, z_isc, z_bindX, z_kRai, z_rai, z_rai0, z_rai1, z_rai2, z_hd, z_hdF, z_hdT, z_nm0, z_rm0, z_rm1, z_ht0, z_ht1, z_ht2, z_ht3, z_try, z_try0, z_tryX, z_kSX, z_clpG, z_clp0, z_calp0, z_kIscT, z_kSpl2, z_kSpl, z_spl, z_kJoi2, z_kJoi, z_joi, z_kMkc, z_mkc, z_mkcG, z_mkcH, z_mkcF, z_kAugf2, z_kAugf, z_augf, z_fns, z_ini, z_gl, z_xf, z_fa, z_pI, z_binC, z_ixC, z_stC, z_lenC, z_lenD, z_max, z_min, z_int, z_lenL, z_lenT, z_ten18, z_ix0, z_ix2, z_line0, z_line1, z_line2, z_line3, z_line4, z_line5, z_line6, z_line7, z_line8, z_q1, z_q2, z_q3, z_q4, z_q5, z_q6, z_q7, z_q8, z_q9, z_q10, z_q11, z_q12, z_q13, z_q14, z_q15, z_sqT, z_sqL, z_sqS, z_as1, z_as2, z_tupL, z_sumT, z_sum, z_w0, z_w1, z_augS, z_augA, z_fnd, z_lenA, z_lenB, z_rcA, z_mtA, z_lcat, z_lset, z_stA, z_ixA, z_ixM, z_i0, z_i1, z_i2, z_i3, z_fdiv2, z_fdiv6, z_fmod6, z_mul6, z_mul2, z_slT, z_slL, z_p1, z_p2, zu_hm, zu_hp1, zu_hp2, v_x_InvalidCourse, v_x_TooHigh, v_MOST_COURSES, v_MOST_KIND, v_NO_HOLES, v_SIDES, v_WIDTHS, beq_self_eq_true, Option.getD_some, Option.getD_none, List.getElem?_cons_zero, List.getElem?_cons_succ, Option.bind_some, Option.bind_none, id_eq, Option.map_some, Option.map_none, purs, noloc, setN, List.set_cons_zero, List.set_cons_succ, List.map_cons, List.map_nil, List.length_cons, List.length_nil, List.cons_append, List.nil_append, List.append_nil, List.replicate_succ, List.replicate_zero, Nat.reduceSub, Nat.reduceAdd, Nat.reduceEqDiff, Nat.reduceBEq, if_true, if_false, ↓reduceIte, Bool.not_true, Bool.not_false, decide_true, decide_false, isNon, dselP, eq_self, Bool.and_self, Bool.and_true, Bool.true_and, Int.cast_ofNat_Int, g1]
theorem alk_one (p : P) (h : alk 1 p) : alk 2 (.lst [p]) := ⟨by simp, fun q hq => by rw [List.mem_singleton.mp hq]; exact h⟩
theorem ne_1 : cmpD .NotEq (.pur (.lst [.non])) (.pur (.lst [])) = some true := by kernel_rfl
theorem ne_2 {i : Int} : cmpD .NotEq (.pur (.lst [.int i])) (.pur (.lst [])) = some true := by kernel_rfl
theorem ne_3 : cmpD .NotEq (.pur (.lst [])) (.pur (.lst [])) = some false := by kernel_rfl
def tailB : Stms := match b_law_l1 with
  | .cons _ (.cons _ (.cons _ r)) => r
  | _ => .nil
/-- what is picked -/
theorem end_ref {d0 d2 d4 d5 d6 d7 d8 d9 d10 : Option D} {m : List Cell} (hm : Dr m) {x : P} (hx : Refd x .non) (hs : (∃ ps, x = .lst ps) ∨ x = .non ∨ x = .tup [] ∨ ∃ ps, x = .tup ps ∧ 3 < ps.length) :
    ∃ g5 g6 g10, exSs G_law tailB { r := [d0, some (.cel 1), d2, some (.pur x), d4, d5, d6, d7, d8, d9, d10], m := m, l := [] } = .ok .nx { r := [d0, some (.cel 1), d2, some (.pur x), d4, g5, g6, d7, d8, d9, g10], m := m, l := [] } := by
  have e1 := tried_ref hx
  have e2 := alike_ok (alk_one .non trivial) (by omega)
  refine ⟨some (.pur (.lst [.non])), some (.pur (.lst [.non])), d10, ?_⟩
  rcases hs with ⟨ps, rfl⟩ | rfl | rfl | ⟨ps, rfl, hl⟩
  · unfold tailB b_law_l1
    simp only [g_law_x, g_law__law_alike, g_law__law_are_told, g_law__law_is_course, g_law__law_tried, g_law__law_pick, g_law__law_next, g_law__law_odd, g_law__law_course, g_law__law_courses, g_law__law_mix, g_law_g, g_law_a, z_bind, z_st, z_pS, z_slot, z_cst, z_glb, z_kTup, z_kLst, z_kLstL, z_kLstC, z_kBin2, z_kBin, z_kNeg, z_kCmp2, z_kCmp, z_kChn2, z_kChn, z_kNot, z_kIte, z_kIdx2, z_kIdx, z_kSlc3, z_kSlc2, z_kSlc, z_kSome, z_kRev, z_kDsel2, z_kDsel, z_kIsi, z_kIsT, z_kBif, z_kListC, z_kLrg, z_lrg, z_kMth2, z_kMth, z_kFld, z_kCall, z_kCalp, z_kMkf, z_kLc, z_tup, z_lst, z_lstL, z_lstC, z_bin, z_neg, z_cmp, z_chn, z_bop, z_not, z_ite, z_idx, z_slc, z_rev, z_dsel, z_isi, z_isT, z_bif, z_listC, z_mth, z_fld, z_call, z_calp, z_mkf, z_frz, z_nil, z_kCons2, z_kCons, z_kStar2, z_kStar, z_kB, z_cons, z_star, z_b1, z_b2, z_o0, z_o1, z_kSeq, z_kEnu, z_kRng1, z_kRng3, z_kRng2, z_kC, z_seq, z_enu, z_c0, z_c1, z_kAsg, z_kUnp, z_kPar, z_kSto26, z_kSto25, z_kSto24, z_kSto23, z_kSto22, z_sto2, z_kSto3, z_kSto2, z_kSto, z_kAugs3, z_kAugs2, z_kAugs, z_kAug, z_kStf2, z_kStf, z_kExp, z_kRet, z_kIfs, z_kFor, z_kS, z_asg, z_unp, z_par, z_sto, z_augs, z_aug, z_stf, z_exp, z_ret, z_ret0, z_ifs, z_forr, z_whil, z_pas, z_brk, z_con, z_snil, z_scons, z_callU, z_callH, z_callG, z_callX, z_calpU, z_calpH, z_calpG, z_calpX, z_runU, z_run1, z_run2, z_run3, z_run4, z_dat, z_at0, z_at1, z_at2, z_at3, z_at4, z_at5, z_ixT, z_ixL, z_pp, z_add, z_sub, z_mulS, z_mulT, z_mulL, z_lt, z_le, z_gt, z_ge, z_eqI, z_neI, z_eqS, z_isN, z_isnN, z_methH, z_kMeth2, z_kMeth, z_meth, z_recP, z_calmP, z_calmC, z_prpG, z_prpP, z_kProp, z_prop, z_objP, z_kOwn2, z_kOwn, z_kOwnC2, z_kOwnC, z_opc, z_opb, z_own, z_ownP, z_ownC, z_ownT, z_kLenO, z_lenO, z_lenP, z_kIsc, z_isc, z_bindX, z_kRai, z_rai, z_rai0, z_rai1, z_rai2, z_hd, z_hdF, z_hdT, z_nm0, z_rm0, z_rm1, z_ht0, z_ht1, z_ht2, z_ht3, z_try, z_try0, z_tryX, z_kSX, z_clpG, z_clp0, z_calp0, z_kIscT, z_kSpl2, z_kSpl, z_spl, z_kJoi2, z_kJoi, z_joi, z_kMkc, z_mkc, z_mkcG, z_mkcH, z_mkcF, z_kAugf2, z_kAugf, z_augf, z_fns, z_ini, z_gl, z_xf, z_fa, z_pI, z_binC, z_ixC, z_stC, z_lenC, z_lenD, z_max, z_min, z_int, z_lenL, z_lenT, z_ten18, z_ix0, z_ix2, z_line0, z_line1, z_line2, z_line3, z_line4, z_line5, z_line6, z_line7, z_line8, z_q1, z_q2, z_q3, z_q4, z_q5, z_q6, z_q7, z_q8, z_q9, z_q10, z_q11, z_q12, z_q13, z_q14, z_q15, z_sqT, z_sqL, z_sqS, z_as1, z_as2, z_tupL, z_sumT, z_sum, z_w0, z_w1, z_augS, z_augA, z_fnd, z_lenA, z_lenB, z_rcA, z_mtA, z_lcat, z_lset, z_stA, z_ixA, z_ixM, z_i0, z_i1, z_i2, z_i3, z_fdiv2, z_fdiv6, z_fmod6, z_mul6, z_mul2, z_slT, z_slL, z_p1, z_p2, zu_hm, zu_hp1, zu_hp2, v_x_InvalidCourse, v_x_TooHigh, v_MOST_COURSES, v_MOST_KIND, v_NO_HOLES, v_SIDES, v_WIDTHS, beq_self_eq_true, Option.getD_some, Option.getD_none, List.getElem?_cons_zero, List.getElem?_cons_succ, Option.bind_some, Option.bind_none, id_eq, Option.map_some, Option.map_none, purs, noloc, setN, List.set_cons_zero, List.set_cons_succ, List.map_cons, List.map_nil, List.length_cons, List.length_nil, List.cons_append, List.nil_append, List.append_nil, List.replicate_succ, List.replicate_zero, Nat.reduceSub, Nat.reduceAdd, Nat.reduceEqDiff, Nat.reduceBEq, if_true, if_false, ↓reduceIte, Bool.not_true, Bool.not_false, decide_true, decide_false, isNon, dselP, eq_self, Bool.and_self, Bool.and_true, Bool.true_and, Int.cast_ofNat_Int, isTy, e1, e2, ne_1]
  · unfold tailB b_law_l1
    simp only [g_law_x, g_law__law_alike, g_law__law_are_told, g_law__law_is_course, g_law__law_tried, g_law__law_pick, g_law__law_next, g_law__law_odd, g_law__law_course, g_law__law_courses, g_law__law_mix, g_law_g, g_law_a, z_bind, z_st, z_pS, z_slot, z_cst, z_glb, z_kTup, z_kLst, z_kLstL, z_kLstC, z_kBin2, z_kBin, z_kNeg, z_kCmp2, z_kCmp, z_kChn2, z_kChn, z_kNot, z_kIte, z_kIdx2, z_kIdx, z_kSlc3, z_kSlc2, z_kSlc, z_kSome, z_kRev, z_kDsel2, z_kDsel, z_kIsi, z_kIsT, z_kBif, z_kListC, z_kLrg, z_lrg, z_kMth2, z_kMth, z_kFld, z_kCall, z_kCalp, z_kMkf, z_kLc, z_tup, z_lst, z_lstL, z_lstC, z_bin, z_neg, z_cmp, z_chn, z_bop, z_not, z_ite, z_idx, z_slc, z_rev, z_dsel, z_isi, z_isT, z_bif, z_listC, z_mth, z_fld, z_call, z_calp, z_mkf, z_frz, z_nil, z_kCons2, z_kCons, z_kStar2, z_kStar, z_kB, z_cons, z_star, z_b1, z_b2, z_o0, z_o1, z_kSeq, z_kEnu, z_kRng1, z_kRng3, z_kRng2, z_kC, z_seq, z_enu, z_c0, z_c1, z_kAsg, z_kUnp, z_kPar, z_kSto26, z_kSto25, z_kSto24, z_kSto23, z_kSto22, z_sto2, z_kSto3, z_kSto2, z_kSto, z_kAugs3, z_kAugs2, z_kAugs, z_kAug, z_kStf2, z_kStf, z_kExp, z_kRet, z_kIfs, z_kFor, z_kS, z_asg, z_unp, z_par, z_sto, z_augs, z_aug, z_stf, z_exp, z_ret, z_ret0, z_ifs, z_forr, z_whil, z_pas, z_brk, z_con, z_snil, z_scons, z_callU, z_callH, z_callG, z_callX, z_calpU, z_calpH, z_calpG, z_calpX, z_runU, z_run1, z_run2, z_run3, z_run4, z_dat, z_at0, z_at1, z_at2, z_at3, z_at4, z_at5, z_ixT, z_ixL, z_pp, z_add, z_sub, z_mulS, z_mulT, z_mulL, z_lt, z_le, z_gt, z_ge, z_eqI, z_neI, z_eqS, z_isN, z_isnN, z_methH, z_kMeth2, z_kMeth, z_meth, z_recP, z_calmP, z_calmC, z_prpG, z_prpP, z_kProp, z_prop, z_objP, z_kOwn2, z_kOwn, z_kOwnC2, z_kOwnC, z_opc, z_opb, z_own, z_ownP, z_ownC, z_ownT, z_kLenO, z_lenO, z_lenP, z_kIsc, z_isc, z_bindX, z_kRai, z_rai, z_rai0, z_rai1, z_rai2, z_hd, z_hdF, z_hdT, z_nm0, z_rm0, z_rm1, z_ht0, z_ht1, z_ht2, z_ht3, z_try, z_try0, z_tryX, z_kSX, z_clpG, z_clp0, z_calp0, z_kIscT, z_kSpl2, z_kSpl, z_spl, z_kJoi2, z_kJoi, z_joi, z_kMkc, z_mkc, z_mkcG, z_mkcH, z_mkcF, z_kAugf2, z_kAugf, z_augf, z_fns, z_ini, z_gl, z_xf, z_fa, z_pI, z_binC, z_ixC, z_stC, z_lenC, z_lenD, z_max, z_min, z_int, z_lenL, z_lenT, z_ten18, z_ix0, z_ix2, z_line0, z_line1, z_line2, z_line3, z_line4, z_line5, z_line6, z_line7, z_line8, z_q1, z_q2, z_q3, z_q4, z_q5, z_q6, z_q7, z_q8, z_q9, z_q10, z_q11, z_q12, z_q13, z_q14, z_q15, z_sqT, z_sqL, z_sqS, z_as1, z_as2, z_tupL, z_sumT, z_sum, z_w0, z_w1, z_augS, z_augA, z_fnd, z_lenA, z_lenB, z_rcA, z_mtA, z_lcat, z_lset, z_stA, z_ixA, z_ixM, z_i0, z_i1, z_i2, z_i3, z_fdiv2, z_fdiv6, z_fmod6, z_mul6, z_mul2, z_slT, z_slL, z_p1, z_p2, zu_hm, zu_hp1, zu_hp2, v_x_InvalidCourse, v_x_TooHigh, v_MOST_COURSES, v_MOST_KIND, v_NO_HOLES, v_SIDES, v_WIDTHS, beq_self_eq_true, Option.getD_some, Option.getD_none, List.getElem?_cons_zero, List.getElem?_cons_succ, Option.bind_some, Option.bind_none, id_eq, Option.map_some, Option.map_none, purs, noloc, setN, List.set_cons_zero, List.set_cons_succ, List.map_cons, List.map_nil, List.length_cons, List.length_nil, List.cons_append, List.nil_append, List.append_nil, List.replicate_succ, List.replicate_zero, Nat.reduceSub, Nat.reduceAdd, Nat.reduceEqDiff, Nat.reduceBEq, if_true, if_false, ↓reduceIte, Bool.not_true, Bool.not_false, decide_true, decide_false, isNon, dselP, eq_self, Bool.and_self, Bool.and_true, Bool.true_and, Int.cast_ofNat_Int, isTy, e1, e2, ne_1]
  · have q : decide ((1 : Int) ≤ 0) = false := by decide
    unfold tailB b_law_l1
    simp only [g_law_x, g_law__law_alike, g_law__law_are_told, g_law__law_is_course, g_law__law_tried, g_law__law_pick, g_law__law_next, g_law__law_odd, g_law__law_course, g_law__law_courses, g_law__law_mix, g_law_g, g_law_a, z_bind, z_st, z_pS, z_slot, z_cst, z_glb, z_kTup, z_kLst, z_kLstL, z_kLstC, z_kBin2, z_kBin, z_kNeg, z_kCmp2, z_kCmp, z_kChn2, z_kChn, z_kNot, z_kIte, z_kIdx2, z_kIdx, z_kSlc3, z_kSlc2, z_kSlc, z_kSome, z_kRev, z_kDsel2, z_kDsel, z_kIsi, z_kIsT, z_kBif, z_kListC, z_kLrg, z_lrg, z_kMth2, z_kMth, z_kFld, z_kCall, z_kCalp, z_kMkf, z_kLc, z_tup, z_lst, z_lstL, z_lstC, z_bin, z_neg, z_cmp, z_chn, z_bop, z_not, z_ite, z_idx, z_slc, z_rev, z_dsel, z_isi, z_isT, z_bif, z_listC, z_mth, z_fld, z_call, z_calp, z_mkf, z_frz, z_nil, z_kCons2, z_kCons, z_kStar2, z_kStar, z_kB, z_cons, z_star, z_b1, z_b2, z_o0, z_o1, z_kSeq, z_kEnu, z_kRng1, z_kRng3, z_kRng2, z_kC, z_seq, z_enu, z_c0, z_c1, z_kAsg, z_kUnp, z_kPar, z_kSto26, z_kSto25, z_kSto24, z_kSto23, z_kSto22, z_sto2, z_kSto3, z_kSto2, z_kSto, z_kAugs3, z_kAugs2, z_kAugs, z_kAug, z_kStf2, z_kStf, z_kExp, z_kRet, z_kIfs, z_kFor, z_kS, z_asg, z_unp, z_par, z_sto, z_augs, z_aug, z_stf, z_exp, z_ret, z_ret0, z_ifs, z_forr, z_whil, z_pas, z_brk, z_con, z_snil, z_scons, z_callU, z_callH, z_callG, z_callX, z_calpU, z_calpH, z_calpG, z_calpX, z_runU, z_run1, z_run2, z_run3, z_run4, z_dat, z_at0, z_at1, z_at2, z_at3, z_at4, z_at5, z_ixT, z_ixL, z_pp, z_add, z_sub, z_mulS, z_mulT, z_mulL, z_lt, z_le, z_gt, z_ge, z_eqI, z_neI, z_eqS, z_isN, z_isnN, z_methH, z_kMeth2, z_kMeth, z_meth, z_recP, z_calmP, z_calmC, z_prpG, z_prpP, z_kProp, z_prop, z_objP, z_kOwn2, z_kOwn, z_kOwnC2, z_kOwnC, z_opc, z_opb, z_own, z_ownP, z_ownC, z_ownT, z_kLenO, z_lenO, z_lenP, z_kIsc, z_isc, z_bindX, z_kRai, z_rai, z_rai0, z_rai1, z_rai2, z_hd, z_hdF, z_hdT, z_nm0, z_rm0, z_rm1, z_ht0, z_ht1, z_ht2, z_ht3, z_try, z_try0, z_tryX, z_kSX, z_clpG, z_clp0, z_calp0, z_kIscT, z_kSpl2, z_kSpl, z_spl, z_kJoi2, z_kJoi, z_joi, z_kMkc, z_mkc, z_mkcG, z_mkcH, z_mkcF, z_kAugf2, z_kAugf, z_augf, z_fns, z_ini, z_gl, z_xf, z_fa, z_pI, z_binC, z_ixC, z_stC, z_lenC, z_lenD, z_max, z_min, z_int, z_lenL, z_lenT, z_ten18, z_ix0, z_ix2, z_line0, z_line1, z_line2, z_line3, z_line4, z_line5, z_line6, z_line7, z_line8, z_q1, z_q2, z_q3, z_q4, z_q5, z_q6, z_q7, z_q8, z_q9, z_q10, z_q11, z_q12, z_q13, z_q14, z_q15, z_sqT, z_sqL, z_sqS, z_as1, z_as2, z_tupL, z_sumT, z_sum, z_w0, z_w1, z_augS, z_augA, z_fnd, z_lenA, z_lenB, z_rcA, z_mtA, z_lcat, z_lset, z_stA, z_ixA, z_ixM, z_i0, z_i1, z_i2, z_i3, z_fdiv2, z_fdiv6, z_fmod6, z_mul6, z_mul2, z_slT, z_slL, z_p1, z_p2, zu_hm, zu_hp1, zu_hp2, v_x_InvalidCourse, v_x_TooHigh, v_MOST_COURSES, v_MOST_KIND, v_NO_HOLES, v_SIDES, v_WIDTHS, beq_self_eq_true, Option.getD_some, Option.getD_none, List.getElem?_cons_zero, List.getElem?_cons_succ, Option.bind_some, Option.bind_none, id_eq, Option.map_some, Option.map_none, purs, noloc, setN, List.set_cons_zero, List.set_cons_succ, List.map_cons, List.map_nil, List.length_cons, List.length_nil, List.cons_append, List.nil_append, List.append_nil, List.replicate_succ, List.replicate_zero, Nat.reduceSub, Nat.reduceAdd, Nat.reduceEqDiff, Nat.reduceBEq, if_true, if_false, ↓reduceIte, Bool.not_true, Bool.not_false, decide_true, decide_false, isNon, dselP, eq_self, Bool.and_self, Bool.and_true, Bool.true_and, Int.cast_ofNat_Int, isTy, e1, e2, ne_1, q]
  · have g1 : (1 : Int) ≤ (ps.length : Int) := by omega
    have g3 : ¬ (ps.length : Int) ≤ 3 := by omega
    unfold tailB b_law_l1
    simp only [g_law_x, g_law__law_alike, g_law__law_are_told, g_law__law_is_course, g_law__law_tried, g_law__law_pick, g_law__law_next, g_law__law_odd, g_law__law_course, g_law__law_courses, g_law__law_mix, g_law_g, g_law_a, z_bind, z_st, z_pS, z_slot, z_cst, z_glb, z_kTup, z_kLst, z_kLstL, z_kLstC, z_kBin2, z_kBin, z_kNeg, z_kCmp2, z_kCmp, z_kChn2, z_kChn, z_kNot, z_kIte, z_kIdx2, z_kIdx, z_kSlc3, z_kSlc2, z_kSlc, z_kSome, z_kRev, z_kDsel2, z_kDsel, z_kIsi, z_kIsT, z_kBif, z_kListC, z_kLrg, z_lrg, z_kMth2, z_kMth, z_kFld, z_kCall, z_kCalp, z_kMkf, z_kLc, z_tup, z_lst, z_lstL, z_lstC, z_bin, z_neg, z_cmp, z_chn, z_bop, z_not, z_ite, z_idx, z_slc, z_rev, z_dsel, z_isi, z_isT, z_bif, z_listC, z_mth, z_fld, z_call, z_calp, z_mkf, z_frz, z_nil, z_kCons2, z_kCons, z_kStar2, z_kStar, z_kB, z_cons, z_star, z_b1, z_b2, z_o0, z_o1, z_kSeq, z_kEnu, z_kRng1, z_kRng3, z_kRng2, z_kC, z_seq, z_enu, z_c0, z_c1, z_kAsg, z_kUnp, z_kPar, z_kSto26, z_kSto25, z_kSto24, z_kSto23, z_kSto22, z_sto2, z_kSto3, z_kSto2, z_kSto, z_kAugs3, z_kAugs2, z_kAugs, z_kAug, z_kStf2, z_kStf, z_kExp, z_kRet, z_kIfs, z_kFor, z_kS, z_asg, z_unp, z_par, z_sto, z_augs, z_aug, z_stf, z_exp, z_ret, z_ret0, z_ifs, z_forr, z_whil, z_pas, z_brk, z_con, z_snil, z_scons, z_callU, z_callH, z_callG, z_callX, z_calpU, z_calpH, z_calpG, z_calpX, z_runU, z_run1, z_run2, z_run3, z_run4, z_dat, z_at0, z_at1, z_at2, z_at3, z_at4, z_at5, z_ixT, z_ixL, z_pp, z_add, z_sub, z_mulS, z_mulT, z_mulL, z_lt, z_le, z_gt, z_ge, z_eqI, z_neI, z_eqS, z_isN, z_isnN, z_methH, z_kMeth2, z_kMeth, z_meth, z_recP, z_calmP, z_calmC, z_prpG, z_prpP, z_kProp, z_prop, z_objP, z_kOwn2, z_kOwn, z_kOwnC2, z_kOwnC, z_opc, z_opb, z_own, z_ownP, z_ownC, z_ownT, z_kLenO, z_lenO, z_lenP, z_kIsc, z_isc, z_bindX, z_kRai, z_rai, z_rai0, z_rai1, z_rai2, z_hd, z_hdF, z_hdT, z_nm0, z_rm0, z_rm1, z_ht0, z_ht1, z_ht2, z_ht3, z_try, z_try0, z_tryX, z_kSX, z_clpG, z_clp0, z_calp0, z_kIscT, z_kSpl2, z_kSpl, z_spl, z_kJoi2, z_kJoi, z_joi, z_kMkc, z_mkc, z_mkcG, z_mkcH, z_mkcF, z_kAugf2, z_kAugf, z_augf, z_fns, z_ini, z_gl, z_xf, z_fa, z_pI, z_binC, z_ixC, z_stC, z_lenC, z_lenD, z_max, z_min, z_int, z_lenL, z_lenT, z_ten18, z_ix0, z_ix2, z_line0, z_line1, z_line2, z_line3, z_line4, z_line5, z_line6, z_line7, z_line8, z_q1, z_q2, z_q3, z_q4, z_q5, z_q6, z_q7, z_q8, z_q9, z_q10, z_q11, z_q12, z_q13, z_q14, z_q15, z_sqT, z_sqL, z_sqS, z_as1, z_as2, z_tupL, z_sumT, z_sum, z_w0, z_w1, z_augS, z_augA, z_fnd, z_lenA, z_lenB, z_rcA, z_mtA, z_lcat, z_lset, z_stA, z_ixA, z_ixM, z_i0, z_i1, z_i2, z_i3, z_fdiv2, z_fdiv6, z_fmod6, z_mul6, z_mul2, z_slT, z_slL, z_p1, z_p2, zu_hm, zu_hp1, zu_hp2, v_x_InvalidCourse, v_x_TooHigh, v_MOST_COURSES, v_MOST_KIND, v_NO_HOLES, v_SIDES, v_WIDTHS, beq_self_eq_true, Option.getD_some, Option.getD_none, List.getElem?_cons_zero, List.getElem?_cons_succ, Option.bind_some, Option.bind_none, id_eq, Option.map_some, Option.map_none, purs, noloc, setN, List.set_cons_zero, List.set_cons_succ, List.map_cons, List.map_nil, List.length_cons, List.length_nil, List.cons_append, List.nil_append, List.append_nil, List.replicate_succ, List.replicate_zero, Nat.reduceSub, Nat.reduceAdd, Nat.reduceEqDiff, Nat.reduceBEq, if_true, if_false, ↓reduceIte, Bool.not_true, Bool.not_false, decide_true, decide_false, isNon, dselP, eq_self, Bool.and_self, Bool.and_true, Bool.true_and, Int.cast_ofNat_Int, isTy, e1, e2, ne_1, g1, g3]
theorem end_tup {d0 d2 d4 d5 d6 d7 d8 d9 d10 : Option D} {m : List Cell} (hm : Dr m) {ps : List P} (hI : Its ps) (h1 : 1 ≤ ps.length) (h4 : ps.length ≤ 4) :
    ∃ g5 g6 g10 m', exSs G_law tailB { r := [d0, some (.cel 1), d2, some (.pur (.tup ps)), d4, d5, d6, d7, d8, d9, d10], m := m, l := [] } = .ok .nx { r := [d0, some (.cel 1), d2, some (.pur (.tup ps)), d4, g5, g6, d7, d8, d9, g10], m := m', l := [] } ∧ Dr m' := by
  by_cases h3 : 3 < ps.length
  · obtain ⟨g5, g6, g10, e⟩ := end_ref (d0 := d0) (d2 := d2) (d4 := d4) (d5 := d5) (d6 := d6) (d7 := d7) (d8 := d8) (d9 := d9) (d10 := d10) hm (ref_long h3) (.inr (.inr (.inr ⟨ps, rfl, h3⟩)))
    exact ⟨g5, g6, g10, m, e, hm⟩
  · have g1 : (1 : Int) ≤ (ps.length : Int) := by omega
    have g3 : (ps.length : Int) ≤ 3 := by omega
    have ek : ∀ s : S, s.r[3]? = some (some (.pur (.tup ps))) → 10 < s.r.length → _ := fun s a b => law_due hI (by omega) (s := s) a b
    have hfl := flt_fb ps 0
    have sl : slcP (.lst (((List.range ps.length).filter fun k => !(ps[k]?.map isCb).getD true).map fun k : Nat => P.int (k : Int))) none (some 1) = some (.lst ((match fb ps 0 with
        | none => []
        | some i => [i - 0]).map fun k : Nat => P.int (k : Int))) := by
      rw [z_slL, show (1 : Int) = ((1 : Nat) : Int) from rfl, cut_take, ← List.map_take, hfl]
    generalize ((List.range ps.length).filter fun k => !(ps[k]?.map isCb).getD true).map (fun k : Nat => P.int (k : Int)) = L at ek sl
    cases hf : fb ps 0 with
    | some i =>
      rw [hf] at sl
      have e1 := tried_ref (ref_bad hI h1 (by omega) hf)
      have e2 := alike_ok (alk_one (.int (i : Int)) trivial) (by omega)
      have sl : slcP (.lst L) none (some 1) = some (.lst [.int (i : Int)]) := sl
      refine ⟨some (.pur (.lst [.int (i : Int)])), some (.pur (.lst [.int (i : Int)])), d10, m, ?_, hm⟩
      unfold tailB b_law_l1
      simp only [g_law_x, g_law__law_alike, g_law__law_are_told, g_law__law_is_course, g_law__law_tried, g_law__law_pick, g_law__law_next, g_law__law_odd, g_law__law_course, g_law__law_courses, g_law__law_mix, g_law_g, g_law_a, z_bind, z_st, z_pS, z_slot, z_cst, z_glb, z_kTup, z_kLst, z_kLstL, z_kLstC, z_kBin2, z_kBin, z_kNeg, z_kCmp2, z_kCmp, z_kChn2, z_kChn, z_kNot, z_kIte, z_kIdx2, z_kIdx, z_kSlc3, z_kSlc2, z_kSlc, z_kSome, z_kRev, z_kDsel2, z_kDsel, z_kIsi, z_kIsT, z_kBif, z_kListC, z_kLrg, z_lrg, z_kMth2, z_kMth, z_kFld, z_kCall, z_kCalp, z_kMkf, z_kLc, z_tup, z_lst, z_lstL, z_lstC, z_bin, z_neg, z_cmp, z_chn, z_bop, z_not, z_ite, z_idx, z_slc, z_rev, z_dsel, z_isi, z_isT, z_bif, z_listC, z_mth, z_fld, z_call, z_calp, z_mkf, z_frz, z_nil, z_kCons2, z_kCons, z_kStar2, z_kStar, z_kB, z_cons, z_star, z_b1, z_b2, z_o0, z_o1, z_kSeq, z_kEnu, z_kRng1, z_kRng3, z_kRng2, z_kC, z_seq, z_enu, z_c0, z_c1, z_kAsg, z_kUnp, z_kPar, z_kSto26, z_kSto25, z_kSto24, z_kSto23, z_kSto22, z_sto2, z_kSto3, z_kSto2, z_kSto, z_kAugs3, z_kAugs2, z_kAugs, z_kAug, z_kStf2, z_kStf, z_kExp, z_kRet, z_kIfs, z_kFor, z_kS, z_asg, z_unp, z_par, z_sto, z_augs, z_aug, z_stf, z_exp, z_ret, z_ret0, z_ifs, z_forr, z_whil, z_pas, z_brk, z_con, z_snil, z_scons, z_callU, z_callH, z_callG, z_callX, z_calpU, z_calpH, z_calpG, z_calpX, z_runU, z_run1, z_run2, z_run3, z_run4, z_dat, z_at0, z_at1, z_at2, z_at3, z_at4, z_at5, z_ixT, z_ixL, z_pp, z_add, z_sub, z_mulS, z_mulT, z_mulL, z_lt, z_le, z_gt, z_ge, z_eqI, z_neI, z_eqS, z_isN, z_isnN, z_methH, z_kMeth2, z_kMeth, z_meth, z_recP, z_calmP, z_calmC, z_prpG, z_prpP, z_kProp, z_prop, z_objP, z_kOwn2, z_kOwn, z_kOwnC2, z_kOwnC, z_opc, z_opb, z_own, z_ownP, z_ownC, z_ownT, z_kLenO, z_lenO, z_lenP, z_kIsc, z_isc, z_bindX, z_kRai, z_rai, z_rai0, z_rai1, z_rai2, z_hd, z_hdF, z_hdT, z_nm0, z_rm0, z_rm1, z_ht0, z_ht1, z_ht2, z_ht3, z_try, z_try0, z_tryX, z_kSX, z_clpG, z_clp0, z_calp0, z_kIscT, z_kSpl2, z_kSpl, z_spl, z_kJoi2, z_kJoi, z_joi, z_kMkc, z_mkc, z_mkcG, z_mkcH, z_mkcF, z_kAugf2, z_kAugf, z_augf, z_fns, z_ini, z_gl, z_xf, z_fa, z_pI, z_binC, z_ixC, z_stC, z_lenC, z_lenD, z_max, z_min, z_int, z_lenL, z_lenT, z_ten18, z_ix0, z_ix2, z_line0, z_line1, z_line2, z_line3, z_line4, z_line5, z_line6, z_line7, z_line8, z_q1, z_q2, z_q3, z_q4, z_q5, z_q6, z_q7, z_q8, z_q9, z_q10, z_q11, z_q12, z_q13, z_q14, z_q15, z_sqT, z_sqL, z_sqS, z_as1, z_as2, z_tupL, z_sumT, z_sum, z_w0, z_w1, z_augS, z_augA, z_fnd, z_lenA, z_lenB, z_rcA, z_mtA, z_lcat, z_lset, z_stA, z_ixA, z_ixM, z_i0, z_i1, z_i2, z_i3, z_fdiv2, z_fdiv6, z_fmod6, z_mul6, z_mul2, z_slT, z_slL, z_p1, z_p2, zu_hm, zu_hp1, zu_hp2, v_x_InvalidCourse, v_x_TooHigh, v_MOST_COURSES, v_MOST_KIND, v_NO_HOLES, v_SIDES, v_WIDTHS, beq_self_eq_true, Option.getD_some, Option.getD_none, List.getElem?_cons_zero, List.getElem?_cons_succ, Option.bind_some, Option.bind_none, id_eq, Option.map_some, Option.map_none, purs, noloc, setN, List.set_cons_zero, List.set_cons_succ, List.map_cons, List.map_nil, List.length_cons, List.length_nil, List.cons_append, List.nil_append, List.append_nil, List.replicate_succ, List.replicate_zero, Nat.reduceSub, Nat.reduceAdd, Nat.reduceEqDiff, Nat.reduceBEq, if_true, if_false, ↓reduceIte, Bool.not_true, Bool.not_false, decide_true, decide_false, isNon, dselP, eq_self, Bool.and_self, Bool.and_true, Bool.true_and, Int.cast_ofNat_Int, isTy, e1, e2, g1, g3, ek, sl, ne_2, Nat.reduceLT]
    | none =>
      rw [hf] at sl
      have sl : slcP (.lst L) none (some 1) = some (.lst []) := sl
      obtain ⟨cs, ok, rfl⟩ := fb_enc hI hf
      rw [List.length_map] at h1 h4 h3 g1 g3
      have e1 := tried_ok ok h1 (by omega)
      obtain ⟨m', e2, hm'⟩ := told_ok hm ok h1 (by omega)
      refine ⟨some (hp cs), some (.pur (.lst [])), d10, m', ?_, hm'⟩
      unfold hp at e1 e2 ⊢
      unfold tailB b_law_l1
      simp only [g_law_x, g_law__law_alike, g_law__law_are_told, g_law__law_is_course, g_law__law_tried, g_law__law_pick, g_law__law_next, g_law__law_odd, g_law__law_course, g_law__law_courses, g_law__law_mix, g_law_g, g_law_a, z_bind, z_st, z_pS, z_slot, z_cst, z_glb, z_kTup, z_kLst, z_kLstL, z_kLstC, z_kBin2, z_kBin, z_kNeg, z_kCmp2, z_kCmp, z_kChn2, z_kChn, z_kNot, z_kIte, z_kIdx2, z_kIdx, z_kSlc3, z_kSlc2, z_kSlc, z_kSome, z_kRev, z_kDsel2, z_kDsel, z_kIsi, z_kIsT, z_kBif, z_kListC, z_kLrg, z_lrg, z_kMth2, z_kMth, z_kFld, z_kCall, z_kCalp, z_kMkf, z_kLc, z_tup, z_lst, z_lstL, z_lstC, z_bin, z_neg, z_cmp, z_chn, z_bop, z_not, z_ite, z_idx, z_slc, z_rev, z_dsel, z_isi, z_isT, z_bif, z_listC, z_mth, z_fld, z_call, z_calp, z_mkf, z_frz, z_nil, z_kCons2, z_kCons, z_kStar2, z_kStar, z_kB, z_cons, z_star, z_b1, z_b2, z_o0, z_o1, z_kSeq, z_kEnu, z_kRng1, z_kRng3, z_kRng2, z_kC, z_seq, z_enu, z_c0, z_c1, z_kAsg, z_kUnp, z_kPar, z_kSto26, z_kSto25, z_kSto24, z_kSto23, z_kSto22, z_sto2, z_kSto3, z_kSto2, z_kSto, z_kAugs3, z_kAugs2, z_kAugs, z_kAug, z_kStf2, z_kStf, z_kExp, z_kRet, z_kIfs, z_kFor, z_kS, z_asg, z_unp, z_par, z_sto, z_augs, z_aug, z_stf, z_exp, z_ret, z_ret0, z_ifs, z_forr, z_whil, z_pas, z_brk, z_con, z_snil, z_scons, z_callU, z_callH, z_callG, z_callX, z_calpU, z_calpH, z_calpG, z_calpX, z_runU, z_run1, z_run2, z_run3, z_run4, z_dat, z_at0, z_at1, z_at2, z_at3, z_at4, z_at5, z_ixT, z_ixL, z_pp, z_add, z_sub, z_mulS, z_mulT, z_mulL, z_lt, z_le, z_gt, z_ge, z_eqI, z_neI, z_eqS, z_isN, z_isnN, z_methH, z_kMeth2, z_kMeth, z_meth, z_recP, z_calmP, z_calmC, z_prpG, z_prpP, z_kProp, z_prop, z_objP, z_kOwn2, z_kOwn, z_kOwnC2, z_kOwnC, z_opc, z_opb, z_own, z_ownP, z_ownC, z_ownT, z_kLenO, z_lenO, z_lenP, z_kIsc, z_isc, z_bindX, z_kRai, z_rai, z_rai0, z_rai1, z_rai2, z_hd, z_hdF, z_hdT, z_nm0, z_rm0, z_rm1, z_ht0, z_ht1, z_ht2, z_ht3, z_try, z_try0, z_tryX, z_kSX, z_clpG, z_clp0, z_calp0, z_kIscT, z_kSpl2, z_kSpl, z_spl, z_kJoi2, z_kJoi, z_joi, z_kMkc, z_mkc, z_mkcG, z_mkcH, z_mkcF, z_kAugf2, z_kAugf, z_augf, z_fns, z_ini, z_gl, z_xf, z_fa, z_pI, z_binC, z_ixC, z_stC, z_lenC, z_lenD, z_max, z_min, z_int, z_lenL, z_lenT, z_ten18, z_ix0, z_ix2, z_line0, z_line1, z_line2, z_line3, z_line4, z_line5, z_line6, z_line7, z_line8, z_q1, z_q2, z_q3, z_q4, z_q5, z_q6, z_q7, z_q8, z_q9, z_q10, z_q11, z_q12, z_q13, z_q14, z_q15, z_sqT, z_sqL, z_sqS, z_as1, z_as2, z_tupL, z_sumT, z_sum, z_w0, z_w1, z_augS, z_augA, z_fnd, z_lenA, z_lenB, z_rcA, z_mtA, z_lcat, z_lset, z_stA, z_ixA, z_ixM, z_i0, z_i1, z_i2, z_i3, z_fdiv2, z_fdiv6, z_fmod6, z_mul6, z_mul2, z_slT, z_slL, z_p1, z_p2, zu_hm, zu_hp1, zu_hp2, v_x_InvalidCourse, v_x_TooHigh, v_MOST_COURSES, v_MOST_KIND, v_NO_HOLES, v_SIDES, v_WIDTHS, beq_self_eq_true, Option.getD_some, Option.getD_none, List.getElem?_cons_zero, List.getElem?_cons_succ, Option.bind_some, Option.bind_none, id_eq, Option.map_some, Option.map_none, purs, noloc, setN, List.set_cons_zero, List.set_cons_succ, List.map_cons, List.map_nil, List.length_cons, List.length_nil, List.cons_append, List.nil_append, List.append_nil, List.replicate_succ, List.replicate_zero, Nat.reduceSub, Nat.reduceAdd, Nat.reduceEqDiff, Nat.reduceBEq, if_true, if_false, ↓reduceIte, Bool.not_true, Bool.not_false, decide_true, decide_false, isNon, dselP, eq_self, Bool.and_self, Bool.and_true, Bool.true_and, Int.cast_ofNat_Int, isTy, e1, e2, g1, g3, ek, sl, ne_3, Nat.reduceLT, List.length_map]
theorem turn_loop {d0 : Option D} : ∀ (ts : List Nat) (d2 d3 d4 d5 d6 d7 d8 d9 d10 : Option D) (m : List Cell), Dr m →
    ∃ s' : S, forF (.nm 2) (exSs G_law b_law_l1) (ts.map fun (i : Nat) => P.int (i : Int)) { r := [d0, some (.cel 1), d2, d3, d4, d5, d6, d7, d8, d9, d10], m := m, l := [] } = .ok .nx s'
  | [], _, _, _, _, _, _, _, _, _, _, _ => ⟨_, rfl⟩
  | t :: ts, d2, d3, d4, d5, d6, d7, d8, d9, d10, m, hm => by
    obtain ⟨cs, m1, e1, ok, hl1, hl3, hm1⟩ := courses_ok hm (most := 3) (by omega) (by omega)
    obtain ⟨v, m2, e2, v0, v1, hm2⟩ := next_ok hm1 (cap := 2) (by omega) (by omega)
    have key : ∃ (qs : List P) (m3 : List Cell) (g4 g7 g8 g9 : Option D), forF (.nm 4) (exSs G_law b_law_l2) ((List.range v.toNat).map fun i : Nat => P.int (i : Int)) { r := [d0, some (.cel 1), some (.pur (.int (t : Int))), some (.pur (.tup (cs.map enc))), d4, d5, d6, d7, d8, d9, d10], m := m2, l := [] } = .ok .nx { r := [d0, some (.cel 1), some (.pur (.int (t : Int))), some (.pur (.tup qs)), g4, d5, d6, g7, g8, g9, d10], m := m3, l := [] } ∧ Dr m3 ∧ Its qs ∧ 1 ≤ qs.length ∧ qs.length ≤ 4 := by
      have hI : Its (cs.map enc) := fun p hp => by
        obtain ⟨c, hc, rfl⟩ := List.mem_map.mp hp
        exact .inr ⟨c, ok c hc, rfl⟩
      have hv : v = 0 ∨ v = 1 := by omega
      rcases hv with rfl | rfl
      · exact ⟨_, m2, d4, d7, d8, d9, rfl, hm2, hI, by rw [List.length_map]; exact hl1, by rw [List.length_map]; omega⟩
      · obtain ⟨qs, m3, g7, g8, g9, e, hm3, hq, q1, q4⟩ := change_ok (d0 := d0) (d2 := some (.pur (.int (t : Int)))) (d4 := some (.pur (.int 0))) (d5 := d5) (d6 := d6) (d7 := d7) (d8 := d8) (d9 := d9) (d10 := d10) (l := []) hm2 hI (by rw [List.length_map]; exact hl1) (by rw [List.length_map]; omega)
        refine ⟨qs, m3, some (.pur (.int 0)), g7, g8, g9, ?_, hm3, hq, q1, q4⟩
        show forF (.nm 4) (exSs G_law b_law_l2) [.int ((0 : Nat) : Int)] _ = _
        exact for_1 (s1 := { r := [d0, some (.cel 1), some (.pur (.int (t : Int))), some (.pur (.tup (cs.map enc))), some (.pur (.int 0)), d5, d6, d7, d8, d9, d10], m := m2, l := [] }) rfl e
    obtain ⟨qs, m3, g4, g7, g8, g9, e3, hm3, hq, q1, q4⟩ := key
    have i2 : ∀ s : S, s.m = m1 → s.r[1]? = some (some (.cel 1)) → evI G_law (.rng1 (.call 17 (.cons (.slot 1) (.cons (.cst (.int 2)) .nil)))) s = .ok ((List.range v.toNat).map fun i : Nat => P.int (i : Int)) { s with m := m2 } := fun s hsm a1 => it_rng1' (n := v) (by
      rw [← hsm] at e2
      simp only [g_law_x, g_law__law_alike, g_law__law_are_told, g_law__law_is_course, g_law__law_tried, g_law__law_pick, g_law__law_next, g_law__law_odd, g_law__law_course, g_law__law_courses, g_law__law_mix, g_law_g, g_law_a, z_bind, z_st, z_pS, z_slot, z_cst, z_glb, z_kTup, z_kLst, z_kLstL, z_kLstC, z_kBin2, z_kBin, z_kNeg, z_kCmp2, z_kCmp, z_kChn2, z_kChn, z_kNot, z_kIte, z_kIdx2, z_kIdx, z_kSlc3, z_kSlc2, z_kSlc, z_kSome, z_kRev, z_kDsel2, z_kDsel, z_kIsi, z_kIsT, z_kBif, z_kListC, z_kLrg, z_lrg, z_kMth2, z_kMth, z_kFld, z_kCall, z_kCalp, z_kMkf, z_kLc, z_tup, z_lst, z_lstL, z_lstC, z_bin, z_neg, z_cmp, z_chn, z_bop, z_not, z_ite, z_idx, z_slc, z_rev, z_dsel, z_isi, z_isT, z_bif, z_listC, z_mth, z_fld, z_call, z_calp, z_mkf, z_frz, z_nil, z_kCons2, z_kCons, z_kStar2, z_kStar, z_kB, z_cons, z_star, z_b1, z_b2, z_o0, z_o1, z_kSeq, z_kEnu, z_kRng1, z_kRng3, z_kRng2, z_kC, z_seq, z_enu, z_c0, z_c1, z_kAsg, z_kUnp, z_kPar, z_kSto26, z_kSto25, z_kSto24, z_kSto23, z_kSto22, z_sto2, z_kSto3, z_kSto2, z_kSto, z_kAugs3, z_kAugs2, z_kAugs, z_kAug, z_kStf2, z_kStf, z_kExp, z_kRet, z_kIfs, z_kFor, z_kS, z_asg, z_unp, z_par, z_sto, z_augs, z_aug, z_stf, z_exp, z_ret, z_ret0, z_ifs, z_forr, z_whil, z_pas, z_brk, z_con, z_snil, z_scons, z_callU, z_callH, z_callG, z_callX, z_calpU, z_calpH, z_calpG, z_calpX, z_runU, z_run1, z_run2, z_run3, z_run4, z_dat, z_at0, z_at1, z_at2, z_at3, z_at4, z_at5, z_ixT, z_ixL, z_pp, z_add, z_sub, z_mulS, z_mulT, z_mulL, z_lt, z_le, z_gt, z_ge, z_eqI, z_neI, z_eqS, z_isN, z_isnN, z_methH, z_kMeth2, z_kMeth, z_meth, z_recP, z_calmP, z_calmC, z_prpG, z_prpP, z_kProp, z_prop, z_objP, z_kOwn2, z_kOwn, z_kOwnC2, z_kOwnC, z_opc, z_opb, z_own, z_ownP, z_ownC, z_ownT, z_kLenO, z_lenO, z_lenP, z_kIsc, z_isc, z_bindX, z_kRai, z_rai, z_rai0, z_rai1, z_rai2, z_hd, z_hdF, z_hdT, z_nm0, z_rm0, z_rm1, z_ht0, z_ht1, z_ht2, z_ht3, z_try, z_try0, z_tryX, z_kSX, z_clpG, z_clp0, z_calp0, z_kIscT, z_kSpl2, z_kSpl, z_spl, z_kJoi2, z_kJoi, z_joi, z_kMkc, z_mkc, z_mkcG, z_mkcH, z_mkcF, z_kAugf2, z_kAugf, z_augf, z_fns, z_ini, z_gl, z_xf, z_fa, z_pI, z_binC, z_ixC, z_stC, z_lenC, z_lenD, z_max, z_min, z_int, z_lenL, z_lenT, z_ten18, z_ix0, z_ix2, z_line0, z_line1, z_line2, z_line3, z_line4, z_line5, z_line6, z_line7, z_line8, z_q1, z_q2, z_q3, z_q4, z_q5, z_q6, z_q7, z_q8, z_q9, z_q10, z_q11, z_q12, z_q13, z_q14, z_q15, z_sqT, z_sqL, z_sqS, z_as1, z_as2, z_tupL, z_sumT, z_sum, z_w0, z_w1, z_augS, z_augA, z_fnd, z_lenA, z_lenB, z_rcA, z_mtA, z_lcat, z_lset, z_stA, z_ixA, z_ixM, z_i0, z_i1, z_i2, z_i3, z_fdiv2, z_fdiv6, z_fmod6, z_mul6, z_mul2, z_slT, z_slL, z_p1, z_p2, zu_hm, zu_hp1, zu_hp2, v_x_InvalidCourse, v_x_TooHigh, v_MOST_COURSES, v_MOST_KIND, v_NO_HOLES, v_SIDES, v_WIDTHS, beq_self_eq_true, Option.getD_some, Option.getD_none, List.getElem?_cons_zero, List.getElem?_cons_succ, Option.bind_some, Option.bind_none, id_eq, Option.map_some, Option.map_none, purs, noloc, setN, List.set_cons_zero, List.set_cons_succ, List.map_cons, List.map_nil, List.length_cons, List.length_nil, List.cons_append, List.nil_append, List.append_nil, List.replicate_succ, List.replicate_zero, Nat.reduceSub, Nat.reduceAdd, Nat.reduceEqDiff, Nat.reduceBEq, if_true, if_false, ↓reduceIte, Bool.not_true, Bool.not_false, decide_true, decide_false, isNon, dselP, eq_self, Bool.and_self, Bool.and_true, Bool.true_and, Int.cast_ofNat_Int, a1, e2]) v0 (by omega)
    obtain ⟨qh, qt, rfl⟩ : ∃ a b, qs = a :: b := by
      cases qs with
      | nil => simp at q1
      | cons a b => exact ⟨a, b, rfl⟩
    obtain ⟨p, m4, e4, hp4, hm4⟩ := pick_ok hm3 (ps := [.tup (qh :: qt), .tup (qh :: qt), .tup (qh :: qt), .tup (qh :: qt), .lst (qh :: qt), .non, .tup [], .tup (List.replicate 4 (qh :: qt)).flatten]) (by simp) (by simp)
    have em : binP .Mult (.tup (qh :: qt)) (.int 4) = some (.tup (List.replicate 4 (qh :: qt)).flatten) := z_mulT (by omega) (by omega) (by omega)
    have hp : (∃ ps, p = .tup ps ∧ Its ps ∧ 1 ≤ ps.length ∧ ps.length ≤ 4) ∨ (Refd p .non ∧ ((∃ ps, p = .lst ps) ∨ p = .non ∨ p = .tup [] ∨ ∃ ps, p = .tup ps ∧ 3 < ps.length)) := by
      simp only [List.mem_cons, List.not_mem_nil, or_false] at hp4
      rcases hp4 with rfl | rfl | rfl | rfl | rfl | rfl | rfl | rfl
      · exact .inl ⟨_, rfl, hq, q1, q4⟩
      · exact .inl ⟨_, rfl, hq, q1, q4⟩
      · exact .inl ⟨_, rfl, hq, q1, q4⟩
      · exact .inl ⟨_, rfl, hq, q1, q4⟩
      · exact .inr ⟨ref_lst, .inl ⟨_, rfl⟩⟩
      · exact .inr ⟨ref_non, .inr (.inl rfl)⟩
      · exact .inr ⟨ref_nil, .inr (.inr (.inl rfl))⟩
      · have hl : 3 < (List.replicate 4 (qh :: qt)).flatten.length := by simp; omega
        exact .inr ⟨ref_long hl, .inr (.inr (.inr ⟨_, rfl, hl⟩))⟩
    have key2 : ∃ g5 g6 g10 m', exSs G_law tailB { r := [d0, some (.cel 1), some (.pur (.int (t : Int))), some (.pur p), g4, d5, d6, g7, g8, g9, d10], m := m4, l := [] } = .ok .nx { r := [d0, some (.cel 1), some (.pur (.int (t : Int))), some (.pur p), g4, g5, g6, g7, g8, g9, g10], m := m', l := [] } ∧ Dr m' := by
      rcases hp with ⟨ps, rfl, hI, h1, h4⟩ | ⟨hr, hs⟩
      · exact end_tup hm4 hI h1 h4
      · obtain ⟨g5, g6, g10, e⟩ := end_ref (d0 := d0) (d2 := some (.pur (.int (t : Int)))) (d4 := g4) (d5 := d5) (d6 := d6) (d7 := g7) (d8 := g8) (d9 := g9) (d10 := d10) hm4 hr hs
        exact ⟨g5, g6, g10, m4, e, hm4⟩
    obtain ⟨g5, g6, g10, m5, e5, hm5⟩ := key2
    obtain ⟨s', e⟩ := turn_loop (d0 := d0) ts (some (.pur (.int (t : Int)))) (some (.pur p)) g4 g5 g6 g7 g8 g9 g10 m5 hm5
    refine ⟨s', ?_⟩
    have eB : b_law_l1 = .cons (.asg 3 (.call 25 (.cons (.slot 1) (.cons (.cst (.int 3)) .nil)))) (.cons (.forr (.nm 4) (.rng1 (.call 17 (.cons (.slot 1) (.cons (.cst (.int 2)) .nil)))) b_law_l2) (.cons (.asg 3 (.call 18 (.cons (.slot 1) (.cons (.lst (.cons (.slot 3) (.cons (.slot 3) (.cons (.slot 3) (.cons (.slot 3) (.cons (.bif .list (.cons (.slot 3) .nil)) (.cons (.cst .non) (.cons (.tup .nil) (.cons (.bin .Mult (.slot 3) (.cst (.int 4))) .nil))))))))) .nil)))) tailB)) := rfl
    rw [List.map_cons, z_for1]
    conv => lhs; rw [eB]
    generalize (List.replicate 4 (qh :: qt)).flatten = F4 at em e4
    have lt : bifD (s := { r := [d0, some (.cel 1), some (.pur (.int (t : Int))), some (.pur (.tup (qh :: qt))), g4, d5, d6, g7, g8, g9, d10], m := m3, l := [] }) .list [.pur (.tup (qh :: qt))] = some (.lst (qh :: qt)) := rfl
    simp only [g_law_x, g_law__law_alike, g_law__law_are_told, g_law__law_is_course, g_law__law_tried, g_law__law_pick, g_law__law_next, g_law__law_odd, g_law__law_course, g_law__law_courses, g_law__law_mix, g_law_g, g_law_a, z_bind, z_st, z_pS, z_slot, z_cst, z_glb, z_kTup, z_kLst, z_kLstL, z_kLstC, z_kBin2, z_kBin, z_kNeg, z_kCmp2, z_kCmp, z_kChn2, z_kChn, z_kNot, z_kIte, z_kIdx2, z_kIdx, z_kSlc3, z_kSlc2, z_kSlc, z_kSome, z_kRev, z_kDsel2, z_kDsel, z_kIsi, z_kIsT, z_kBif, z_kListC, z_kLrg, z_lrg, z_kMth2, z_kMth, z_kFld, z_kCall, z_kCalp, z_kMkf, z_kLc, z_tup, z_lst, z_lstL, z_lstC, z_bin, z_neg, z_cmp, z_chn, z_bop, z_not, z_ite, z_idx, z_slc, z_rev, z_dsel, z_isi, z_isT, z_bif, z_listC, z_mth, z_fld, z_call, z_calp, z_mkf, z_frz, z_nil, z_kCons2, z_kCons, z_kStar2, z_kStar, z_kB, z_cons, z_star, z_b1, z_b2, z_o0, z_o1, z_kSeq, z_kEnu, z_kRng1, z_kRng3, z_kRng2, z_kC, z_seq, z_enu, z_c0, z_c1, z_kAsg, z_kUnp, z_kPar, z_kSto26, z_kSto25, z_kSto24, z_kSto23, z_kSto22, z_sto2, z_kSto3, z_kSto2, z_kSto, z_kAugs3, z_kAugs2, z_kAugs, z_kAug, z_kStf2, z_kStf, z_kExp, z_kRet, z_kIfs, z_kFor, z_kS, z_asg, z_unp, z_par, z_sto, z_augs, z_aug, z_stf, z_exp, z_ret, z_ret0, z_ifs, z_forr, z_whil, z_pas, z_brk, z_con, z_snil, z_scons, z_callU, z_callH, z_callG, z_callX, z_calpU, z_calpH, z_calpG, z_calpX, z_runU, z_run1, z_run2, z_run3, z_run4, z_dat, z_at0, z_at1, z_at2, z_at3, z_at4, z_at5, z_ixT, z_ixL, z_pp, z_add, z_sub, z_mulS, z_mulT, z_mulL, z_lt, z_le, z_gt, z_ge, z_eqI, z_neI, z_eqS, z_isN, z_isnN, z_methH, z_kMeth2, z_kMeth, z_meth, z_recP, z_calmP, z_calmC, z_prpG, z_prpP, z_kProp, z_prop, z_objP, z_kOwn2, z_kOwn, z_kOwnC2, z_kOwnC, z_opc, z_opb, z_own, z_ownP, z_ownC, z_ownT, z_kLenO, z_lenO, z_lenP, z_kIsc, z_isc, z_bindX, z_kRai, z_rai, z_rai0, z_rai1, z_rai2, z_hd, z_hdF, z_hdT, z_nm0, z_rm0, z_rm1, z_ht0, z_ht1, z_ht2, z_ht3, z_try, z_try0, z_tryX, z_kSX, z_clpG, z_clp0, z_calp0, z_kIscT, z_kSpl2, z_kSpl, z_spl, z_kJoi2, z_kJoi, z_joi, z_kMkc, z_mkc, z_mkcG, z_mkcH, z_mkcF, z_kAugf2, z_kAugf, z_augf, z_fns, z_ini, z_gl, z_xf, z_fa, z_pI, z_binC, z_ixC, z_stC, z_lenC, z_lenD, z_max, z_min, z_int, z_lenL, z_lenT, z_ten18, z_ix0, z_ix2, z_line0, z_line1, z_line2, z_line3, z_line4, z_line5, z_line6, z_line7, z_line8, z_q1, z_q2, z_q3, z_q4, z_q5, z_q6, z_q7, z_q8, z_q9, z_q10, z_q11, z_q12, z_q13, z_q14, z_q15, z_sqT, z_sqL, z_sqS, z_as1, z_as2, z_tupL, z_sumT, z_sum, z_w0, z_w1, z_augS, z_augA, z_fnd, z_lenA, z_lenB, z_rcA, z_mtA, z_lcat, z_lset, z_stA, z_ixA, z_ixM, z_i0, z_i1, z_i2, z_i3, z_fdiv2, z_fdiv6, z_fmod6, z_mul6, z_mul2, z_slT, z_slL, z_p1, z_p2, zu_hm, zu_hp1, zu_hp2, v_x_InvalidCourse, v_x_TooHigh, v_MOST_COURSES, v_MOST_KIND, v_NO_HOLES, v_SIDES, v_WIDTHS, beq_self_eq_true, Option.getD_some, Option.getD_none, List.getElem?_cons_zero, List.getElem?_cons_succ, Option.bind_some, Option.bind_none, id_eq, Option.map_some, Option.map_none, purs, noloc, setN, List.set_cons_zero, List.set_cons_succ, List.map_cons, List.map_nil, List.length_cons, List.length_nil, List.cons_append, List.nil_append, List.append_nil, List.replicate_succ, List.replicate_zero, Nat.reduceSub, Nat.reduceAdd, Nat.reduceEqDiff, Nat.reduceBEq, if_true, if_false, ↓reduceIte, Bool.not_true, Bool.not_false, decide_true, decide_false, isNon, dselP, eq_self, Bool.and_self, Bool.and_true, Bool.true_and, Int.cast_ofNat_Int, e1, i2, e3, e4, em, e5, lt]
    rw [eB] at e
    exact e
theorem law_true : Law F_law := fun ns hl => by
  obtain ⟨m, e1, hm⟩ := mix_ok ns hl 1
  obtain ⟨s', e⟩ := turn_loop (d0 := some (.pur (.sq (ns.map P.int)))) (List.range 6) none none none none none none none none none m hm
  refine ⟨s'.m, ?_⟩
  have i3 : ∀ s : S, evI G_law (.rng1 (.cst (.int 6))) s = .ok ((List.range 6).map fun (i : Nat) => P.int (i : Int)) s := fun s => it_rng1' (n := 6) rfl (by omega) (by omega)
  unfold F_law d_law b_law
  simp only [g_law_x, g_law__law_alike, g_law__law_are_told, g_law__law_is_course, g_law__law_tried, g_law__law_pick, g_law__law_next, g_law__law_odd, g_law__law_course, g_law__law_courses, g_law__law_mix, g_law_g, g_law_a, z_bind, z_st, z_pS, z_slot, z_cst, z_glb, z_kTup, z_kLst, z_kLstL, z_kLstC, z_kBin2, z_kBin, z_kNeg, z_kCmp2, z_kCmp, z_kChn2, z_kChn, z_kNot, z_kIte, z_kIdx2, z_kIdx, z_kSlc3, z_kSlc2, z_kSlc, z_kSome, z_kRev, z_kDsel2, z_kDsel, z_kIsi, z_kIsT, z_kBif, z_kListC, z_kLrg, z_lrg, z_kMth2, z_kMth, z_kFld, z_kCall, z_kCalp, z_kMkf, z_kLc, z_tup, z_lst, z_lstL, z_lstC, z_bin, z_neg, z_cmp, z_chn, z_bop, z_not, z_ite, z_idx, z_slc, z_rev, z_dsel, z_isi, z_isT, z_bif, z_listC, z_mth, z_fld, z_call, z_calp, z_mkf, z_frz, z_nil, z_kCons2, z_kCons, z_kStar2, z_kStar, z_kB, z_cons, z_star, z_b1, z_b2, z_o0, z_o1, z_kSeq, z_kEnu, z_kRng1, z_kRng3, z_kRng2, z_kC, z_seq, z_enu, z_c0, z_c1, z_kAsg, z_kUnp, z_kPar, z_kSto26, z_kSto25, z_kSto24, z_kSto23, z_kSto22, z_sto2, z_kSto3, z_kSto2, z_kSto, z_kAugs3, z_kAugs2, z_kAugs, z_kAug, z_kStf2, z_kStf, z_kExp, z_kRet, z_kIfs, z_kFor, z_kS, z_asg, z_unp, z_par, z_sto, z_augs, z_aug, z_stf, z_exp, z_ret, z_ret0, z_ifs, z_forr, z_whil, z_pas, z_brk, z_con, z_snil, z_scons, z_callU, z_callH, z_callG, z_callX, z_calpU, z_calpH, z_calpG, z_calpX, z_runU, z_run1, z_run2, z_run3, z_run4, z_dat, z_at0, z_at1, z_at2, z_at3, z_at4, z_at5, z_ixT, z_ixL, z_pp, z_add, z_sub, z_mulS, z_mulT, z_mulL, z_lt, z_le, z_gt, z_ge, z_eqI, z_neI, z_eqS, z_isN, z_isnN, z_methH, z_kMeth2, z_kMeth, z_meth, z_recP, z_calmP, z_calmC, z_prpG, z_prpP, z_kProp, z_prop, z_objP, z_kOwn2, z_kOwn, z_kOwnC2, z_kOwnC, z_opc, z_opb, z_own, z_ownP, z_ownC, z_ownT, z_kLenO, z_lenO, z_lenP, z_kIsc, z_isc, z_bindX, z_kRai, z_rai, z_rai0, z_rai1, z_rai2, z_hd, z_hdF, z_hdT, z_nm0, z_rm0, z_rm1, z_ht0, z_ht1, z_ht2, z_ht3, z_try, z_try0, z_tryX, z_kSX, z_clpG, z_clp0, z_calp0, z_kIscT, z_kSpl2, z_kSpl, z_spl, z_kJoi2, z_kJoi, z_joi, z_kMkc, z_mkc, z_mkcG, z_mkcH, z_mkcF, z_kAugf2, z_kAugf, z_augf, z_fns, z_ini, z_gl, z_xf, z_fa, z_pI, z_binC, z_ixC, z_stC, z_lenC, z_lenD, z_max, z_min, z_int, z_lenL, z_lenT, z_ten18, z_ix0, z_ix2, z_line0, z_line1, z_line2, z_line3, z_line4, z_line5, z_line6, z_line7, z_line8, z_q1, z_q2, z_q3, z_q4, z_q5, z_q6, z_q7, z_q8, z_q9, z_q10, z_q11, z_q12, z_q13, z_q14, z_q15, z_sqT, z_sqL, z_sqS, z_as1, z_as2, z_tupL, z_sumT, z_sum, z_w0, z_w1, z_augS, z_augA, z_fnd, z_lenA, z_lenB, z_rcA, z_mtA, z_lcat, z_lset, z_stA, z_ixA, z_ixM, z_i0, z_i1, z_i2, z_i3, z_fdiv2, z_fdiv6, z_fmod6, z_mul6, z_mul2, z_slT, z_slL, z_p1, z_p2, zu_hm, zu_hp1, zu_hp2, v_x_InvalidCourse, v_x_TooHigh, v_MOST_COURSES, v_MOST_KIND, v_NO_HOLES, v_SIDES, v_WIDTHS, beq_self_eq_true, Option.getD_some, Option.getD_none, List.getElem?_cons_zero, List.getElem?_cons_succ, Option.bind_some, Option.bind_none, id_eq, Option.map_some, Option.map_none, purs, noloc, setN, List.set_cons_zero, List.set_cons_succ, List.map_cons, List.map_nil, List.length_cons, List.length_nil, List.cons_append, List.nil_append, List.append_nil, List.replicate_succ, List.replicate_zero, Nat.reduceSub, Nat.reduceAdd, Nat.reduceEqDiff, Nat.reduceBEq, if_true, if_false, ↓reduceIte, Bool.not_true, Bool.not_false, decide_true, decide_false, isNon, dselP, eq_self, Bool.and_self, Bool.and_true, Bool.true_and, Int.cast_ofNat_Int, e1, i3, e]
end HL
end

open PySem PySem.W PyProof.Rows in
set_option maxRecDepth 100000 in
set_option maxHeartbeats 0 in
theorem PySem.Challenge.cw_heaplevels_k01_heaps_refused_holds : PySem.Challenge.rw_heaplevels_k01_heaps_refused.Holds := by
  w_on; o_law; k_head; (case hw => w_witness2)
  k_fill
  refine Ev.walk_ev (l := PySem.Challenge.rw_heaplevels_k01_heaps_refused) (lev := 18) (x := "_law_script") (Hk := HL.Hk) rfl rfl ⟨rfl, by decide, by decide⟩ (fun w h Y => PySem.W.kIn_of Y) rfl (fun P hP => HL.law_run HL.law_true P hP) ?F
  case F =>
    intro w h KX
    refine' HL.hk_mk ?n_len ?n_sum ?n_all ?n_int ?n_list ?n_tuple ?n_max ?n_min ?n_str ?n_sorted ?n_range ?n_enumerate ?n_isinstance ?n_bool ?n_dict ?v_MOST_COURSES ?v_MOST_KIND ?v_NO_HOLES ?v_SIDES ?v_WIDTHS ?h__law_alike ?h_is_integer ?h_are_integers ?h_are_marks ?h_are_holes ?h_is_one_of ?h_is_course ?h_Heap_init ?h_mirrored_course ?h__law_joined ?h__law_next ?h__law_pick ?h__law_course ?h__law_courses ?h__law_mirror ?h__law_are_told ?h__law_whole ?h__law_is_shut ?h__law_is_course ?h__law_tried ?h__law_odd ?h__law_mix ?h_law ?hx
    (case n_len => k_is)
    (case n_sum => k_is)
    (case n_all => k_is)
    (case n_int => k_is)
    (case n_list => k_is)
    (case n_tuple => k_is)
    (case n_max => k_is)
    (case n_min => k_is)
    (case n_str => k_is)
    (case n_sorted => k_is)
    (case n_range => k_is)
    (case n_enumerate => k_is)
    (case n_isinstance => k_is)
    (case n_bool => k_is)
    (case n_dict => k_is)
    (case v_MOST_COURSES =>
      refine' Ev.hasV_flat ?e ?h
      (case e => k_is)
      (case h => first | rfl | decide +kernel))
    (case v_MOST_KIND =>
      refine' Ev.hasV_flat ?e ?h
      (case e => k_is)
      (case h => first | rfl | decide +kernel))
    (case v_NO_HOLES =>
      refine' Ev.hasV_tup ?e ?l ?h (by decide)
      (case e => k_is)
      (case l => k_is)
      (case h => first | rfl | decide +kernel))
    (case v_SIDES =>
      refine' Ev.hasV_tup ?e ?l ?h (by decide)
      (case e => k_is)
      (case l => k_is)
      (case h => first | rfl | decide +kernel))
    (case v_WIDTHS =>
      refine' Ev.hasV_tup ?e ?l ?h (by decide)
      (case e => k_is)
      (case l => k_is)
      (case h => first | rfl | decide +kernel))
    (case h__law_alike =>
      refine' ⟨_, Ev.hasG_mk HL.bd__law_alike (x := "_law_alike") (qual := "_law_alike") (st := HL.top 21) rfl rfl rfl ?a ?l ?c ?k⟩
      (case a => k_is)
      (case l => k_is)
      (case c => k_is)
      (case k => k_is))
    (case h_is_integer =>
      refine' ⟨_, Ev.hasG_mk HL.bd_is_integer (x := "is_integer") (qual := "is_integer") (st := HL.top 10) rfl rfl rfl ?a ?l ?c ?k⟩
      (case a => k_is)
      (case l => k_is)
      (case c => k_is)
      (case k => k_is))
    (case h_are_integers =>
      refine' ⟨_, Ev.hasG_mk HL.bd_are_integers (x := "are_integers") (qual := "are_integers") (st := HL.top 12) rfl rfl rfl ?a ?l ?c ?k⟩
      (case a => k_is)
      (case l => k_is)
      (case c => k_is)
      (case k => k_is))
    (case h_are_marks =>
      refine' ⟨_, Ev.hasG_mk HL.bd_are_marks (x := "are_marks") (qual := "are_marks") (st := HL.top 14) rfl rfl rfl ?a ?l ?c ?k⟩
      (case a => k_is)
      (case l => k_is)
      (case c => k_is)
      (case k => k_is))
    (case h_are_holes =>
      refine' ⟨_, Ev.hasG_mk HL.bd_are_holes (x := "are_holes") (qual := "are_holes") (st := HL.top 13) rfl rfl rfl ?a ?l ?c ?k⟩
      (case a => k_is)
      (case l => k_is)
      (case c => k_is)
      (case k => k_is))
    (case h_is_one_of =>
      refine' ⟨_, Ev.hasG_mk HL.bd_is_one_of (x := "is_one_of") (qual := "is_one_of") (st := HL.top 11) rfl rfl rfl ?a ?l ?c ?k⟩
      (case a => k_is)
      (case l => k_is)
      (case c => k_is)
      (case k => k_is))
    (case h_is_course =>
      refine' ⟨_, Ev.hasG_mk HL.bd_is_course (x := "is_course") (qual := "is_course") (st := HL.top 15) rfl rfl rfl ?a ?l ?c ?k⟩
      (case a => k_is)
      (case l => k_is)
      (case c => k_is)
      (case k => k_is))
    (case h_Heap_init =>
      refine' ⟨_, _, Ev.hasC_mk HL.bd_Heap_init (y := "__init__") (qual := "Heap.__init__") (st := L2.inClass (HL.top 17) 0) rfl rfl rfl ?aC ?a ?i ?l ?c ?k ?mk ?kc ?pg ?hd ?po ?sa, ?n0, ⟨_, Ev.hasM_mk HL.bd_Heap_mirrored (y := "mirrored") (qual := "Heap.mirrored") (st := L2.inClass (HL.top 17) 2) rfl rfl rfl ?a_0 ?i_0 ?l_0 ?c_0 ?k_0⟩, ⟨_, Ev.hasM_mk HL.bd_Heap___eq__ (y := "__eq__") (qual := "Heap.__eq__") (st := L2.inClass (HL.top 17) 4) rfl rfl rfl ?a_1 ?i_1 ?l_1 ?c_1 ?k_1⟩, ⟨_, Ev.hasM_mk HL.bd_Heap___len__ (y := "__len__") (qual := "Heap.__len__") (st := L2.inClass (HL.top 17) 3) rfl rfl rfl ?a_2 ?i_2 ?l_2 ?c_2 ?k_2⟩, ⟨_, _, Ev.hasP_mk HL.bd_Heap_courses (y := "courses") (qual := "Heap.courses") (st := L2.inClass (HL.top 17) 1) rfl rfl rfl ?a_3 ?g_3 ?t_3 ?r_3 ?l_3 ?c_3 ?k_3⟩, ⟨_, Ev.hasM_mk HL.bd_Heap___add__ (y := "__add__") (qual := "Heap.__add__") (st := L2.inClass (HL.top 17) 5) rfl rfl rfl ?a_4 ?i_4 ?l_4 ?c_4 ?k_4⟩, ⟨?iha, ?ihn, ?iht, ?ihm, ?ime, ?isf, ?int⟩, trivial⟩
      (case aC => k_is)
      (case a => k_is)
      (case i => k_is)
      (case l => k_is)
      (case c => k_is)
      (case k => k_is)
      (case mk => k_is)
      (case kc => k_is)
      (case pg => k_is)
      (case hd => k_is)
      (case po => k_is)
      (case sa => k_is)
      (case n0 => k_is)
      (case a_0 => k_is)
      (case i_0 => k_is)
      (case l_0 => k_is)
      (case c_0 => k_is)
      (case k_0 => k_is)
      (case a_1 => k_is)
      (case i_1 => k_is)
      (case l_1 => k_is)
      (case c_1 => k_is)
      (case k_1 => k_is)
      (case a_2 => k_is)
      (case i_2 => k_is)
      (case l_2 => k_is)
      (case c_2 => k_is)
      (case k_2 => k_is)
      (case a_3 => k_is)
      (case g_3 => k_is)
      (case t_3 => k_is)
      (case r_3 => k_is)
      (case l_3 => k_is)
      (case c_3 => k_is)
      (case k_3 => k_is)
      (case a_4 => k_is)
      (case i_4 => k_is)
      (case l_4 => k_is)
      (case c_4 => k_is)
      (case k_4 => k_is)
      (case iha => k_is)
      (case ihn => k_is)
      (case iht => k_is)
      (case ihm => k_is)
      (case ime => kit_is)
      (case isf => k_is)
      (case int => kit_is))
    (case h_mirrored_course =>
      refine' ⟨_, Ev.hasG_mk HL.bd_mirrored_course (x := "mirrored_course") (qual := "mirrored_course") (st := HL.top 16) rfl rfl rfl ?a ?l ?c ?k⟩
      (case a => k_is)
      (case l => k_is)
      (case c => k_is)
      (case k => k_is))
    (case h__law_joined =>
      refine' ⟨_, Ev.hasG_mk HL.bd__law_joined (x := "_law_joined") (qual := "_law_joined") (st := HL.top 30) rfl rfl rfl ?a ?l ?c ?k⟩
      (case a => k_is)
      (case l => k_is)
      (case c => k_is)
      (case k => k_is))
    (case h__law_next =>
      refine' ⟨_, Ev.hasG_mk HL.bd__law_next (x := "_law_next") (qual := "_law_next") (st := HL.top 20) rfl rfl rfl ?a ?l ?c ?k⟩
      (case a => k_is)
      (case l => k_is)
      (case c => k_is)
      (case k => k_is))
    (case h__law_pick =>
      refine' ⟨_, Ev.hasG_mk HL.bd__law_pick (x := "_law_pick") (qual := "_law_pick") (st := HL.top 22) rfl rfl rfl ?a ?l ?c ?k⟩
      (case a => k_is)
      (case l => k_is)
      (case c => k_is)
      (case k => k_is))
    (case h__law_course =>
      refine' ⟨_, Ev.hasG_mk HL.bd__law_course (x := "_law_course") (qual := "_law_course") (st := HL.top 23) rfl rfl rfl ?a ?l ?c ?k⟩
      (case a => k_is)
      (case l => k_is)
      (case c => k_is)
      (case k => k_is))
    (case h__law_courses =>
      refine' ⟨_, Ev.hasG_mk HL.bd__law_courses (x := "_law_courses") (qual := "_law_courses") (st := HL.top 24) rfl rfl rfl ?a ?l ?c ?k⟩
      (case a => k_is)
      (case l => k_is)
      (case c => k_is)
      (case k => k_is))
    (case h__law_mirror =>
      refine' ⟨_, Ev.hasG_mk HL.bd__law_mirror (x := "_law_mirror") (qual := "_law_mirror") (st := HL.top 29) rfl rfl rfl ?a ?l ?c ?k⟩
      (case a => k_is)
      (case l => k_is)
      (case c => k_is)
      (case k => k_is))
    (case h__law_are_told =>
      refine' ⟨_, Ev.hasG_mk HL.bd__law_are_told (x := "_law_are_told") (qual := "_law_are_told") (st := HL.top 31) rfl rfl rfl ?a ?l ?c ?k⟩
      (case a => k_is)
      (case l => k_is)
      (case c => k_is)
      (case k => k_is))
    (case h__law_whole =>
      refine' ⟨_, Ev.hasG_mk HL.bd__law_whole (x := "_law_whole") (qual := "_law_whole") (st := HL.top 25) rfl rfl rfl ?a ?l ?c ?k⟩
      (case a => k_is)
      (case l => k_is)
      (case c => k_is)
      (case k => k_is))
    (case h__law_is_shut =>
      refine' ⟨_, Ev.hasG_mk HL.bd__law_is_shut (x := "_law_is_shut") (qual := "_law_is_shut") (st := HL.top 26) rfl rfl rfl ?a ?l ?c ?k⟩
      (case a => k_is)
      (case l => k_is)
      (case c => k_is)
      (case k => k_is))
    (case h__law_is_course =>
      refine' ⟨_, Ev.hasG_mk HL.bd__law_is_course (x := "_law_is_course") (qual := "_law_is_course") (st := HL.top 27) rfl rfl rfl ?a ?l ?c ?k⟩
      (case a => k_is)
      (case l => k_is)
      (case c => k_is)
      (case k => k_is))
    (case h__law_tried =>
      refine' ⟨_, Ev.hasG_mk HL.bd__law_tried (x := "_law_tried") (qual := "_law_tried") (st := HL.top 28) rfl rfl rfl ?a ?l ?c ?k⟩
      (case a => k_is)
      (case l => k_is)
      (case c => k_is)
      (case k => k_is))
    (case h__law_odd =>
      refine' ⟨_, Ev.hasG_mk HL.bd__law_odd (x := "_law_odd") (qual := "_law_odd") (st := HL.top 32) rfl rfl rfl ?a ?l ?c ?k⟩
      (case a => k_is)
      (case l => k_is)
      (case c => k_is)
      (case k => k_is))
    (case h__law_mix =>
      refine' ⟨_, Ev.hasG_mk HL.bd__law_mix (x := "_law_mix") (qual := "_law_mix") (st := HL.top 19) rfl rfl rfl ?a ?l ?c ?k⟩
      (case a => k_is)
      (case l => k_is)
      (case c => k_is)
      (case k => k_is))
    (case h_law =>
      refine' ⟨_, Ev.hasG_mk HL.bd_law (x := "law") (qual := "law") (st := HL.top 33) rfl rfl rfl ?a ?l ?c ?k⟩
      (case a => k_is)
      (case l => k_is)
      (case c => k_is)
      (case k => k_is))
    (case hx =>
      refine' ⟨_, _, _, ⟨?ns0, Ev.xck_mk (st := L2.inClass (HL.top 2) 0) HL.bx_InvalidCourse HL.xo_InvalidCourse ?hfile0 ?htop0 ?i10 ?i20 ?i30 ?i40 ?i60 ?i70 ?i90 ?sa0 ?exC0 ?veC0 ?tyC0 ?kC0 ⟨?na0_0, trivial⟩ ?su0 ?op0 ?mr0 ?ki0 ?ga0 ?gg0 ?hd0 ?ha0 ?hn0 ?ht0 ?hm0 ?ii0⟩, ⟨?ns1, Ev.xck_mk (st := L2.inClass (HL.top 3) 0) HL.bx_TooHigh HL.xo_TooHigh ?hfile1 ?htop1 ?i11 ?i21 ?i31 ?i41 ?i61 ?i71 ?i91 ?sa1 ?exC1 ?veC1 ?tyC1 ?kC1 trivial ?su1 ?op1 ?mr1 ?ki1 ?ga1 ?gg1 ?hd1 ?ha1 ?hn1 ?ht1 ?hm1 ?ii1⟩, ?xs0_0, ?xs0_1, ?xs1_0, ?xs1_1, Ev.ns_id ?xn0, ?xb0_0, ?xb0_1, trivial⟩
      (case ns0 => k_is)
      (case ns1 => k_is)
      (case xn0 => k_is)
      (case i10 => k_is)
      (case i20 => k_is)
      (case i30 => k_is)
      (case i40 => k_is)
      (case i60 => k_is)
      (case i70 => rfl)
      (case i90 => k_is)
      (case hfile0 => first | rfl | decide +kernel)
      (case htop0 => first | rfl | decide +kernel)
      (case sa0 => k_is)
      (case exC0 => k_is)
      (case veC0 => k_is)
      (case tyC0 => k_is)
      (case kC0 => k_is)
      (case na0_0 => k_is)
      (case su0 => k_is)
      (case op0 => k_is)
      (case mr0 => k_is)
      (case ki0 => ks_is)
      (case ga0 => k_is)
      (case gg0 => k_is)
      (case hd0 => k_is)
      (case ha0 => k_is)
      (case hn0 => k_is)
      (case ht0 => k_is)
      (case hm0 => k_is)
      (case ii0 => kx_is)
      (case i11 => k_is)
      (case i21 => k_is)
      (case i31 => k_is)
      (case i41 => k_is)
      (case i61 => k_is)
      (case i71 => rfl)
      (case i91 => k_is)
      (case hfile1 => first | rfl | decide +kernel)
      (case htop1 => first | rfl | decide +kernel)
      (case sa1 => k_is)
      (case exC1 => k_is)
      (case veC1 => k_is)
      (case tyC1 => k_is)
      (case kC1 => k_is)
      (case su1 => k_is)
      (case op1 => k_is)
      (case mr1 => k_is)
      (case ki1 => ks_is)
      (case ga1 => k_is)
      (case gg1 => k_is)
      (case hd1 => k_is)
      (case ha1 => k_is)
      (case hn1 => k_is)
      (case ht1 => k_is)
      (case hm1 => k_is)
      (case ii1 => kx_is)
      (case xs0_0 => k_is)
      (case xs0_1 => k_is)
      (case xs1_0 => k_is)
      (case xs1_1 => k_is)
      (case xb0_0 => kit_is)
      (case xb0_1 => kit_is))
#print axioms PySem.Challenge.cw_heaplevels_k01_heaps_refused_holds
