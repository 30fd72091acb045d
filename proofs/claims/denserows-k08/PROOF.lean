import PyProof.Rows.All
import Wide.All
import OpenK.AllK
import Wide.FinOn
import HandS.ForMost
import HandS.ForExc
import HandS.TryMany
import HandS.IsInst
import HandS.Lambda
import HandS.Nested
import HandS.ExcInit
import HandS.ExcField
import HandS.Flow
import HandS.Dict
import HandS.More
import HandS.Iter
import HandS.Walk
import HandS.TupAny
import HandS.Star
import HandS.Conv
import HandS.ListItems
import HandS.SortInts
import HandS.RaiseMore
import PyProof.Rows.StrMeet
import KE.GoesMore
import HandS.Zip
import HandS.HeadHook4
import HandS.HeadWalk
import HandS.Head2
import HandS.HeadEnd
import PySem.Challenge.RW_denserows_k08_machine_refused
set_option Elab.async false
set_option linter.all false
set_option maxRecDepth 100000
set_option maxHeartbeats 4000000
/-! Part A: a small evaluator for the Python that the laws use, over plain values. -/
namespace Dz
open PySem

/-- keys of dicts -/
inductive MKey where
  | non | bl (b : Bool) | int (i : Int) | str (x : List Nat) | tup (ks : List MKey)

/-- plain values: lists and dicts here never change; what changes is a ref -/
inductive MV where
  | non | bl (b : Bool) | int (i : Int) | str (x : List Nat)
  | tup (xs : List MV) | lst (xs : List MV) | dic (ks : List MKey) (vs : List MV) | wdi (ks : List MKey) (vs : List MV)
  | fn (i : Nat) | clo (j : Nat) (cs : List Nat) | ref (i : Nat)
  | exc (c : Nat) (fs : List MV)

/-- what stands behind a ref -/
inductive MO where
  | lst (xs : List MV) | dic (ks : List MKey) (vs : List MV) | dead

structure MSt where
  refs : List MO
  cells : List (Option MV)

inductive Res (α : Type) where
  | ok (a : α) (s : MSt) | exc (c : Nat) (fs : List MV) (s : MSt) | bad

@[inline] def Res.bind {α β : Type} (r : Res α) (f : α → MSt → Res β) : Res β :=
  match r with
  | .ok a s => f a s
  | .exc c fs s => .exc c fs s
  | .bad => .bad

/-- built-in functions, methods -/
inductive Blt where
  | len | abs | int | list | tuple | str | min2 | max2 | sum | minL | maxL | dict | sorted | any | all
inductive Mth where
  | append | extend | pop0 | popAt | join | index | items | get1 | get2 | startswith

/-- the program's expressions, with what the text says beside -/
inductive ME where
  | cst (v : MV) (c : Const) (j : Nat) (p : Pos)
  | var (i : Nat) (x : Str) (p : Pos)
  | gfn (i : Nat) (x : Str) (p : Pos)
  | gct (g : Nat) (x : Str) (p : Pos)
  | bin (a : ME) (op : Operator) (b : ME) (p : Pos)
  | neg (a : ME) (p : Pos)
  | notE (a : ME) (p : Pos)
  | andE (as : List ME) (p : Pos)
  | orE (as : List ME) (p : Pos)
  | cmp (a : ME) (op : CmpOp) (b : ME) (p : Pos)
  | chn (a : ME) (op : CmpOp) (b : ME) (op2 : CmpOp) (c : ME) (p : Pos)
  | isN (a : ME) (ng : Bool) (j : Nat) (p1 p : Pos)
  | tyS (a : ME) (ng : Bool) (p1 p2 p3 p : Pos)
  | isi (a : ME) (ts : List (Nat × Str × Pos)) (one : Bool) (k : Nat) (p1 p2 p : Pos)
  | ife (t a b : ME) (p : Pos)
  | tup (es : List ME) (k : Nat) (p : Pos)
  | lst (fl : Bool) (es : List ME) (p : Pos)
  | star (e : ME) (p : Pos)
  | dic (fl : Bool) (ks vs : List ME) (p : Pos)
  | sub (a i : ME) (p : Pos)
  | slc (fl : Bool) (a : ME) (lo hi : Option ME) (p1 p : Pos)
  | call (f : Nat) (x : Str) (as : List ME) (p1 p : Pos)
  | callk (f : Nat) (x : Str) (as : List ME) (ks : List (Str × Pos)) (vs : List ME) (order : List Nat) (p1 p : Pos)
  | blt (fl : Bool) (b : Blt) (x : Str) (as : List ME) (p1 p : Pos)
  | mth (fl : Bool) (b : Mth) (o : ME) (m : Str) (as : List ME) (p1 p : Pos)
  | cal (i : Nat) (x : Str) (as : List ME) (p1 p : Pos)
  | lam (j : Nat) (args : Arguments) (body : ME) (sc : Scope) (p : Pos)
  | lcm (fl : Bool) (elt tg src : ME) (ifs : List ME) (sc : Scope) (cell : Option Nat × List Nat) (p : Pos)
  | allC (elt tg src : ME) (ifs : List ME) (sc : Scope) (cell : Option Nat × List Nat) (p p1 p2 : Pos)
  | itm (fl : Bool) (d : ME) (p1 p2 p3 p : Pos)
  | zip (a b : ME) (p1 p : Pos)
  | enm (a : ME) (p1 p : Pos)
  | rng (as : List ME) (p1 p : Pos)
  | xfl (i : Nat) (x f : Str) (k : Nat) (p1 p : Pos)
  | nev (e : Expr)

def nm (x : Str) (p : Pos) : Expr := .Name x p
def zipPos : List (Nat × Str × Pos) → List Expr
  | [] => []
  | (_, x, p) :: r => .Name x p :: zipPos r
def kwsOf : List (Str × Pos) → List Expr → List Keyword
  | (x, p) :: r, e :: es => ⟨some x, e, p⟩ :: kwsOf r es
  | _, _ => []
mutual
/-- the text -/
def un : ME → Expr
  | .cst _ c j p => .Constant c j p
  | .var _ x p => .Name x p
  | .gfn _ x p => .Name x p
  | .gct _ x p => .Name x p
  | .bin a op b p => .BinOp (un a) op (un b) p
  | .neg a p => .UnaryOp .USub (un a) p
  | .notE a p => .UnaryOp .Not (un a) p
  | .andE as p => .BoolOp .And (unL as) p
  | .orE as p => .BoolOp .Or (unL as) p
  | .cmp a op b p => .Compare (un a) [op] [un b] p
  | .chn a op b op2 c p => .Compare (un a) [op, op2] [un b, un c] p
  | .isN a ng j p1 p => .Compare (un a) [if ng then .IsNot else .Is] [.Constant .none j p1] p
  | .tyS a ng p1 p2 p3 p => .Compare (.Call (.Name "type" p1) [un a] [] p2) [if ng then .IsNot else .Is] [.Name "str" p3] p
  | .isi a ts one k p1 p2 p => .Call (.Name "isinstance" p1) [un a, match one, ts with
      | true, (_, x, q) :: _ => .Name x q
      | _, ts => .Tuple (zipPos ts) k p2] [] p
  | .ife t a b p => .IfExp (un t) (un a) (un b) p
  | .tup es k p => .Tuple (unL es) k p
  | .lst _ es p => .List (unL es) p
  | .star e p => .Starred (un e) p
  | .dic _ ks vs p => .Dict (unS ks) (unL vs) p
  | .sub a i p => .Subscript (un a) (un i) p
  | .slc _ a lo hi p1 p => .Subscript (un a) (.Slice (unO lo) (unO hi) none p1) p
  | .call _ x as p1 p => .Call (.Name x p1) (unL as) [] p
  | .callk _ x as ks vs _ p1 p => .Call (.Name x p1) (unL as) (kwsOf ks (unL vs)) p
  | .blt _ _ x as p1 p => .Call (.Name x p1) (unL as) [] p
  | .mth _ _ o m as p1 p => .Call (.Attribute (un o) m p1) (unL as) [] p
  | .cal _ x as p1 p => .Call (.Name x p1) (unL as) [] p
  | .lam _ args body sc p => .Lambda args (un body) sc p
  | .lcm _ elt tg src ifs sc _ p => .ListComp (un elt) [⟨un tg, un src, unL ifs, 0⟩] sc p
  | .allC elt tg src ifs sc _ p p1 p2 => .Call (.Name "all" p1) [.ListComp (un elt) [⟨un tg, un src, unL ifs, 0⟩] sc p] [] p2
  | .itm _ d p1 p2 p3 p => .Call (.Name "list" p1) [.Call (.Attribute (un d) "items" p2) [] [] p3] [] p
  | .zip a b p1 p => .Call (.Name "zip" p1) [un a, un b] [] p
  | .enm a p1 p => .Call (.Name "enumerate" p1) [un a] [] p
  | .rng as p1 p => .Call (.Name "range" p1) (unL as) [] p
  | .xfl _ x f _ p1 p => .Attribute (.Name x p1) f p
  | .nev e => e
def unL : List ME → List Expr
  | [] => []
  | e :: r => un e :: unL r
def unS : List ME → List (Option Expr)
  | [] => []
  | e :: r => some (un e) :: unS r
def unO : Option ME → Option Expr
  | none => none
  | some e => some (un e)
end

/-- statements -/
inductive MS where
  | asg (tg : ME) (e : ME) (p : Pos)
  | asS (o i e : ME) (p1 p : Pos)
  | exp (e : ME) (p : Pos)
  | ret (e : ME) (p : Pos)
  | retN (p : Pos)
  | iff (t : ME) (a b : List MS) (p : Pos)
  | for (tg src : ME) (b : List MS) (p : Pos)
  | whl (t : ME) (b : List MS) (p : Pos)
  | brk (p : Pos) | con (p : Pos) | pas (p : Pos)
  | rai (c : Nat) (x : Str) (as : List ME) (p1 p2 p : Pos)
  | try1 (b : List MS) (hs : List (Nat × Str × Pos × Option Str × ME × Pos × Pos)) (p : Pos)
  | nev (s : Stmt)
def hdOf : Nat × Str × Pos × Option Str × ME × Pos × Pos → ExceptHandler
  | (_, x, p1, n, e, p2, p3) => .ExceptHandler (some (.Name x p1)) n [.Return (some (un e)) p2] p3
mutual
def unM : MS → Stmt
  | .asg tg e p => .Assign [un tg] (un e) p
  | .asS o i e p1 p => .Assign [.Subscript (un o) (un i) p1] (un e) p
  | .exp e p => .Expr (un e) p
  | .ret e p => .Return (some (un e)) p
  | .retN p => .Return none p
  | .iff t a b p => .If (un t) (unB a) (unB b) p
  | .for tg src b p => .For (un tg) (un src) (unB b) [] p
  | .whl t b p => .While (un t) (unB b) [] p
  | .brk p => .Break p
  | .con p => .Continue p
  | .pas p => .Pass p
  | .rai _ x as p1 p2 p => .Raise (some (.Call (.Name x p1) (unL as) [] p2)) none p
  | .try1 b hs p => .Try (unB b) (hs.map hdOf) [] [] p
  | .nev s => s
def unB : List MS → List Stmt
  | [] => []
  | s :: r => unM s :: unB r
end
/-- a statement within a statement -/
def subS (s : Stmt) (w j : Nat) : Stmt := match s with
  | .If _ a b _ => (if w = 0 then a else b).getD j (.Pass ⟨0, 0, 0, 0⟩)
  | .For _ _ a b _ => (if w = 0 then a else b).getD j (.Pass ⟨0, 0, 0, 0⟩)
  | .While _ a b _ => (if w = 0 then a else b).getD j (.Pass ⟨0, 0, 0, 0⟩)
  | s => s
end Dz

set_option maxRecDepth 100000
set_option maxHeartbeats 4000000
namespace Dz
open PySem

/-! ## plain values -/
mutual
def MKey.beq : MKey → MKey → Bool
  | .non, .non => true
  | .bl a, .bl b => a == b
  | .bl a, .int b => (if a then 1 else 0) == b
  | .int a, .bl b => a == (if b then 1 else 0)
  | .int a, .int b => a == b
  | .str a, .str b => a == b
  | .tup a, .tup b => MKey.beqL a b
  | _, _ => false
def MKey.beqL : List MKey → List MKey → Bool
  | [], [] => true
  | a :: r, b :: q => MKey.beq a b && MKey.beqL r q
  | _, _ => false
end
mutual
/-- == of plain data -/
def eqB : MV → MV → Bool
  | .non, .non => true
  | .bl a, .bl b => a == b
  | .bl a, .int b => (if a then 1 else 0) == b
  | .int a, .bl b => a == (if b then 1 else 0)
  | .int a, .int b => a == b
  | .str a, .str b => a == b
  | .tup a, .tup b => eqBs a b
  | .lst a, .lst b => eqBs a b
  | _, _ => false
def eqBs : List MV → List MV → Bool
  | [], [] => true
  | a :: r, b :: q => eqB a b && eqBs r q
  | _, _ => false
end
mutual
/-- data to a depth -/
def plainM : Nat → MV → Bool
  | 0, _ => false
  | _ + 1, .non => true
  | _ + 1, .bl _ => true
  | _ + 1, .int _ => true
  | _ + 1, .str x => x.all (· < 1114112)
  | k + 1, .tup xs => plainMs k xs
  | k + 1, .lst xs => plainMs k xs
  | _ + 1, _ => false
def plainMs : Nat → List MV → Bool
  | _, [] => true
  | k, x :: r => plainM k x && plainMs k r
end
def flatM : MV → Bool
  | .non => true | .bl _ => true | .int _ => true | .str _ => true | _ => false
/-- scalars that are compared at once -/
def scalM : MV → MV → Bool
  | .bl _, .int _ => false
  | .int _, .bl _ => false
  | a, b => flatM a && flatM b
def isInt : MV → Bool
  | .int _ => true
  | _ => false
mutual
/-- no ref in it -/
def noref : MV → Bool
  | .ref _ => false
  | .clo _ _ => false
  | .tup xs => norefL xs
  | .lst xs => norefL xs
  | .dic _ vs => norefL vs
  | .exc _ _ => false
  | _ => true
def norefL : List MV → Bool
  | [] => true
  | x :: r => noref x && norefL r
end
def SZ : Nat := 16777216
def P64 : Int := 18446744073709551616
def keyOf : MV → Option MKey
  | .int i => some (.int i)
  | .str x => some (.str x)
  | _ => none
def ofKey : MKey → MV
  | .non => .non
  | .bl b => .bl b
  | .int i => .int i
  | .str x => .str x
  | .tup _ => .non
def lookK (k : MKey) : List MKey → List MV → Option MV
  | a :: r, v :: q => if MKey.beq a k then some v else lookK k r q
  | _, _ => none

/-! ## the program -/
structure FDef where
  np : Nat
  nsl : Nat
  cels : List Nat
  body : List MS
  esc : Bool
  lam : Bool
structure LDef where
  np : Nat
  nsl : Nat
  caps : List (Nat × Nat)
  body : ME
structure Prg where
  fns : List FDef
  lams : List LDef
  consts : List MV
  ncls : Nat

structure MEnv where
  loc : List (Option MV)
  cel : List (Option Nat)
  r0 : Nat

inductive Fl where
  | nxt | ret (v : MV) | brk | con

structure Ev where
  e : MEnv → ME → MSt → Res MV
  t : MEnv → ME → MSt → Res Bool
  s : MEnv → List MS → MSt → Res (Fl × MEnv)
  f : Nat → List MV → MSt → Res MV
  c : MV → List MV → MSt → Res MV

def getV (env : MEnv) (i : Nat) (s : MSt) : Option MV :=
  match env.cel[i]? with
  | some (some id) => (s.cells[id]?).join
  | _ => (env.loc[i]?).join
def viewL (s : MSt) : MV → Option (List MV)
  | .lst xs => some xs
  | .ref i => match s.refs[i]? with
    | some (.lst xs) => some xs
    | _ => none
  | _ => none
def viewQ (s : MSt) : MV → Option (List MV)
  | .tup xs => some xs
  | v => viewL s v
def viewD (s : MSt) : MV → Option (List MKey × List MV)
  | .dic ks vs => some (ks, vs)
  | .ref i => match s.refs[i]? with
    | some (.dic ks vs) => some (ks, vs)
    | _ => none
  | _ => none
def newRef (o : MO) (s : MSt) : Res MV := .ok (.ref s.refs.length) { s with refs := s.refs ++ [o] }
def newL (fl : Bool) (xs : List MV) (s : MSt) : Res MV := if fl then newRef (.lst xs) s else .ok (.lst xs) s
def truM (s : MSt) : MV → Option Bool
  | .non => some false
  | .bl b => some b
  | .int i => some (i != 0)
  | .str x => if x.length ≤ SZ then some (!x.isEmpty) else none
  | v => match viewQ s v with
    | some xs => some (!xs.isEmpty)
    | none => match viewD s v with
      | some (ks, _) => some (!ks.isEmpty)
      | none => none
def binV (op : Operator) (x y : MV) (s : MSt) : Res MV :=
  match op, x, y with
  | .Add, .int i, .int j => .ok (.int (i + j)) s
  | .Sub, .int i, .int j => .ok (.int (i - j)) s
  | .Mult, .int i, .int j => if (-P64 < i ∧ i < P64) ∨ (-P64 < j ∧ j < P64) then .ok (.int (i * j)) s else .bad
  | .FloorDiv, .int i, .int j => if j ≠ 0 ∧ j.natAbs < 1073741824 then .ok (.int (i.fdiv j)) s else .bad
  | .Mod, .int i, .int j => if j ≠ 0 then .ok (.int (i.fmod j)) s else .bad
  | .Pow, .int i, .int j => if 0 ≤ j ∧ j ≤ 1000000 ∧ i.natAbs < 18446744073709551616 then .ok (.int (i ^ j.toNat)) s else .bad
  | .Add, .str i, .str j => if i.length + j.length ≤ SZ then .ok (.str (i ++ j)) s else .bad
  | .Add, .tup i, .tup j => if i.length + j.length ≤ SZ then .ok (.tup (i ++ j)) s else .bad
  | .Add, a, b => match viewL s a, viewL s b with
    | some xs, some ys => if xs.length + ys.length ≤ SZ then .ok (.lst (xs ++ ys)) s else .bad
    | _, _ => .bad
  | .Mult, a, .int j => match viewL s a with
    | some xs => if -(2 ^ 63) ≤ j ∧ j < 2 ^ 63 ∧ xs.length * j.toNat ≤ SZ then .ok (.lst (List.replicate j.toNat xs).flatten) s else .bad
    | none => .bad
  | _, _, _ => .bad
def inS (c : Nat) (z : List Nat) : Bool := z.any (· == c)
def inQ (x : MV) (xs : List MV) : Option Bool :=
  if flatM x && xs.all flatM then some (xs.any fun y => eqB y x) else none
def eqM (s : MSt) (a b : MV) : Option Bool :=
  if scalM a b then some (eqB a b) else match viewL s a, viewL s b with
    | some xs, some ys => if plainMs 50 xs && plainMs 50 ys then some (eqBs xs ys) else none
    | _, _ => if plainM 50 a && plainM 50 b then some (eqB a b) else none
def cmpV (op : CmpOp) (x y : MV) (s : MSt) : Option Bool :=
  match op, x, y with
  | .Lt, .int i, .int j => some (decide (i < j))
  | .LtE, .int i, .int j => some (decide (i ≤ j))
  | .Gt, .int i, .int j => some (decide (j < i))
  | .GtE, .int i, .int j => some (decide (j ≤ i))
  | .Eq, a, b => eqM s a b
  | .NotEq, a, b => (eqM s a b).map (!·)
  | .In, .str [c], .str z => some (inS c z)
  | .NotIn, .str [c], .str z => some (!inS c z)
  | .In, .str z, .wdi ks vs => some (lookK (.str z) ks vs).isSome
  | .NotIn, .str z, .wdi ks vs => some (!(lookK (.str z) ks vs).isSome)
  | .In, a, b => match viewQ s b with
    | some xs => inQ a xs
    | none => match viewD s b, keyOf a with
      | some (ks, _), some k => some (ks.any (MKey.beq · k))
      | _, _ => none
  | .NotIn, a, b => match viewQ s b with
    | some xs => (inQ a xs).map (!·)
    | none => match viewD s b, keyOf a with
      | some (ks, _), some k => some (!ks.any (MKey.beq · k))
      | _, _ => none
  | _, _, _ => none
/-- isinstance by the class's number -/
def tyNm (x : Str) : Nat := if x = "int" then 1 else if x = "str" then 2 else if x = "bool" then 3 else if x = "list" then 4 else if x = "tuple" then 5 else if x = "dict" then 6 else 0
def isiV (s : MSt) (v : MV) (t : Nat) : Option Bool :=
  match v with
  | .non => some false
  | .bl _ => some (t == 1 || t == 3)
  | .int _ => some (t == 1)
  | .str _ => some (t == 2)
  | .tup _ => some (t == 5)
  | .lst _ => some (t == 4)
  | .dic _ _ => some (t == 6)
  | .ref i => match s.refs[i]? with
    | some (.lst _) => some (t == 4)
    | some (.dic _ _) => some (t == 6)
    | _ => none
  | _ => none
def isiVs (s : MSt) (v : MV) : List (Nat × Str × Pos) → Option Bool
  | [] => some false
  | (t, _, _) :: r => match isiV s v t, isiVs s v r with
    | some a, some b => some (a || b)
    | _, _ => none
def subV (a i : MV) (s : MSt) : Option MV :=
  match a, i with
  | .wdi ks vs, .str z => lookK (.str z) ks vs
  | .str x, .int k => if x.length ≤ SZ then (L2.atI x k).map fun c => .str [c] else none
  | a, i => match viewQ s a with
    | some xs => match i with
      | .int k => L2.atI xs k
      | _ => none
    | none => match viewD s a, keyOf i with
      | some (ks, vs), some k => lookK k ks vs
      | _, _ => none
/-- the cut of a slice -/
def cutM {α : Type} (xs : List α) (lo hi : Option Int) : List α := (xs.drop (HT.sIx xs.length 0 lo)).take (HT.sIx xs.length xs.length hi - HT.sIx xs.length 0 lo)
def slcV (fl : Bool) (a : MV) (lo hi : Option Int) (s : MSt) : Res MV :=
  match a with
  | .str x => if x.length ≤ SZ then .ok (.str (cutM x lo hi)) s else .bad
  | .tup xs => if ¬ (HT.sIx xs.length 0 lo = 0 ∧ HT.sIx xs.length xs.length hi = xs.length) then .ok (.tup (cutM xs lo hi)) s else .bad
  | a => match viewL s a with
    | some xs => newL fl (cutM xs lo hi) s
    | none => .bad
def setRef (i : Nat) (o : MO) (s : MSt) : MSt := { s with refs := s.refs.set i o }
/-- a value may be laid into a ref: what must not live on is seen where a frame ends -/
def mayPut (env : MEnv) (i : Nat) (v : MV) : Bool := true
end Dz
namespace Dz
open PySem
/-! ## one step more -/
/-- what is walked -/
inductive Src where
  | live (v : MV) | enm (v : MV) | zip (a b : MV) | rng (lo : Int) (n : Nat) | stat (xs : List MV)
def seqAt (s : MSt) (v : MV) (i : Nat) : Option (Option MV) :=
  match v with
  | .str x => some ((x[i]?).map fun c => .str [c])
  | v => (viewQ s v).map fun xs => xs[i]?
def seqV (s : MSt) (v : MV) : Option (List MV) :=
  match v with
  | .str x => some (x.map fun c => .str [c])
  | v => viewQ s v
/-- none: it is not said; some none: it stops -/
def Src.next (s : MSt) (i : Nat) : Src → Option (Option MV)
  | .live v => seqAt s v i
  | .enm v => (viewL s v).map fun xs => (xs[i]?).map fun x => .tup [.int i, x]
  | .zip a b => match seqV s a, seqV s b with
    | some xs, some ys => match xs[i]?, ys[i]? with
      | some x, some y => some (some (.tup [x, y]))
      | _, _ => if i ≤ xs.length ∧ i ≤ ys.length then some none else none
    | _, _ => none
  | .rng lo n => some (if i < n then some (.int (lo + i)) else none)
  | .stat xs => some xs[i]?
def listE (f : ME → MSt → Res MV) : List ME → MSt → Res (List MV)
  | [], s => .ok [] s
  | .star e _ :: r, s => (f e s).bind fun v s => match viewQ s v with
    | some xs => (listE f r s).bind fun ys s => .ok (xs ++ ys) s
    | none => .bad
  | e :: r, s => (f e s).bind fun x s => (listE f r s).bind fun ys s => .ok (x :: ys) s
def andV (f : ME → MSt → Res MV) : List ME → MSt → Res MV
  | [], _ => .bad
  | [e], s => f e s
  | e :: r, s => (f e s).bind fun x s => match x with
    | .bl true => andV f r s
    | .bl false => .ok (.bl false) s
    | _ => .bad
def orV (f : ME → MSt → Res MV) : List ME → MSt → Res MV
  | [], _ => .bad
  | [e], s => f e s
  | e :: r, s => (f e s).bind fun x s => match x with
    | .bl true => .ok (.bl true) s
    | .bl false => orV f r s
    | _ => .bad
def andT (f : ME → MSt → Res Bool) : List ME → MSt → Res Bool
  | [], _ => .bad
  | [e], s => f e s
  | e :: r, s => (f e s).bind fun x s => if x then andT f r s else .ok false s
def orT (f : ME → MSt → Res Bool) : List ME → MSt → Res Bool
  | [], _ => .bad
  | [e], s => f e s
  | e :: r, s => (f e s).bind fun x s => if x then .ok true s else orT f r s
def testsT (f : ME → MSt → Res Bool) : List ME → MSt → Res Bool
  | [], s => .ok true s
  | [e], s => f e s
  | _, _ => .bad
def optE (f : ME → MSt → Res MV) : Option ME → MSt → Res (Option Int)
  | none, s => .ok none s
  | some e, s => (f e s).bind fun v s => match v with
    | .int i => .ok (some i) s
    | _ => .bad
def opt {α : Type} (o : Option α) (s : MSt) : Res α := match o with
  | some a => .ok a s
  | none => .bad
def setV (env : MEnv) (i : Nat) (v : MV) (s : MSt) : Option (MEnv × MSt) :=
  match env.cel[i]? with
  | some (some id) => some (env, { s with cells := s.cells.set id (some v) })
  | _ => some ({ env with loc := env.loc.set i (some v) }, s)
mutual
/-- a target takes a value -/
def asgV : ME → MV → MEnv → MSt → Option (MEnv × MSt)
  | .var i _ _, v, env, s => setV env i v s
  | .tup es _ _, v, env, s => match v with
    | .tup xs => asgVs es xs env s
    | _ => none
  | _, _, _, _ => none
def asgVs : List ME → List MV → MEnv → MSt → Option (MEnv × MSt)
  | [], [], env, s => some (env, s)
  | e :: r, x :: q, env, s => match asgV e x env s with
    | some (env, s) => asgVs r q env s
    | none => none
  | _, _, _, _ => none
end
def maxL : List MV → Option Int
  | [.int a] => some a
  | .int a :: r => (maxL r).map fun b => if b > a then b else a
  | _ => none
def lenV (v : MV) (s : MSt) : Res MV :=
  match v with
  | .str x => if x.length ≤ SZ then .ok (.int x.length) s else .bad
  | v => match viewQ s v with
    | some ys => .ok (.int ys.length) s
    | none => match viewD s v with
      | some (ks, _) => .ok (.int ks.length) s
      | none => .bad
def listV (fl : Bool) (v : MV) (s : MSt) : Res MV :=
  match viewQ s v with
  | some ys => newL fl ys s
  | none => match viewD s v with
    | some (ks, _) => newL fl (ks.map ofKey) s
    | none => .bad
def tupleV (v : MV) (s : MSt) : Res MV :=
  match v with
  | .tup ys => .ok (.tup ys) s
  | v => match viewL s v with
    | some ys => .ok (.tup ys) s
    | none => .bad
def on1 (f : MV → MSt → Res MV) (xs : List MV) (s : MSt) : Res MV := match xs with
  | [v] => f v s
  | _ => .bad
def onI (f : Int → Int) (v : MV) (s : MSt) : Res MV := match v with
  | .int i => .ok (.int (f i)) s
  | _ => .bad
def onII (f : Int → Int → Int) (xs : List MV) (s : MSt) : Res MV := match xs with
  | [.int i, .int j] => .ok (.int (f i j)) s
  | _ => .bad
def intsOf : List MV → Option (List Int)
  | [] => some []
  | .int i :: r => (intsOf r).map (i :: ·)
  | _ => none
def strsOf : List MV → Option (List (List Nat))
  | [] => some []
  | .str z :: r => (strsOf r).map (z :: ·)
  | _ => none
def boolsOf : List MV → Option (List Bool)
  | [] => some []
  | .bl b :: r => (boolsOf r).map (b :: ·)
  | _ => none
/-- sorted, by putting in -/
def insB {α : Type} (le : α → α → Bool) (a : α) : List α → List α
  | [] => [a]
  | b :: r => if le a b then a :: b :: r else b :: insB le a r
def sortB {α : Type} (le : α → α → Bool) : List α → List α
  | [] => []
  | a :: r => insB le a (sortB le r)
def leI (a b : Int) : Bool := decide (a ≤ b)
def leS (a b : List Nat) : Bool := !PySem.Spec.ltCps b a
def sortL (fl : Bool) (xs : List MV) (s : MSt) : Res MV :=
  match intsOf xs with
  | some ns => newL fl ((sortB leI ns).map .int) s
  | none => match strsOf xs with
    | some zs => if zs.length < 64 then newL fl ((sortB leS zs).map .str) s else .bad
    | none => .bad
def sortV (fl : Bool) (v : MV) (s : MSt) : Res MV :=
  match viewL s v with
  | some xs => sortL fl xs s
  | none => match viewD s v with
    | some (ks, _) => if ks.length < 64 then sortL fl (ks.map ofKey) s else .bad
    | none => .bad
def sumV (v : MV) (s : MSt) : Res MV :=
  match (viewL s v).bind intsOf with
  | some ns => .ok (.int ns.sum) s
  | none => .bad
def anyV (v : MV) (s : MSt) : Res MV :=
  match (viewL s v).bind boolsOf with
  | some bs => .ok (.bl (bs.any id)) s
  | none => .bad
def allV (v : MV) (s : MSt) : Res MV :=
  match (viewL s v).bind boolsOf with
  | some bs => .ok (.bl (bs.all id)) s
  | none => .bad
/-- a dict that is made -/
def newD (fl : Bool) (ks : List MKey) (vs : List MV) (s : MSt) : Res MV := if fl then newRef (.dic ks vs) s else .ok (.dic ks vs) s
def setK (k : MKey) (v : MV) : List MKey → List MV → List MV
  | a :: r, b :: q => (if MKey.beq a k then v else b) :: setK k v r q
  | _, _ => []
def putKV (k : MKey) (v : MV) (ks : List MKey) (vs : List MV) : List MKey × List MV :=
  if ks.any (MKey.beq · k) then (ks, setK k v ks vs) else (ks ++ [k], vs ++ [v])
def pairsOf : List MV → Option (List (MKey × MV))
  | [] => some []
  | .tup [k, v] :: r => match keyOf k, pairsOf r with
    | some k, some ps => some ((k, v) :: ps)
    | _, _ => none
  | _ => none
def mergeV : List (MKey × MV) → List MKey × List MV → List MKey × List MV
  | [], acc => acc
  | p :: r, acc => mergeV r (putKV p.1 p.2 acc.1 acc.2)
def dictV (fl : Bool) (v : MV) (s : MSt) : Res MV :=
  match viewD s v with
  | some (ks, vs) => newD fl ks vs s
  | none => match (viewL s v).bind pairsOf with
    | some ps => newD fl (mergeV ps ([], [])).1 (mergeV ps ([], [])).2 s
    | none => .bad
def strV (v : MV) (s : MSt) : Res MV :=
  match v with
  | .int i => if i.natAbs.log2 < 1920 then .ok (.str (Str.ofString (toString i)).cps.toList) s else .bad
  | .str z => .ok (.str z) s
  | _ => .bad
def bltV (fl : Bool) (b : Blt) (xs : List MV) (s : MSt) : Res MV :=
  match b with
  | .len => on1 lenV xs s
  | .abs => on1 (onI fun i => if i < 0 then -i else i) xs s
  | .int => on1 (onI fun i => i) xs s
  | .list => on1 (listV fl) xs s
  | .tuple => on1 tupleV xs s
  | .min2 => onII (fun i j => if j < i then j else i) xs s
  | .max2 => onII (fun i j => if j > i then j else i) xs s
  | .sum => on1 sumV xs s
  | .any => on1 anyV xs s
  | .all => on1 allV xs s
  | .sorted => on1 (sortV fl) xs s
  | .dict => on1 (dictV fl) xs s
  | .str => on1 strV xs s
  | _ => .bad
def joinL (a : List Nat) : List (List Nat) → List Nat
  | [] => []
  | [x] => x
  | x :: r => x ++ a ++ joinL a r
def lensL : List (List Nat) → Nat
  | [] => 0
  | x :: r => x.length + lensL r
def joinV (o v : MV) (s : MSt) : Res MV := match o with
  | .str a => match (viewQ s v).bind strsOf with
    | some zs => if lensL zs + zs.length * a.length ≤ SZ then .ok (.str (joinL a zs)) s else .bad
    | none => .bad
  | _ => .bad
def startsV (o v : MV) (s : MSt) : Res MV := match o, v with
  | .str a, .str b => .ok (.bl (decide (b.length ≤ a.length) && (a.take b.length == b))) s
  | _, _ => .bad
def idxM (x : MV) : List MV → Nat → Option Nat
  | [], _ => none
  | y :: r, k => if eqB y x then some k else idxM x r (k + 1)
def indexV (o v : MV) (s : MSt) : Res MV := match viewL s o with
  | some xs => if flatM v && xs.all flatM then match idxM v xs 0 with
    | some j => .ok (.int j) s
    | none => .bad else .bad
  | none => .bad
def getDV (o : MV) (xs : List MV) (s : MSt) : Res MV := match viewD s o, xs with
  | some (ks, vs), [k] => match keyOf k with
    | some k => .ok ((lookK k ks vs).getD .non) s
    | none => .bad
  | some (ks, vs), [k, d] => match keyOf k with
    | some k => .ok ((lookK k ks vs).getD d) s
    | none => .bad
  | _, _ => .bad
def isStrM : MV → Bool
  | .str _ => true
  | _ => false
def mthPre (b : Mth) (o : MV) (s : MSt) : Bool := match b with
  | .append => (viewL s o).isSome
  | .extend => (viewL s o).isSome
  | .popAt => (viewL s o).isSome
  | .join => isStrM o
  | .startswith => isStrM o
  | .index => (viewL s o).isSome
  | .get1 => (viewD s o).isSome
  | .get2 => (viewD s o).isSome
  | _ => false
def itemsV : List MKey → List MV → List MV
  | k :: r, v :: q => .tup [ofKey k, v] :: itemsV r q
  | _, _ => []
def appV (env : MEnv) (o v : MV) (s : MSt) : Res MV := match o with
  | .ref i => match s.refs[i]? with
    | some (.lst ys) => if ys.length < SZ ∧ mayPut env i v = true then .ok .non (setRef i (.lst (ys ++ [v])) s) else .bad
    | _ => .bad
  | _ => .bad
def extV (env : MEnv) (o v : MV) (s : MSt) : Res MV := match o with
  | .ref i => match s.refs[i]? with
    | some (.lst ys) => match viewL s v with
      | some zs => if ys.length + zs.length ≤ SZ ∧ zs.all (mayPut env i) = true then .ok .non (setRef i (.lst (ys ++ zs)) s) else .bad
      | none => .bad
    | _ => .bad
  | _ => .bad
def popV (o k : MV) (s : MSt) : Res MV := match o, k with
  | .ref i, .int k => match s.refs[i]? with
    | some (.lst ys) => if -(2 ^ 63) ≤ k ∧ k < 2 ^ 63 then match seqIndex? k ys.length with
      | some j => match ys[j]? with
        | some y => .ok y (setRef i (.lst (ys.eraseIdx j)) s)
        | none => .bad
      | none => .bad else .bad
    | _ => .bad
  | _, _ => .bad
def mthV (env : MEnv) (fl : Bool) (b : Mth) (o : MV) (xs : List MV) (s : MSt) : Res MV :=
  match b with
  | .append => on1 (appV env o) xs s
  | .extend => on1 (extV env o) xs s
  | .popAt => on1 (popV o) xs s
  | .join => on1 (joinV o) xs s
  | .startswith => on1 (startsV o) xs s
  | .index => on1 (indexV o) xs s
  | .get1 => getDV o xs s
  | .get2 => getDV o xs s
  | _ => .bad
end Dz
namespace Dz
open PySem
mutual
/-- every ref below n, every closure's cell below m -/
def below (n m : Nat) : MV → Bool
  | .ref i => decide (i < n)
  | .clo _ cs => cs.all fun i => decide (i < m)
  | .tup xs => belowL n m xs
  | .lst xs => belowL n m xs
  | .dic _ vs => belowL n m vs
  | .exc _ _ => false
  | _ => true
def belowL (n m : Nat) : List MV → Bool
  | [] => true
  | x :: r => below n m x && belowL n m r
end
def belowO (n m : Nat) : MO → Bool
  | .lst xs => belowL n m xs
  | .dic _ vs => belowL n m vs
  | .dead => true
/-- the state behind, cut to n refs and the cells as they were; the values vs stay -/
def fits (n : Nat) (s0 s : MSt) (vs : List MV) : Bool :=
  (s.refs.length == n && s.cells.length == s0.cells.length) || (belowL n s0.cells.length vs && (s.refs.take n).all (belowO n s0.cells.length))
def cutTo (n : Nat) (s0 s : MSt) : MSt := ⟨s.refs.take n, s0.cells⟩
/-- a def's end: what it made is let go -/
def leave (esc : Bool) (s0 : MSt) (r : Res MV) : Res MV := match r with
  | .ok v s => let n := if esc then s.refs.length else s0.refs.length
    if s0.refs.length ≤ s.refs.length ∧ fits n s0 s [v] = true then .ok v (cutTo n s0 s) else .bad
  | .exc c fs s => if s0.refs.length ≤ s.refs.length ∧ fits s0.refs.length s0 s fs = true then .exc c fs (cutTo s0.refs.length s0 s) else .bad
  | .bad => .bad
/-- the slots at a def's entry: its parameters' cells are made -/
def cellsFor (cels : List Nat) (k m : Nat) : List (Option Nat) := match k with
  | 0 => []
  | k + 1 => cellsFor cels k m ++ [(cels.findIdx? (· == k)).map (m + ·)]
def enter (d : FDef) (xs : List MV) (s : MSt) : MEnv × MSt :=
  (⟨xs.map some ++ List.replicate (d.nsl - xs.length) none, cellsFor d.cels d.nsl s.cells.length, s.refs.length⟩,
   { s with cells := s.cells ++ d.cels.map fun i => xs[i]? })
def capsOf (env : MEnv) : List (Nat × Nat) → Option (List Nat)
  | [] => some []
  | (_, j) :: r => match env.cel[j]?, capsOf env r with
    | some (some id), some ids => some (id :: ids)
    | _, _ => none
def capV (s : MSt) : List Nat → List (Option MV)
  | [] => []
  | id :: r => (s.cells[id]?).join :: capV s r
/-- a comprehension's turns -/
def lcLoop (src : Src) (one : MV → MSt → Res (Option MV)) : Nat → Nat → List MV → MSt → Res (List MV)
  | 0, _, _, _ => .bad
  | w + 1, i, acc, s => match src.next s i with
    | none => .bad
    | some none => .ok acc s
    | some (some x) => (one x s).bind fun y s => match y with
      | some y => if acc.length < SZ then lcLoop src one w (i + 1) (acc ++ [y]) s else .bad
      | none => lcLoop src one w (i + 1) acc s
def forLoop (src : Src) (body : MV → MEnv → MSt → Res (Fl × MEnv)) : Nat → Nat → MEnv → MSt → Res (Fl × MEnv)
  | 0, _, _, _ => .bad
  | w + 1, i, env, s => match src.next s i with
    | none => .bad
    | some none => .ok (.nxt, env) s
    | some (some x) => (body x env s).bind fun fe s => match fe.1 with
      | .nxt => forLoop src body w (i + 1) fe.2 s
      | .con => forLoop src body w (i + 1) fe.2 s
      | .brk => .ok (.nxt, fe.2) s
      | .ret v => .ok (.ret v, fe.2) s
def whlLoop (test : MEnv → MSt → Res Bool) (body : MEnv → MSt → Res (Fl × MEnv)) : Nat → MEnv → MSt → Res (Fl × MEnv)
  | 0, _, _ => .bad
  | w + 1, env, s => (test env s).bind fun b s => if b then (body env s).bind fun fe s => match fe.1 with
      | .nxt => whlLoop test body w fe.2 s
      | .con => whlLoop test body w fe.2 s
      | .brk => .ok (.nxt, fe.2) s
      | .ret v => .ok (.ret v, fe.2) s
    else .ok (.nxt, env) s
def LW : Nat := 100000000000000000000
def srcOf (r : Ev) (env : MEnv) (m : ME) (s : MSt) : Res Src :=
  match m with
  | .zip a b _ _ => (listE (r.e env) [a, b] s).bind fun xs s => match xs with
    | [x, y] => if (seqV s x).isSome && (seqV s y).isSome then .ok (.zip x y) s else .bad
    | _ => .bad
  | .enm a _ _ => (listE (r.e env) [a] s).bind fun xs s => match xs with
    | [x] => if (viewL s x).isSome then .ok (.enm x) s else .bad
    | _ => .bad
  | .rng [a] _ _ => (r.e env a s).bind fun x s => match x with
    | .int n => if -16777216 < n ∧ n < 16777216 then .ok (.rng 0 n.toNat) s else .bad
    | _ => .bad
  | .rng [a, b] _ _ => (r.e env a s).bind fun x s => (r.e env b s).bind fun y s => match x, y with
    | .int i, .int j => if -16777216 < i ∧ i < 16777216 ∧ -16777216 < j ∧ j < 16777216 then .ok (.rng i (j - i).toNat) s else .bad
    | _, _ => .bad
  | .rng _ _ _ => .bad
  | m => (r.e env m s).bind fun x s => if (seqV s x).isSome then .ok (.live x) s else .bad
/-- the slots of a target -/
def tgSlots : ME → List Nat
  | .var i _ _ => [i]
  | .tup es _ _ => go es
  | _ => []
where go : List ME → List Nat
  | [] => []
  | e :: r => tgSlots e ++ go r
/-- what a comprehension's turn may not let out -/
def quiet {α : Type} (r : Res α) : Res α := match r with
  | .exc _ _ _ => .bad
  | r => r
def wipeC (cell : Option (Nat × Nat)) (s : MSt) : MSt := match cell with
  | some (_, id) => { s with cells := s.cells.set id none }
  | none => s
def lcOne (r : Ev) (env : MEnv) (cell : Option (Nat × Nat)) (elt tg : ME) (ifs : List ME) (x : MV) (s : MSt) : Res (Option MV) :=
  match asgV tg x env s with
  | none => .bad
  | some (env, s) => quiet ((testsT (r.t env) ifs s).bind fun b s => if b then (r.e env elt s).bind fun y s => .ok (some y) (wipeC cell s) else .ok none (wipeC cell s))
/-- the names at a comprehension's entry: own ones forgotten, captured ones by their cells, the others as they are -/
def blkLoc (env : MEnv) (own : List Nat) (s : MSt) : Nat → List (Option MV) → List (Option MV)
  | _, [] => []
  | i, _ :: r => (if own.contains i then none else getV env i s) :: blkLoc env own s (i + 1) r
def blkCel (own cps : List Nat) (cell : Option (Nat × Nat)) : Nat → List (Option Nat) → List (Option Nat)
  | _, [] => []
  | i, c :: r => (match cell with
    | some (j, id) => if i = j then some id else if cps.contains i && !own.contains i then c else none
    | none => if cps.contains i && !own.contains i then c else none) :: blkCel own cps cell (i + 1) r
def blkEnv (env : MEnv) (own cps : List Nat) (cell : Option (Nat × Nat)) (s : MSt) : MEnv := ⟨blkLoc env own s 0 env.loc, blkCel own cps cell 0 env.cel, env.r0⟩
def lcE (r : Ev) (env : MEnv) (elt tg src : ME) (ifs : List ME) (cps : List Nat) (cell : Option Nat) (s : MSt) : Res (List MV) :=
  (srcOf r env src s).bind fun sr s0 => (match cell with
    | none => lcLoop sr (lcOne r (blkEnv env (tgSlots tg) cps none s0) none elt tg ifs) LW 0 [] s0
    | some i => if i < env.cel.length then lcLoop sr (lcOne r (blkEnv env (tgSlots tg) cps (some (i, s0.cells.length)) s0) (some (i, s0.cells.length)) elt tg ifs) LW 0 [] { s0 with cells := s0.cells ++ [none] } else .bad).bind fun xs s =>
      if fits s.refs.length s0 s xs = true then .ok xs (cutTo s.refs.length s0 s) else .bad
def allB : List MV → Option Bool
  | [] => some true
  | .bl b :: r => (allB r).map (b && ·)
  | _ => none
def dicOf (fl : Bool) (ks vs : List MV) (s : MSt) : Res MV :=
  match ks with
  | [] => if fl then newRef (.dic [] []) s else .ok (.dic [] []) s
  | _ => .bad
def hdV (fs : List MV) : ME → Option MV
  | .cst v _ _ _ => some v
  | .xfl _ _ _ k _ _ => fs[k]?
  | .tup es _ _ => (go es).map .tup
  | _ => none
where go : List ME → Option (List MV)
  | [] => some []
  | e :: r => match hdV fs e, go r with
    | some x, some xs => some (x :: xs)
    | _, _ => none
def hdsV (c : Nat) (fs : List MV) : List (Nat × Str × Pos × Option Str × ME × Pos × Pos) → Option (Option MV)
  | [] => some none
  | (h, _, _, _, e, _, _) :: r => if h = c then (hdV fs e).map some else hdsV c fs r
def isFn : MV → Bool
  | .fn _ => true
  | .clo _ _ => true
  | _ => false
def stepE (P : Prg) (r : Ev) (env : MEnv) (m : ME) (s : MSt) : Res MV :=
  match m with
  | .cst v _ _ _ => .ok v s
  | .var i _ _ => opt (getV env i s) s
  | .gfn i _ _ => .ok (.fn i) s
  | .gct g _ _ => opt P.consts[g]? s
  | .bin a op b _ => (r.e env a s).bind fun x s => (r.e env b s).bind fun y s => binV op x y s
  | .neg a _ => (r.e env a s).bind fun x s => match x with
    | .int i => .ok (.int (-i)) s
    | _ => .bad
  | .notE a _ => (r.e env a s).bind fun x s => match truM s x with
    | some b => .ok (.bl (!b)) s
    | none => .bad
  | .andE as _ => andV (r.e env) as s
  | .orE as _ => orV (r.e env) as s
  | .cmp a op b _ => (r.e env a s).bind fun x s => (r.e env b s).bind fun y s => match cmpV op x y s with
    | some b => .ok (.bl b) s
    | none => .bad
  | .chn a op b op2 c _ => (r.e env a s).bind fun x s => (r.e env b s).bind fun y s => match cmpV op x y s with
    | some true => (r.e env c s).bind fun z s => match cmpV op2 y z s with
      | some b => .ok (.bl b) s
      | none => .bad
    | some false => .ok (.bl false) s
    | none => .bad
  | .isN a ng _ _ _ => (r.e env a s).bind fun x s => .ok (.bl ((match x with | .non => true | _ => false) != ng)) s
  | .tyS a ng _ _ _ _ => (r.e env a s).bind fun x s => match isiV s x 2 with
    | some b => .ok (.bl (b != ng)) s
    | none => .bad
  | .isi a ts _ _ _ _ _ => (r.e env a s).bind fun x s => match isiVs s x ts with
    | some b => .ok (.bl b) s
    | none => .bad
  | .ife t a b _ => (r.t env t s).bind fun c s => if c then r.e env a s else r.e env b s
  | .tup es _ _ => (listE (r.e env) es s).bind fun xs s => if xs.length ≤ SZ then .ok (.tup xs) s else .bad
  | .lst fl es _ => (listE (r.e env) es s).bind fun xs s => if xs.length ≤ SZ then newL fl xs s else .bad
  | .dic fl ks vs _ => dicOf fl (ks.map fun _ => .non) [] s
  | .sub a i _ => (r.e env a s).bind fun x s => (r.e env i s).bind fun y s => opt (subV x y s) s
  | .slc fl a lo hi _ _ => (r.e env a s).bind fun x s => (optE (r.e env) lo s).bind fun l s => (optE (r.e env) hi s).bind fun h s => slcV fl x l h s
  | .call f _ as _ _ => (listE (r.e env) as s).bind fun xs s => r.f f xs s
  | .blt fl b _ as _ _ => (listE (r.e env) as s).bind fun xs s => bltV fl b xs s
  | .mth fl b o _ as _ _ => (r.e env o s).bind fun ov s => match mthPre b ov s with
    | true => (listE (r.e env) as s).bind fun xs s => mthV env fl b ov xs s
    | false => .bad
  | .cal i _ as _ _ => match getV env i s with
    | some f => if isFn f then (listE (r.e env) as s).bind fun xs s => r.c f xs s else .bad
    | none => .bad
  | .lam j _ _ _ _ => match P.lams[j]? with
    | some d => match capsOf env d.caps with
      | some ids => .ok (.clo j ids) s
      | none => .bad
    | none => .bad
  | .lcm fl elt tg src ifs _ cell _ => (lcE r env elt tg src ifs cell.2 cell.1 s).bind fun xs s => newL fl xs s
  | .itm fl d _ _ _ _ => (r.e env d s).bind fun x s => match viewD s x with
    | some (ks, vs) => if fl then .bad else .ok (.lst (itemsV ks vs)) s
    | none => .bad
  | .allC elt tg src ifs _ cell _ _ _ => (lcE r env elt tg src ifs cell.2 cell.1 s).bind fun xs s => match allB xs with
    | some b => .ok (.bl b) s
    | none => .bad
  | _ => .bad
def stepT (r : Ev) (env : MEnv) (m : ME) (s : MSt) : Res Bool :=
  match m with
  | .andE as _ => andT (r.t env) as s
  | .orE as _ => orT (r.t env) as s
  | .notE a _ => (r.t env a s).bind fun b s => .ok (!b) s
  | .ife t a b _ => (r.t env t s).bind fun c s => if c then r.t env a s else r.t env b s
  | m => (r.e env m s).bind fun x s => match truM s x with
    | some b => .ok b s
    | none => .bad
def putAt (env : MEnv) (o i v : MV) (s : MSt) : Option MSt :=
  match o, i with
  | .ref k, .int j => match s.refs[k]? with
    | some (.lst xs) => (L2.ixN xs.length j).map fun n => setRef k (.lst (xs.set n v)) s
    | _ => none
  | _, _ => none
def stm (nc : Nat) (r : Ev) (env : MEnv) (m : MS) (s : MSt) : Res (Fl × MEnv) :=
  match m with
  | .asg tg e _ => (r.e env e s).bind fun v s => match asgV tg v env s with
    | some (env, s) => .ok (.nxt, env) s
    | none => .bad
  | .asS o i e _ _ => (r.e env e s).bind fun v s => (r.e env o s).bind fun ov s => (r.e env i s).bind fun iv s => match putAt env ov iv v s with
    | some s => .ok (.nxt, env) s
    | none => .bad
  | .exp e _ => (r.e env e s).bind fun _ s => .ok (.nxt, env) s
  | .ret e _ => (r.e env e s).bind fun v s => .ok (.ret v, env) s
  | .retN _ => .ok (.ret .non, env) s
  | .iff t a b _ => (r.t env t s).bind fun c s => if c then r.s env a s else r.s env b s
  | .for tg src b _ => (srcOf r env src s).bind fun sr s => forLoop sr (fun x env s => match asgV tg x env s with
    | some (env, s) => r.s env b s
    | none => .bad) LW 0 env s
  | .whl t b _ => whlLoop (fun env s => r.t env t s) (fun env s => r.s env b s) LW env s
  | .brk _ => .ok (.brk, env) s
  | .con _ => .ok (.con, env) s
  | .pas _ => .ok (.nxt, env) s
  | .rai c _ as _ _ _ => (listE (r.e env) as s).bind fun xs s => .exc c xs s
  | .try1 b hs _ => match r.s env b s with
    | .exc c fs s => if c < nc then match hdsV c fs hs with
      | some (some v) => .ok (.ret v, env) s
      | some none => .exc c fs s
      | none => .bad else .bad
    | x => x
  | .nev _ => .bad
def blk (f : MEnv → MS → MSt → Res (Fl × MEnv)) : MEnv → List MS → MSt → Res (Fl × MEnv)
  | env, [], s => .ok (.nxt, env) s
  | env, m :: r, s => (f env m s).bind fun fe s => match fe.1 with
    | .nxt => blk f fe.2 r s
    | _ => .ok fe s
def stepF (P : Prg) (r : Ev) (f : Nat) (xs : List MV) (s : MSt) : Res MV :=
  match P.fns[f]? with
  | some d => if xs.length = d.np then
      let es := enter d xs s
      leave d.esc s (match r.s es.1 d.body es.2 with
        | .ok fe s => match fe.1 with
          | .ret v => .ok v s
          | .nxt => .ok .non s
          | _ => .bad
        | .exc c fs s => .exc c fs s
        | .bad => .bad)
    else .bad
  | none => .bad
def stepC (P : Prg) (r : Ev) (f : MV) (xs : List MV) (s : MSt) : Res MV :=
  match f with
  | .fn i => r.f i xs s
  | .clo j ids => match P.lams[j]? with
    | some d => if xs.length = d.np then leave true s (r.e ⟨xs.map some ++ (capV s ids ++ List.replicate (d.nsl - xs.length - ids.length) none), [], s.refs.length⟩ d.body s) else .bad
    | none => .bad
  | _ => .bad
def ev (P : Prg) : Nat → Ev
  | 0 => ⟨fun _ _ _ => .bad, fun _ _ _ => .bad, fun _ _ _ => .bad, fun _ _ _ => .bad, fun _ _ _ => .bad⟩
  | n + 1 => ⟨stepE P (ev P n), stepT (ev P n), blk (stm P.ncls (ev P n)), stepF P (ev P n), stepC P (ev P n)⟩
end Dz

set_option maxRecDepth 100000
set_option maxHeartbeats 4000000
/-! Part C: what the plain values stand for. -/
namespace Dz
open PySem L2

/-- the key of a plain key -/
def kM : Key → MKey
  | .inl i => .int i
  | .inr x => .str x.cps.toList

/-- F: what never changes from now on; μ: where the refs stand; κ: where the cells stand -/
structure RE where
  F : Hp
  μ : Nat → Addr
  κ : Nat → Addr
  n : Nat
  m : Nat

/-- what the text's top left: where the defs stand; dicts written there; closures' objects -/
structure LInfo where
  qual : Str
  params : Arguments
  body : Expr
  scope : Scope
  ps : List Str
  fr : List Str
  N : List Str
/-- the closure at a: its code object at c', its cells at as -/
def CloO (L : LInfo) (as : List Addr) (c' a : Addr) : HO := .ext fun h => as.Nodup ∧ as.length = L.fr.length ∧ ∃ pm ctv, h.get? a = some (PySem.W.kla_obj "<lambda>" L.qual L.params L.body L.scope (L.fr.zip as) pm c' ctv)
structure GI where
  fa : Nat → Option Addr
  wd : Addr → List MKey → List MV → Prop
  lam : Nat → Option LInfo
  cls : Nat → Addr
  fld : Nat → List Str

mutual
inductive RelM (G : GI) (R : RE) : MV → V → Prop
  | non : RelM G R .non .non
  | bl (b : Bool) : RelM G R (.bl b) (.bl b)
  | int (i : Int) : RelM G R (.int i) (.int i)
  | str (x : List Nat) : RelM G R (.str x) (.str ⟨x.toArray⟩)
  | tup {xs : List MV} {a : Addr} {us : List V} : R.F a = some (.tup us) → RelMs G R xs us → RelM G R (.tup xs) (.ref a)
  | lst {xs : List MV} {a : Addr} {us : List V} : R.F a = some (.lst us) → RelMs G R xs us → RelM G R (.lst xs) (.ref a)
  | dic {ks : List MKey} {vs : List MV} {a : Addr} {kvs : List (Key × V)} : R.F a = some (.dK kvs) → ks = kvs.map (fun p => kM p.1) → RelMs G R vs (kvs.map (·.2)) → RelM G R (.dic ks vs) (.ref a)
  | wd {ks : List MKey} {vs : List MV} {a : Addr} : G.wd a ks vs → RelM G R (.wdi ks vs) (.ref a)
  | fn {i : Nat} {a : Addr} : G.fa i = some a → RelM G R (.fn i) (.ref a)
  | clo {j : Nat} {cs : List Nat} {a c' : Addr} {L : LInfo} : G.lam j = some L → R.F a = some (CloO L (cs.map R.κ) c' a) → R.F c' = some (LamX.CodeO c' L.qual) → (∀ i ∈ cs, i < R.m) → RelM G R (.clo j cs) (.ref a)
  | ref {i : Nat} : i < R.n → RelM G R (.ref i) (.ref (R.μ i))
inductive RelMs (G : GI) (R : RE) : List MV → List V → Prop
  | nil : RelMs G R [] []
  | cons {x : MV} {u : V} {xs : List MV} {us : List V} : RelM G R x u → RelMs G R xs us → RelMs G R (x :: xs) (u :: us)
end
/-- what a ref's object stands for -/
inductive RelO (G : GI) (R : RE) : MO → HO → Prop
  | lst {xs : List MV} {us : List V} : RelMs G R xs us → RelO G R (.lst xs) (.lst us)
  | dic {ks : List MKey} {vs : List MV} {kvs : List (Key × V)} : ks = kvs.map (fun p => kM p.1) → RelMs G R vs (kvs.map (·.2)) → RelO G R (.dic ks vs) (.dK kvs)
  | deadL (us : List V) : RelO G R .dead (.lst us)
  | deadD (kvs : List (Key × V)) : RelO G R .dead (.dK kvs)

/-- later -/
structure Ext (R : RE) (H : Hp) (R' : RE) (H' : Hp) : Prop where
  fr : ∀ a o, R.F a = some o → R'.F a = some o
  st : ∀ a, H a ≠ none → H' a ≠ none
  nn : R.n ≤ R'.n
  mm : R.m ≤ R'.m
  mu : ∀ i, i < R.n → R'.μ i = R.μ i
  nw : ∀ i, R.n ≤ i → i < R'.n → H (R'.μ i) = none
  ka : ∀ i, i < R.m → R'.κ i = R.κ i
  kp : ∀ b o, H b = some o → (∀ i, i < R.n → b ≠ R.μ i) → (∀ ps, o ≠ .tbl ps) → H' b = some o
  lf : ∀ b us, H b = some (.lst us) → (∀ i, i < R.n → b ≠ R.μ i) → R.F b = none → R'.F b = none

/-- how the frozen part lies in the heap, and the refs -/
structure Lies (G : GI) (R : RE) (s : MSt) (H : Hp) : Prop where
  nr : s.refs.length = R.n
  nc : s.cells.length = R.m
  fz : ∀ a o, R.F a = some o → H a = some o ∧ ∀ ps, o ≠ .tbl ps
  rf : ∀ i o, s.refs[i]? = some o → R.F (R.μ i) = none ∧ ∃ u, H (R.μ i) = some u ∧ RelO G R o u
  inj : ∀ i j, i < R.n → j < R.n → R.μ i = R.μ j → i = j

theorem Ext.refl (R : RE) (H : Hp) : Ext R H R H :=
  ⟨fun _ _ h => h, fun _ h => h, Nat.le_refl _, Nat.le_refl _, fun _ _ => rfl, fun i h1 h2 => absurd h1 (by omega), fun _ _ => rfl, fun _ _ h _ _ => h, fun _ _ _ _ h => h⟩

section
variable {G : GI} {R R' R1 R2 : RE} {H H' H1 H2 : Hp}
theorem Ext.trans (a : Ext R H R1 H1) (b : Ext R1 H1 R2 H2) (hm : ∀ i, i < R.n → H (R.μ i) ≠ none) : Ext R H R2 H2 where
  fr := fun c o h => b.fr c o (a.fr c o h)
  st := fun c h => b.st c (a.st c h)
  nn := Nat.le_trans a.nn b.nn
  mm := Nat.le_trans a.mm b.mm
  mu := fun i h => (b.mu i (Nat.lt_of_lt_of_le h a.nn)).trans (a.mu i h)
  nw := fun i h1 h2 => by
    by_cases q : i < R1.n
    · rw [b.mu i q]; exact a.nw i h1 q
    · have z := b.nw i (by omega) h2
      cases e : H (R2.μ i) with
      | none => rfl
      | some o => exact absurd z (a.st _ (by rw [e]; simp))
  ka := fun i h => (b.ka i (Nat.lt_of_lt_of_le h a.mm)).trans (a.ka i h)
  kp := fun c o h h1 h2 => by
    refine b.kp c o (a.kp c o h h1 h2) (fun i hi q => ?_) h2
    by_cases z : i < R.n
    · rw [a.mu i z] at q; exact h1 i z q
    · have y := a.nw i (by omega) hi
      rw [← q, h] at y; cases y
  lf := fun c us h h1 h2 => b.lf c us (a.kp c _ h h1 (fun ps q => by cases q)) (fun i hi q => by
    by_cases z : i < R.n
    · rw [a.mu i z] at q; exact h1 i z q
    · have y := a.nw i (by omega) hi
      rw [← q, h] at y; cases y) (a.lf c us h h1 h2)

mutual
theorem RelM.later {x : MV} {u : V} (r : RelM G R x u) (e : Ext R H R' H') (fz : ∀ a o, R.F a = some o → H a = some o) : RelM G R' x u := by
  cases r with
  | non => exact .non
  | bl b => exact .bl b
  | int i => exact .int i
  | str x => exact .str x
  | tup h rs => exact .tup (e.fr _ _ h) (RelMs.later rs e fz)
  | lst h rs => exact .lst (e.fr _ _ h) (RelMs.later rs e fz)
  | dic h k rs => exact .dic (e.fr _ _ h) k (RelMs.later rs e fz)
  | wd h => exact .wd h
  | fn h => exact .fn h
  | @clo j cs a c' L hl h h2 hc =>
    have q : cs.map R'.κ = cs.map R.κ := List.map_congr_left fun i hi => e.ka i (hc i hi)
    exact .clo hl (by rw [q]; exact e.fr _ _ h) (e.fr _ _ h2) (fun i hi => Nat.lt_of_lt_of_le (hc i hi) e.mm)
  | ref h =>
    rw [← e.mu _ h]
    exact .ref (Nat.lt_of_lt_of_le h e.nn)
theorem RelMs.later {xs : List MV} {us : List V} (r : RelMs G R xs us) (e : Ext R H R' H') (fz : ∀ a o, R.F a = some o → H a = some o) : RelMs G R' xs us := by
  cases r with
  | nil => exact .nil
  | cons a b => exact .cons (RelM.later a e fz) (RelMs.later b e fz)
end
theorem RelO.later {o : MO} {u : HO} (r : RelO G R o u) (e : Ext R H R' H') (fz : ∀ a o, R.F a = some o → H a = some o) : RelO G R' o u := by
  cases r with
  | lst a => exact .lst (a.later e fz)
  | dic k a => exact .dic k (a.later e fz)
  | deadL us => exact .deadL us
  | deadD us => exact .deadD us
end
end Dz

set_option maxRecDepth 100000
set_option maxHeartbeats 4000000
/-! Part D: the judgement, and how it goes on from part to part. -/
namespace Dz
open PySem L2

theorem Lies.there {G : GI} {R : RE} {s : MSt} {H : Hp} (l : Lies G R s H) : ∀ i, i < R.n → H (R.μ i) ≠ none := fun i hi => by
  have h : i < s.refs.length := by rw [l.nr]; exact hi
  obtain ⟨_, u, e, _⟩ := l.rf i s.refs[i] (by simp [h])
  rw [e]; simp
theorem Lies.f0 {G : GI} {R : RE} {s : MSt} {H : Hp} (l : Lies G R s H) : ∀ a o, R.F a = some o → H a = some o := fun a o h => (l.fz a o h).1
theorem Lies.no {G : GI} {R : RE} {s : MSt} {H : Hp} (l : Lies G R s H) {i : Nat} (hi : i < R.n) : R.F (R.μ i) = none := by
  have h : i < s.refs.length := by rw [l.nr]; exact hi
  exact (l.rf i s.refs[i] (by simp [h])).1

/-- a cell of a frame that waits -/
def OutC (G : GI) (X : Cx) (R : RE) (id : Nat) (v : Option MV) : Prop :=
  X.H_0 (R.κ id) = none ∧ R.κ id ∉ frs X.stack ∧ R.κ id ∉ X.ex ∧ ∃ w, X.s_0.heap.IsCell (R.κ id) w ∧ ∀ mv, v = some mv → ∃ m u, RelM G R mv m ∧ RelV m u ∧ w = some u

structure Sim (G : GI) (X : Cx) (T : List (Addr × Str)) (R : RE) (env : MEnv) (s : MSt) (σ : St) (H : Hp) : Prop where
  lies : Lies G R s H
  loc : ∀ (i : Nat) v, getV env i s = some v → ∃ u, σ[i]? = some (some u) ∧ RelM G R v u
  len : σ.length = env.loc.length
  nlen : σ.length = X.N.length
  cel : ∀ (i id : Nat), env.cel[i]? = some (some id) → id < R.m ∧ ∃ x, X.N[i]? = some x ∧ X.env.cells.lookup x = some (R.κ id) ∧ (X.env.scope.names.lookup x = some .cell ∨ X.env.scope.names.lookup x = some .free)
  cinj : ∀ (i j id : Nat), env.cel[i]? = some (some id) → env.cel[j]? = some (some id) → i = j
  cfr : ∀ (i id : Nat), env.cel[i]? = some (some id) → R.κ id ∉ frs X.stack
  out : ∀ (id : Nat), id < R.m → (∃ i : Nat, env.cel[i]? = some (some id)) ∨ OutC G X R id (s.cells[id]?).join
  tab : LamX.Tabs T H

section
variable {G : GI} {P : Prg} {X : Cx} {T : List (Addr × Str)} {W : WX} {R R1 : RE} {env : MEnv} {s s1 : MSt} {σ : St} {H H1 : Hp}

/-- what is wanted behind -/
def Aft {α β : Type} (G : GI) (X : Cx) (T : List (Addr × Str)) (W : WX) (R : RE) (env : MEnv) (σ : St) (H : Hp) (rel : RE → α → β → Prop) (Q : β → Hp → Prop) : Res α → Prop
  | .ok a s => ∀ R1 H1 b, Ext R H R1 H1 → Sim G X T R1 env s σ H1 → rel R1 a b → Q b H1
  | .exc c fs s => ∀ R1 H1 d us, Ext R H R1 H1 → Sim G X T R1 env s σ H1 → RelMs G R1 fs us → H1 d = some (.xd ((G.fld c).zip us).reverse) → W (.ref (G.cls c)) (some d) σ H1
  | .bad => False

theorem Aft.from {α β : Type} {rel : RE → α → β → Prop} {Q : β → Hp → Prop} {r : Res α} (h : Aft G X T W R env σ H rel Q r) (e : Ext R H R1 H1) (hm : ∀ i, i < R.n → H (R.μ i) ≠ none) : Aft G X T W R1 env σ H1 rel Q r := by
  cases r with
  | ok a s => exact fun R2 H2 b e2 S r => h R2 H2 b (e.trans e2 hm) S r
  | exc c fs s => exact fun R2 H2 d us e2 S r q => h R2 H2 d us (e.trans e2 hm) S r q
  | bad => exact h
theorem Aft.imp {α β : Type} {rel : RE → α → β → Prop} {Q Q' : β → Hp → Prop} {r : Res α} (h : Aft G X T W R env σ H rel Q r) (hq : ∀ b H, Q b H → Q' b H) : Aft G X T W R env σ H rel Q' r := by
  cases r with
  | ok a s => exact fun R2 H2 b e2 S r => hq _ _ (h R2 H2 b e2 S r)
  | exc c fs s => exact h
  | bad => exact h

/-- the readings -/
def tE (G : GI) (P : Prg) (X : Cx) (T : List (Addr × Str)) (W : WX) (n : Nat) (m : ME) : TE := fun σ H Q => ∃ R env s, Sim G X T R env s σ H ∧ Aft G X T W R env σ H (RelM G) Q ((ev P n).e env m s)
def tT (G : GI) (P : Prg) (X : Cx) (T : List (Addr × Str)) (W : WX) (n : Nat) (m : ME) : TT := fun σ H Q => ∃ R env s, Sim G X T R env s σ H ∧ Aft G X T W R env σ H (fun _ a b => a = b) Q ((ev P n).t env m s)
def tA (G : GI) (P : Prg) (X : Cx) (T : List (Addr × Str)) (W : WX) (n : Nat) (ms : List ME) : TA := fun σ H Q => ∃ R env s, Sim G X T R env s σ H ∧ Aft G X T W R env σ H (RelMs G) Q (listE ((ev P n).e env) ms s)

/-- behind a part -/
def Thn {α β γ : Type} (G : GI) (X : Cx) (T : List (Addr × Str)) (W : WX) (R : RE) (env : MEnv) (σ : St) (H : Hp) (rel1 : RE → γ → β → Prop) (K : RE → Hp → γ → β → MSt → Prop) (u : β) (H1 : Hp) : Prop :=
  ∃ R1 s1 v, Ext R H R1 H1 ∧ Sim G X T R1 env s1 σ H1 ∧ rel1 R1 v u ∧ K R1 H1 v u s1
theorem Aft.bind {α β γ δ : Type} {rel : RE → α → β → Prop} {rel1 : RE → γ → δ → Prop} {Q : β → Hp → Prop} {r : Res γ} {f : γ → MSt → Res α} (hm : ∀ i, i < R.n → H (R.μ i) ≠ none)
    (h : Aft G X T W R env σ H rel Q (r.bind f)) : Aft G X T W R env σ H rel1 (fun u H1 => ∃ R1 s1 v, Ext R H R1 H1 ∧ Sim G X T R1 env s1 σ H1 ∧ rel1 R1 v u ∧ Aft G X T W R1 env σ H1 rel Q (f v s1)) r := by
  cases r with
  | ok a s => exact fun R1 H1 b e S r => ⟨R1, s, a, e, S, r, Aft.from h e hm⟩
  | exc c fs s => exact h
  | bad => exact h
theorem tE_seq {α β : Type} {rel : RE → α → β → Prop} {Q : β → Hp → Prop} {n : Nat} {m : ME} {f : MV → MSt → Res α} (S : Sim G X T R env s σ H) (h : Aft G X T W R env σ H rel Q (((ev P n).e env m s).bind f)) :
    tE G P X T W n m σ H (fun u H1 => ∃ R1 s1 v, Ext R H R1 H1 ∧ Sim G X T R1 env s1 σ H1 ∧ RelM G R1 v u ∧ Aft G X T W R1 env σ H1 rel Q (f v s1)) := ⟨R, env, s, S, Aft.bind S.lies.there h⟩
theorem tT_seq {α β : Type} {rel : RE → α → β → Prop} {Q : β → Hp → Prop} {n : Nat} {m : ME} {f : Bool → MSt → Res α} (S : Sim G X T R env s σ H) (h : Aft G X T W R env σ H rel Q (((ev P n).t env m s).bind f)) :
    tT G P X T W n m σ H (fun u H1 => ∃ R1 s1, Ext R H R1 H1 ∧ Sim G X T R1 env s1 σ H1 ∧ Aft G X T W R1 env σ H1 rel Q (f u s1)) :=
  ⟨R, env, s, S, Aft.imp (Aft.bind (rel1 := fun _ a b => a = b) S.lies.there h) fun b H1 ⟨R1, s1, v, e, S1, q, k⟩ => by subst q; exact ⟨R1, s1, e, S1, k⟩⟩
theorem tA_seq {α β : Type} {rel : RE → α → β → Prop} {Q : β → Hp → Prop} {n : Nat} {ms : List ME} {f : List MV → MSt → Res α} (S : Sim G X T R env s σ H) (h : Aft G X T W R env σ H rel Q ((listE ((ev P n).e env) ms s).bind f)) :
    tA G P X T W n ms σ H (fun u H1 => ∃ R1 s1 v, Ext R H R1 H1 ∧ Sim G X T R1 env s1 σ H1 ∧ RelMs G R1 v u ∧ Aft G X T W R1 env σ H1 rel Q (f v s1)) := ⟨R, env, s, S, Aft.bind S.lies.there h⟩
/-- an end -/
theorem Aft.fin {α β : Type} {rel : RE → α → β → Prop} {Q : β → Hp → Prop} {a : α} {b : β} (h : Aft G X T W R env σ H rel Q (.ok a s)) (S : Sim G X T R env s σ H) (r : rel R a b) : Q b H := h R H b (Ext.refl R H) S r

theorem PE.imp {X : Cx} {e : Expr} {t t' : TE} (h : PE X e t) (q : ∀ σ H Q, t' σ H Q → t σ H Q) : PE X e t' := ⟨fun pins s σ H Q I w => h.run pins s σ H Q I (q σ H Q w)⟩
theorem PT.imp {X : Cx} {e : Expr} {t t' : TT} (h : PT X e t) (q : ∀ σ H Q, t' σ H Q → t σ H Q) : PT X e t' := ⟨fun pins s σ H Q I w => h.run pins s σ H Q I (q σ H Q w)⟩
theorem PA.imp {X : Cx} {e : List Expr} {t t' : TA} (h : PA X e t) (q : ∀ σ H Q, t' σ H Q → t σ H Q) : PA X e t' := ⟨fun p pins s σ H Q I w => h.run p pins s σ H Q I (q σ H Q w)⟩
theorem PS.imp {X : Cx} {e : Stmt} {t t' : TS} (h : PS X e t) (q : ∀ D σ H, t' D σ H → t D σ H) : PS X e t' := ⟨fun pins s σ H D I w => h.run pins s σ H D I (q D σ H w)⟩

/-- what holds of a part at fuel n -/
def SE (G : GI) (P : Prg) (X : Cx) (T : List (Addr × Str)) (W : WX) (n : Nat) (m : ME) : Prop := PE X (un m) (tE G P X T W n m)
def ST (G : GI) (P : Prg) (X : Cx) (T : List (Addr × Str)) (W : WX) (n : Nat) (m : ME) : Prop := PT X (un m) (tT G P X T W n m)

/-! ### values and names -/
def cstOk : MV → Const → Bool
  | .non, .none => true
  | .bl a, .bool b => a == b
  | .int i, .int j => i == j
  | .str x, .str y => x == y.cps.toList
  | _, _ => false
theorem se_cst {n : Nat} {v : MV} {c : Const} {j : Nat} {p : Pos} (h : cstOk v c = true) : SE G P X T W (n + 1) (.cst v c j p) := by
  unfold SE
  cases v <;> cases c <;> try (exact Bool.noConfusion (show false = true from h))
  · exact PE.imp pe_non fun σ H Q ⟨R, env, s, S, k⟩ => k.fin S .non
  · have e : _ = _ := eq_of_beq h
    subst e
    exact PE.imp pe_bl fun σ H Q ⟨R, env, s, S, k⟩ => k.fin S (.bl _)
  · have e : _ = _ := eq_of_beq h
    subst e
    exact PE.imp pe_int fun σ H Q ⟨R, env, s, S, k⟩ => k.fin S (.int _)
  · have e : _ = _ := eq_of_beq h
    subst e
    exact PE.imp pe_str fun σ H Q ⟨R, env, s, S, k⟩ => k.fin S (by have := RelM.str (G := G) (R := R) (Str.cps ‹_›).toList; simpa using this)
theorem se_var {n i : Nat} {x : Str} {p : Pos} (hN : X.N[i]? = some x) (hv : Vis X.env.scope x) (hd : (x == ("__debug__" : Str)) = false) (hc : (x == ("__classdict__" : Str)) = false) : SE G P X T W (n + 1) (.var i x p) := by
  refine PE.imp (pe_var hN hv hd hc) fun σ H Q ⟨R, env, s, S, k⟩ => ?_
  have k' : Aft G X T W R env σ H (RelM G) Q (opt (getV env i s) s) := k
  cases e : getV env i s with
  | none => rw [e] at k'; exact k'.elim
  | some v =>
    rw [e] at k'
    obtain ⟨u, h1, h2⟩ := S.loc i v e
    exact ⟨u, h1, Aft.fin k' S h2⟩
end
end Dz

set_option maxRecDepth 100000
set_option maxHeartbeats 4000000
/-! Part E: new objects, written objects, what is read. -/
namespace Dz
open PySem L2

/-- later, the tables and the cells as they were -/
structure ExtS (R : RE) (H : Hp) (R' : RE) (H' : Hp) : Prop where
  ext : Ext R H R' H'
  tb : ∀ b ps, H b = some (.tbl ps) → H' b = some (.tbl ps)
  ce : R'.m = R.m
  ck : R'.κ = R.κ

theorem RelO.notbl {G : GI} {R : RE} {o : MO} {u : HO} (r : RelO G R o u) (ps : Array Value) : u ≠ .tbl ps := by
  cases r <;> intro z <;> cases z
theorem RelO.noext {G : GI} {R : RE} {o : MO} {u : HO} (r : RelO G R o u) (φ : Heap → Prop) : u ≠ .ext φ := by
  cases r <;> intro z <;> cases z

section
variable {G : GI} {P : Prg} {X : Cx} {T : List (Addr × Str)} {W : WX} {R R1 : RE} {env : MEnv} {s s1 : MSt} {σ : St} {H H1 : Hp} {p : Addr} {o : MO} {u : HO}

theorem Lies.ref {i : Nat} {o : MO} (l : Lies G R s H) (h : s.refs[i]? = some o) : i < R.n ∧ R.F (R.μ i) = none ∧ ∃ u, H (R.μ i) = some u ∧ RelO G R o u :=
  ⟨by rw [← l.nr]; exact (List.getElem?_eq_some_iff.mp h).1, l.rf i o h⟩
/-- an object that is no ref's -/
theorem Lies.apart (l : Lies G R s H) {b : Addr} {φ : Heap → Prop} (h : H b = some (.ext φ)) : ∀ i, i < R.n → b ≠ R.μ i := fun i hi q => by
  have hh : i < s.refs.length := by rw [l.nr]; exact hi
  obtain ⟨_, u, e, r⟩ := l.rf i s.refs[i] (by simp [hh])
  rw [← q, h] at e
  exact r.noext φ (Option.some.inj e).symm
theorem Tabs.later {T : List (Addr × Str)} (t : LamX.Tabs T H) (l : Lies G R s H) (e : Ext R H R1 H1) (tb : ∀ b ps, H b = some (.tbl ps) → H1 b = some (.tbl ps)) : LamX.Tabs T H1 := fun q hq => by
  obtain ⟨ps, h1, h2, h3⟩ := t q hq
  refine ⟨ps, tb _ _ h1, h2, fun pos cv hc => ?_⟩
  obtain ⟨c, e1, e2⟩ := h3 pos cv hc
  exact ⟨c, e1, e.kp c _ e2 (l.apart e2) (fun ps z => by unfold LamX.CodeO at z; cases z)⟩
theorem OutC.later {id : Nat} {v : Option MV} (c : OutC G X R id v) (e : Ext R H R1 H1) (hk : id < R.m) (fz : ∀ a o, R.F a = some o → H a = some o) : OutC G X R1 id v := by
  obtain ⟨h1, h2, h3, w, hc, q⟩ := c
  unfold OutC
  rw [e.ka id hk]
  exact ⟨h1, h2, h3, w, hc, fun mv e0 => let ⟨m, u, r, ru, z⟩ := q mv e0; ⟨m, u, r.later e fz, ru, z⟩⟩
/-- the frame's part of what is known goes on where the cells are as they were -/
theorem Sim.liftT (S : Sim G X T R env s σ H) (e : Ext R H R1 H1) (l : Lies G R1 s1 H1) (hc : s1.cells = s.cells) (ht : LamX.Tabs T H1) : Sim G X T R1 env s1 σ H1 := by
  have gv : ∀ i, getV env i s1 = getV env i s := fun i => by unfold getV; rw [hc]
  have em : R1.m = R.m := by rw [← l.nc, ← S.lies.nc, hc]
  refine ⟨l, fun i v h => ?_, S.len, S.nlen, fun i id h => ?_, S.cinj, fun i id h => ?_, fun id h => ?_, ht⟩
  · rw [gv] at h
    obtain ⟨u, h1, h2⟩ := S.loc i v h
    exact ⟨u, h1, h2.later e S.lies.f0⟩
  · obtain ⟨h1, x, h2, h3, h4⟩ := S.cel i id h
    exact ⟨by rw [em]; exact h1, x, h2, by rw [e.ka id h1]; exact h3, h4⟩
  · rw [e.ka id (S.cel i id h).1]; exact S.cfr i id h
  · rw [em] at h
    rw [hc]
    rcases S.out id h with h1 | h1
    · exact .inl h1
    · exact .inr (h1.later e h S.lies.f0)
theorem Sim.lift (S : Sim G X T R env s σ H) (e : ExtS R H R1 H1) (l : Lies G R1 s1 H1) (hc : s1.cells = s.cells) : Sim G X T R1 env s1 σ H1 := S.liftT e.ext l hc (Tabs.later S.tab S.lies e.ext e.tb)

/-! ### a new frozen object, a new ref, a ref written -/
theorem Lies.keep {o : HO} (l : Lies G R s H) (hp : H p = none) : Lies G R s (upd H p o) := by
  refine ⟨l.nr, l.nc, fun a u h => ⟨?_, (l.fz a u h).2⟩, fun i m h => ?_, l.inj⟩
  · have := (l.fz a u h).1
    rw [upd_ne (ne_of_none this hp)]; exact this
  · obtain ⟨h1, u, h2, h3⟩ := l.rf i m h
    exact ⟨h1, u, by rw [upd_ne (ne_of_none h2 hp)]; exact h2, h3⟩
theorem Ext.keep {o : HO} (hp : H p = none) : ExtS R H R (upd H p o) :=
  ⟨⟨fun _ _ h => h, fun a h => by
      by_cases q : a = p
      · rw [q, upd_same]; simp
      · rw [upd_ne q]; exact h, Nat.le_refl _, Nat.le_refl _, fun _ _ => rfl, fun i h1 h2 => absurd h1 (by omega), fun _ _ => rfl, fun b u h _ _ => by rw [upd_ne (ne_of_none h hp)]; exact h, fun _ _ _ _ h => h⟩,
    fun b ps h => by rw [upd_ne (ne_of_none h hp)]; exact h, rfl, rfl⟩
/-- with one more that is frozen -/
abbrev RE.fz (R : RE) (p : Addr) (o : HO) : RE := { R with F := upd R.F p o }
theorem Ext.fzS {o : HO} (l : Lies G R s H) (hF : H p = none) : ExtS R H (R.fz p o) (upd H p o) := by
  have k := Ext.keep (R := R) (H := H) (o := o) hF
  refine ⟨⟨fun a u h => ?_, k.ext.st, Nat.le_refl _, Nat.le_refl _, fun _ _ => rfl, fun i h1 h2 => absurd h1 (Nat.not_le.mpr h2), fun _ _ => rfl, k.ext.kp, fun b us h _ h2 => (upd_ne (ne_of_none h hF)).trans h2⟩, k.tb, rfl, rfl⟩
  have q : a ≠ p := fun q => by
    have z := (l.fz a u h).1
    rw [q, hF] at z
    cases z
  show upd R.F p o a = some u
  rw [upd_ne q]
  exact h
theorem Lies.fz1 {o : HO} (l : Lies G R s H) (hp : H p = none) (ho : ∀ ps, o ≠ .tbl ps) : Lies G (R.fz p o) s (upd H p o) := by
  have e := Ext.fzS (o := o) l hp
  refine ⟨l.nr, l.nc, fun a u h => ?_, fun i m h => ?_, l.inj⟩
  · have h : upd R.F p o a = some u := h
    by_cases q : a = p
    · rw [q, upd_same] at h
      cases h
      rw [q, upd_same]
      exact ⟨rfl, ho⟩
    · rw [upd_ne q] at h
      rw [upd_ne q]
      exact l.fz a u h
  · obtain ⟨h1, u, h2, h3⟩ := l.rf i m h
    have q := ne_of_none h2 hp
    exact ⟨(upd_ne q).trans h1, u, by rw [upd_ne q]; exact h2, h3.later e.ext l.f0⟩
/-- an object that stands already, tracked, no ref's and not frozen so far -/
theorem Lies.fz2 {o : HO} (l : Lies G R s H) (hp : H p = some o) (hF : R.F p = none) (hm : ∀ i, i < R.n → p ≠ R.μ i) (ho : ∀ ps, o ≠ .tbl ps) : Lies G (R.fz p o) s H := by
  have mono : ∀ {x : MV} {v : V}, True := fun {_ _} => trivial
  have le : ∀ a u, R.F a = some u → (R.fz p o).F a = some u := fun a u h => by
    have q : a ≠ p := fun q => by rw [q, hF] at h; cases h
    exact (upd_ne q).trans h
  have e : Ext R (fun a => R.F a) (R.fz p o) (fun a => R.F a) :=
    ⟨le, fun _ h => h, Nat.le_refl _, Nat.le_refl _, fun _ _ => rfl, fun i h1 h2 => absurd h1 (Nat.not_le.mpr h2), fun _ _ => rfl, fun _ _ h _ _ => h, fun b us h _ h2 => by rw [h2] at h; cases h⟩
  refine ⟨l.nr, l.nc, fun a u h => ?_, fun i m h => ?_, l.inj⟩
  · have h : upd R.F p o a = some u := h
    by_cases q : a = p
    · rw [q, upd_same] at h
      cases h
      rw [q]
      exact ⟨hp, ho⟩
    · rw [upd_ne q] at h
      exact l.fz a u h
  · obtain ⟨h1, u, h2, h3⟩ := l.rf i m h
    have hi : i < R.n := by rw [← l.nr]; exact (List.getElem?_eq_some_iff.mp h).1
    exact ⟨(upd_ne (Ne.symm (hm i hi))).trans h1, u, h2, h3.later e fun _ _ h => h⟩
theorem RelMs.fz {p : Addr} {o : HO} {xs : List MV} {us : List V} (r : RelMs G R xs us) (hF : R.F p = none) : RelMs G (R.fz p o) xs us := by
  have e : Ext R (fun a => R.F a) (R.fz p o) (fun a => R.F a) :=
    ⟨fun a u h => (upd_ne (fun q => by rw [q, hF] at h; cases h)).trans h, fun _ h => h, Nat.le_refl _, Nat.le_refl _, fun _ _ => rfl, fun i h1 h2 => absurd h1 (Nat.not_le.mpr h2), fun _ _ => rfl, fun _ _ h _ _ => h, fun b us h _ h2 => by rw [h2] at h; cases h⟩
  exact r.later e fun _ _ h => h
/-- with one ref more -/
abbrev RE.rf (R : RE) (p : Addr) : RE := { R with μ := fun i => if i = R.n then p else R.μ i, n := R.n + 1 }
theorem Ext.rfS {u : HO} (l : Lies G R s H) (hp : H p = none) : ExtS R H (R.rf p) (upd H p u) := by
  have k := Ext.keep (R := R) (H := H) (o := u) hp
  refine ⟨⟨fun _ _ h => h, k.ext.st, Nat.le_succ _, Nat.le_refl _, fun i h => if_neg (Nat.ne_of_lt h), fun i h1 h2 => ?_, fun _ _ => rfl, k.ext.kp, fun _ _ _ _ h => h⟩, k.tb, rfl, rfl⟩
  have q : i = R.n := Nat.le_antisymm (Nat.lt_succ_iff.mp h2) h1
  show H (if i = R.n then p else R.μ i) = none
  rw [if_pos q]; exact hp
theorem Lies.rf1 {o : MO} {u : HO} (l : Lies G R s H) (hp : H p = none) (r : RelO G R o u) : Lies G (R.rf p) { s with refs := s.refs ++ [o] } (upd H p u) := by
  have e := Ext.rfS (u := u) l hp
  have hpF : R.F p = none := by
    cases q : R.F p with
    | none => rfl
    | some x => have := (l.fz p x q).1; rw [hp] at this; cases this
  refine ⟨by simp [l.nr], l.nc, fun a w h => ⟨?_, (l.fz a w h).2⟩, fun i m h => ?_, fun i j hi hj q => ?_⟩
  · have := (l.fz a w h).1
    rw [upd_ne (ne_of_none this hp)]; exact this
  · by_cases q : i = R.n
    · subst q
      have h' : (s.refs ++ [o])[R.n]? = some m := h
      rw [← l.nr] at h'
      have : m = o := by simpa using h'.symm
      subst this
      have e1 : (R.rf p).μ R.n = p := if_pos rfl
      rw [e1]
      exact ⟨hpF, u, upd_same, r.later e.ext l.f0⟩
    · have hl : i < s.refs.length := by
        have := (List.getElem?_eq_some_iff.mp (show (s.refs ++ [o])[i]? = some m from h)).1
        rw [List.length_append, List.length_singleton] at this
        rw [l.nr] at this ⊢
        omega
      have h' : s.refs[i]? = some m := by rw [← List.getElem?_append_left hl (l₂ := [o])]; exact h
      obtain ⟨h1, w, h2, h3⟩ := l.rf i m h'
      have e1 : (R.rf p).μ i = R.μ i := if_neg q
      rw [e1]
      exact ⟨h1, w, by rw [upd_ne (ne_of_none h2 hp)]; exact h2, h3.later e.ext l.f0⟩
  · have z : ∀ k, k < R.n → R.μ k ≠ p := fun k hk q => l.there k hk (by rw [q]; exact hp)
    have hi' : i < R.n + 1 := hi
    have hj' : j < R.n + 1 := hj
    have q' : (if i = R.n then p else R.μ i) = (if j = R.n then p else R.μ j) := q
    by_cases a : i = R.n <;> by_cases b : j = R.n
    · omega
    · rw [if_pos a, if_neg b] at q'
      exact absurd q'.symm (z j (by omega))
    · rw [if_neg a, if_pos b] at q'
      exact absurd q' (z i (by omega))
    · rw [if_neg a, if_neg b] at q'
      exact l.inj i j (by omega) (by omega) q'
/-- a ref's object is written -/
theorem Ext.wrS {i : Nat} {u : HO} (l : Lies G R s H) (hi : i < R.n) : ExtS R H R (upd H (R.μ i) u) := by
  refine ⟨⟨fun _ _ h => h, fun a h => ?_, Nat.le_refl _, Nat.le_refl _, fun _ _ => rfl, fun j h1 h2 => absurd h1 (by omega), fun _ _ => rfl, fun b o h h1 _ => ?_, fun _ _ _ _ h => h⟩, fun b ps h => ?_, rfl, rfl⟩
  · by_cases q : a = R.μ i
    · rw [q, upd_same]; simp
    · rw [upd_ne q]; exact h
  · rw [upd_ne (h1 i hi)]; exact h
  · rw [upd_ne ?_]
    · exact h
    · intro q
      have hh : i < s.refs.length := by rw [l.nr]; exact hi
      obtain ⟨_, w, e, r⟩ := l.rf i s.refs[i] (by simp [hh])
      rw [← q, h] at e
      exact r.notbl ps (Option.some.inj e).symm
theorem Lies.wr1 {i : Nat} {o : MO} {u : HO} (l : Lies G R s H) (hi : i < R.n) (r : RelO G R o u) : Lies G R (setRef i o s) (upd H (R.μ i) u) := by
  refine ⟨by show (s.refs.set i o).length = _; rw [List.length_set]; exact l.nr, l.nc, fun a w h => ⟨?_, (l.fz a w h).2⟩, fun j m h => ?_, l.inj⟩
  · have q : a ≠ R.μ i := fun q => by rw [q, l.no hi] at h; cases h
    rw [upd_ne q]; exact (l.fz a w h).1
  · have hj : j < R.n := by
      have := (List.getElem?_eq_some_iff.mp (show (s.refs.set i o)[j]? = some m from h)).1
      rw [List.length_set, l.nr] at this; exact this
    have h : (s.refs.set i o)[j]? = some m := h
    by_cases q : j = i
    · subst q
      rw [List.getElem?_set_self (by rw [l.nr]; exact hj)] at h
      cases h
      exact ⟨l.no hj, u, upd_same, r⟩
    · rw [List.getElem?_set_ne (Ne.symm q)] at h
      obtain ⟨h1, w, h2, h3⟩ := l.rf j m h
      exact ⟨h1, w, by rw [upd_ne (fun z => q (l.inj j i hj hi z))]; exact h2, h3⟩

/-! ### what is read -/
theorem viewL_rel {v : MV} {x : V} {xs : List MV} (l : Lies G R s H) (r : RelM G R v x) (h : viewL s v = some xs) : ∃ a us, x = .ref a ∧ H a = some (.lst us) ∧ RelMs G R xs us := by
  cases r with
  | lst hF rs =>
    cases h
    exact ⟨_, _, rfl, (l.fz _ _ hF).1, rs⟩
  | @ref i hi =>
    dsimp only [viewL] at h
    cases q : s.refs[i]? with
    | none => rw [q] at h; cases h
    | some o =>
      rw [q] at h
      cases o with
      | lst ys =>
        cases h
        obtain ⟨_, u, e, ro⟩ := l.rf i _ q
        cases ro with
        | lst rs => exact ⟨_, _, rfl, e, rs⟩
      | dic _ _ => cases h
      | dead => cases h
  | _ => cases h
theorem viewQ_rel {v : MV} {x : V} {xs : List MV} (l : Lies G R s H) (r : RelM G R v x) (h : viewQ s v = some xs) : ∃ a us, x = .ref a ∧ (H a = some (.lst us) ∨ H a = some (.tup us)) ∧ RelMs G R xs us := by
  cases r with
  | tup hF rs =>
    cases h
    exact ⟨_, _, rfl, .inr (l.fz _ _ hF).1, rs⟩
  | lst hF rs =>
    cases h
    exact ⟨_, _, rfl, .inl (l.fz _ _ hF).1, rs⟩
  | ref hi =>
    obtain ⟨a, us, h1, h2, h3⟩ := viewL_rel l (.ref hi) h
    exact ⟨a, us, h1, .inl h2, h3⟩
  | _ => cases h
theorem viewD_rel {v : MV} {x : V} {ks : List MKey} {vs : List MV} (l : Lies G R s H) (r : RelM G R v x) (h : viewD s v = some (ks, vs)) :
    ∃ a kvs, x = .ref a ∧ H a = some (.dK kvs) ∧ ks = kvs.map (fun p => kM p.1) ∧ RelMs G R vs (kvs.map (·.2)) := by
  cases r with
  | dic hF k rs =>
    cases h
    exact ⟨_, _, rfl, (l.fz _ _ hF).1, k, rs⟩
  | @ref i hi =>
    dsimp only [viewD] at h
    cases q : s.refs[i]? with
    | none => rw [q] at h; cases h
    | some o =>
      rw [q] at h
      cases o with
      | dic _ _ =>
        cases h
        obtain ⟨_, u, e, ro⟩ := l.rf i _ q
        cases ro with
        | dic k rs => exact ⟨_, _, rfl, e, k, rs⟩
      | lst _ => cases h
      | dead => cases h
  | _ => cases h
theorem RelMs.length {xs : List MV} {us : List V} (r : RelMs G R xs us) : xs.length = us.length := by
  match xs, us, r with
  | _, _, .nil => rfl
  | _, _, .cons _ b => rw [List.length_cons, List.length_cons, RelMs.length b]
theorem RelMs.append {xs ys : List MV} {us ws : List V} (r : RelMs G R xs us) (q : RelMs G R ys ws) : RelMs G R (xs ++ ys) (us ++ ws) := by
  match xs, us, r with
  | _, _, .nil => exact q
  | _, _, .cons a b => exact .cons a (RelMs.append b q)
theorem RelMs.get {xs : List MV} {us : List V} (r : RelMs G R xs us) {i : Nat} {x : MV} (h : xs[i]? = some x) : ∃ u, us[i]? = some u ∧ RelM G R x u := by
  match xs, us, i, r with
  | _, _, _, .nil => simp at h
  | _, _, 0, .cons a b => simp at h; subst h; exact ⟨_, rfl, a⟩
  | _, _, i + 1, .cons a b => exact (RelMs.get b (i := i) (by simpa using h)).imp fun u hu => ⟨by simpa using hu.1, hu.2⟩
theorem RelMs.none {xs : List MV} {us : List V} (r : RelMs G R xs us) {i : Nat} (h : xs[i]? = Option.none) : us[i]? = Option.none := by
  rw [List.getElem?_eq_none_iff] at h ⊢
  rw [← r.length]; exact h
theorem RelMs.take {xs : List MV} {us : List V} (r : RelMs G R xs us) (k : Nat) : RelMs G R (xs.take k) (us.take k) := by
  match xs, us, k, r with
  | _, _, 0, _ => exact .nil
  | _, _, k + 1, .nil => exact .nil
  | _, _, k + 1, .cons a b => exact .cons a (RelMs.take b k)
theorem RelMs.drop {xs : List MV} {us : List V} (r : RelMs G R xs us) (k : Nat) : RelMs G R (xs.drop k) (us.drop k) := by
  match xs, us, k, r with
  | _, _, 0, r => exact r
  | _, _, k + 1, .nil => exact .nil
  | _, _, k + 1, .cons a b => exact RelMs.drop b k
theorem RelMs.set {xs : List MV} {us : List V} {x : MV} {u : V} (r : RelMs G R xs us) (q : RelM G R x u) (k : Nat) : RelMs G R (xs.set k x) (us.set k u) := by
  match xs, us, k, r with
  | _, _, 0, .nil => exact .nil
  | _, _, k + 1, .nil => exact .nil
  | _, _, 0, .cons a b => exact .cons q b
  | _, _, k + 1, .cons a b => exact .cons a (RelMs.set b q k)
theorem RelMs.erase {xs : List MV} {us : List V} (r : RelMs G R xs us) (k : Nat) : RelMs G R (xs.eraseIdx k) (us.eraseIdx k) := by
  match xs, us, k, r with
  | _, _, 0, .nil => exact .nil
  | _, _, k + 1, .nil => exact .nil
  | _, _, 0, .cons a b => exact b
  | _, _, k + 1, .cons a b => exact .cons a (RelMs.erase b k)
theorem RelMs.isEmpty {xs : List MV} {us : List V} (r : RelMs G R xs us) : us.isEmpty = xs.isEmpty := by
  match xs, us, r with
  | _, _, .nil => rfl
  | _, _, .cons _ _ => rfl

/-! ### value results -/
/-- what a step over values wants behind: the state s1 -/
def VQ (G : GI) (R : RE) (H : Hp) (z : MV) (s1 : MSt) (Q : VK) : Prop := ∀ R1 H1 b, ExtS R H R1 H1 → Lies G R1 s1 H1 → RelM G R1 z b → Q b H1
theorem Aft.vq {z : MV} {Q : VK} (S : Sim G X T R env s σ H) (hc : s1.cells = s.cells) (h : Aft G X T W R env σ H (RelM G) Q (.ok z s1)) : VQ G R H z s1 Q := fun R1 H1 b e l r => h R1 H1 b e.ext (S.lift e l hc) r
theorem ExtS.refl (R : RE) (H : Hp) : ExtS R H R H := ⟨Ext.refl R H, fun _ _ h => h, rfl, rfl⟩
theorem VQ.here {z : MV} {b : V} {Q : VK} (h : VQ G R H z s Q) (l : Lies G R s H) (r : RelM G R z b) : Q b H := h R H b (ExtS.refl R H) l r
/-- the new list, frozen or as a ref -/
theorem VQ.list {fl : Bool} {xs : List MV} {us : List V} {z : MV} {s1 : MSt} {Q : VK} (e : newL fl xs s = .ok z s1) (h : VQ G R H z s1 Q) (l : Lies G R s H) (r : RelMs G R xs us) : ∀ p, H p = none → Q (.ref p) (upd H p (.lst us)) := fun p hp => by
  have hF : R.F p = none := by
    cases q : R.F p with
    | none => rfl
    | some x => have := (l.fz p x q).1; rw [hp] at this; cases this
  cases fl with
  | false =>
    obtain ⟨rfl, rfl⟩ : .lst xs = z ∧ s = s1 := by have := Res.ok.inj e; exact this
    exact h _ _ _ (Ext.fzS l hp) (l.fz1 hp fun ps z => by cases z) (.lst upd_same (r.fz hF))
  | true =>
    obtain ⟨rfl, rfl⟩ : .ref s.refs.length = z ∧ { s with refs := s.refs ++ [MO.lst xs] } = s1 := by have := Res.ok.inj e; exact this
    have := h (R.rf p) _ (.ref p) (Ext.rfS l hp) (l.rf1 hp (.lst r))
    refine this ?_
    have q : (R.rf p).μ s.refs.length = p := if_pos l.nr
    have q2 := RelM.ref (G := G) (R := R.rf p) (i := s.refs.length) (by rw [l.nr]; exact Nat.lt_succ_self _)
    rw [q] at q2; exact q2
theorem VQ.dict {fl : Bool} {ks : List MKey} {vs : List MV} {kvs : List (Key × V)} {z : MV} {s1 : MSt} {Q : VK} (e : newD fl ks vs s = .ok z s1) (h : VQ G R H z s1 Q) (l : Lies G R s H) (hk : ks = kvs.map fun p => kM p.1) (r : RelMs G R vs (kvs.map (·.2))) :
    ∀ p, H p = none → Q (.ref p) (upd H p (.dK kvs)) := fun p hp => by
  have hF : R.F p = none := by
    cases q : R.F p with
    | none => rfl
    | some x => have := (l.fz p x q).1; rw [hp] at this; cases this
  cases fl with
  | false =>
    obtain ⟨rfl, rfl⟩ : .dic ks vs = z ∧ s = s1 := by have := Res.ok.inj e; exact this
    exact h _ _ _ (Ext.fzS l hp) (l.fz1 hp fun ps z => by cases z) (.dic upd_same hk (r.fz hF))
  | true =>
    obtain ⟨rfl, rfl⟩ : .ref s.refs.length = z ∧ { s with refs := s.refs ++ [MO.dic ks vs] } = s1 := by have := Res.ok.inj e; exact this
    have := h (R.rf p) _ (.ref p) (Ext.rfS l hp) (l.rf1 hp (.dic hk r))
    refine this ?_
    have q : (R.rf p).μ s.refs.length = p := if_pos l.nr
    have q2 := RelM.ref (G := G) (R := R.rf p) (i := s.refs.length) (by rw [l.nr]; exact Nat.lt_succ_self _)
    rw [q] at q2; exact q2
theorem VQ.tuple {xs : List MV} {us : List V} {Q : VK} (h : VQ G R H (.tup xs) s Q) (l : Lies G R s H) (r : RelMs G R xs us) : ∀ p, H p = none → Q (.ref p) (upd H p (.tup us)) := fun p hp => by
  have hF : R.F p = none := by
    cases q : R.F p with
    | none => rfl
    | some x => have := (l.fz p x q).1; rw [hp] at this; cases this
  exact h _ _ _ (Ext.fzS l hp) (l.fz1 hp fun ps z => by cases z) (.tup upd_same (r.fz hF))
end
end Dz

set_option maxRecDepth 100000
set_option maxHeartbeats 4000000
/-! Part F: operators, comparisons, subscripts by values. -/
namespace Dz
open PySem L2

theorem SZ_eq : SZ = sizeLine := by rw [sizeLine_eq]; rfl
/-- a dict of the module's top, by its texts -/
def WdOk (G : GI) (K : PySem.W.Frag) (w : World) : Prop := ∀ a ks vs, G.wd a ks vs → (∃ es n, KDict K w a es n) ∧
  ∀ z : List Nat, match lookK (.str z) ks vs with
    | some v => ∃ u0 v0, PySem.W.nsIn K a ⟨z.toArray⟩ = some (some u0) ∧ RelV v0 u0 ∧ ∀ R, RelM G R v v0
    | none => PySem.W.nsIn K a ⟨z.toArray⟩ = some none
theorem Res.ok_inj {α : Type} {a b : α} {s t : MSt} (h : Res.ok a s = Res.ok b t) : a = b ∧ s = t := by cases h; exact ⟨rfl, rfl⟩

section
variable {G : GI} {P : Prg} {X : Cx} {T : List (Addr × Str)} {W : WX} {R R1 : RE} {env : MEnv} {s s1 : MSt} {σ : St} {H H1 : Hp}

def rB (G : GI) (op : Operator) : R2 := fun x y H Q => ∃ R s v w z s1, Lies G R s H ∧ RelM G R v x ∧ RelM G R w y ∧ binV op v w s = .ok z s1 ∧ VQ G R H z s1 Q
theorem toA {x : Str} : (⟨x.cps.toList.toArray⟩ : Str) = x := by simp
theorem opr_bin (op : Operator) : OpR X (binaryOp op) (rB G op) := by
  intro pins sh σ H x y vx vy Q I rx ry ⟨R, s, v, w, z, s1, l, rv, rw', e, q⟩
  unfold binV at e
  split at e
  · obtain ⟨rfl, rfl⟩ := Res.ok_inj e
    cases rv
    cases rw'
    exact op_add pins sh σ H _ _ vx vy Q I rx ry ⟨_, _, rfl, rfl, q.here l (.int _)⟩
  · obtain ⟨rfl, rfl⟩ := Res.ok_inj e
    cases rv
    cases rw'
    exact op_sub pins sh σ H _ _ vx vy Q I rx ry ⟨_, _, rfl, rfl, q.here l (.int _)⟩
  · split at e
    · rename_i hb
      obtain ⟨rfl, rfl⟩ := Res.ok_inj e
      cases rv
      cases rw'
      exact op_mul pins sh σ H _ _ vx vy Q I rx ry ⟨_, _, rfl, rfl, (by unfold CMul; unfold P64 at hb; exact hb), q.here l (.int _)⟩
    · cases e
  · split at e
    · rename_i hb
      obtain ⟨rfl, rfl⟩ := Res.ok_inj e
      cases rv
      cases rw'
      exact op_fdivN pins sh σ H _ _ vx vy Q I rx ry ⟨_, _, rfl, rfl, hb, q.here l (.int _)⟩
    · cases e
  · split at e
    · rename_i hb
      obtain ⟨rfl, rfl⟩ := Res.ok_inj e
      cases rv
      cases rw'
      exact op_modN pins sh σ H _ _ vx vy Q I rx ry ⟨_, _, rfl, rfl, hb, q.here l (.int _)⟩
    · cases e
  · split at e
    · rename_i hb
      obtain ⟨rfl, rfl⟩ := Res.ok_inj e
      cases rv
      cases rw'
      exact op_pow pins sh σ H _ _ vx vy Q I rx ry ⟨_, _, rfl, rfl, hb, q.here l (.int _)⟩
    · cases e
  · split at e
    · rename_i hb
      obtain ⟨rfl, rfl⟩ := Res.ok_inj e
      cases rv
      cases rw'
      refine op_add_str pins sh σ H _ _ vx vy Q I rx ry ⟨_, _, rfl, rfl, (by rw [← SZ_eq]; exact hb), ?_⟩
      have r : ∀ i j : List Nat, (⟨i.toArray⟩ : Str) ++ ⟨j.toArray⟩ = ⟨(i ++ j).toArray⟩ := fun i j => by
        show (⟨i.toArray ++ j.toArray⟩ : Str) = _
        simp
      rw [r]
      exact q.here l (.str _)
    · cases e
  · split at e
    · rename_i hb
      obtain ⟨rfl, rfl⟩ := Res.ok_inj e
      cases rv with
      | tup hF rs =>
        cases rw' with
        | tup hG rt =>
          refine op_catA pins sh σ H _ _ vx vy Q I rx ry ⟨_, _, _, _, rfl, rfl, SqT.of (l.f0 _ _ hF), SqT.of (l.f0 _ _ hG), (by rw [← rs.length, ← rt.length, ← SZ_eq]; exact hb), fun h => ?_, fun _ h => ?_, fun _ _ => ?_⟩
          · subst h
            cases rs
            exact q.here l (.tup hG rt)
          · subst h
            cases rt
            rw [List.append_nil] at q
            exact q.here l (.tup hF rs)
          · exact q.tuple l (rs.append rt)
    · cases e
  · split at e
    · rename_i xs ys hx hy
      split at e
      · rename_i hb
        obtain ⟨a, us, rfl, ha, ra⟩ := viewL_rel l rv hx
        obtain ⟨b, ws, rfl, hb', rb⟩ := viewL_rel l rw' hy
        refine op_cat pins sh σ H _ _ vx vy Q I rx ry ⟨_, _, _, _, rfl, rfl, ha, hb', (by rw [← ra.length, ← rb.length, ← SZ_eq]; exact hb), ?_⟩
        exact VQ.list (fl := false) e q l (ra.append rb)
      · cases e
    · cases e
  · split at e
    · rename_i xs hx
      split at e
      · rename_i hb
        obtain ⟨a, us, rfl, ha, ra⟩ := viewL_rel l rv hx
        cases rw'
        refine op_rep pins sh σ H _ _ vx vy Q I rx ry ⟨_, _, _, rfl, rfl, ha, hb.1, hb.2.1, (by rw [← ra.length, ← SZ_eq]; exact hb.2.2), ?_⟩
        refine VQ.list (fl := false) e q l ?_
        have fl : ∀ k : Nat, RelMs G R (List.replicate k xs).flatten (List.replicate k us).flatten := fun k => by
          induction k with
          | zero => exact .nil
          | succ k ih => rw [List.replicate_succ, List.replicate_succ, List.flatten_cons, List.flatten_cons]; exact ra.append ih
        exact fl _
      · cases e
    · cases e
  · cases e

/-! ### == of data -/
mutual
def dataM : MV → PyData
  | .non => .none
  | .bl b => .bool b
  | .int i => .int i
  | .str x => .str ⟨x.toArray⟩
  | .tup xs => .tuple (dataMs xs)
  | .lst xs => .list (dataMs xs)
  | _ => .none
def dataMs : List MV → List PyData
  | [] => []
  | x :: r => dataM x :: dataMs r
end
theorem plain0 (v : MV) : plainM 0 v = false := by cases v <;> rfl
mutual
theorem dp_of {K : PySem.W.Frag} (l : Lies G R s H) : ∀ (k : Nat) (v : MV) (x : V), RelM G R v x → plainM k v = true → Dp K H x (dataM v)
  | 0, v, _, _, h => by rw [plain0] at h; cases h
  | _ + 1, .non, _, r, _ => by cases r; exact .non
  | _ + 1, .bl _, _, r, _ => by cases r; exact .bl _
  | _ + 1, .int _, _, r, _ => by cases r; exact .int _
  | _ + 1, .str _, _, r, _ => by cases r; exact .str _
  | k + 1, .tup xs, _, r, h => by
    cases r with
    | tup hF rs => exact .tup (SqT.of (l.f0 _ _ hF)) (dps_of l k xs _ rs h)
  | k + 1, .lst xs, _, r, h => by
    cases r with
    | lst hF rs => exact .lst (SqL.of (l.f0 _ _ hF)) (dps_of l k xs _ rs h)
  | _ + 1, .dic _ _, _, _, h => by cases h
  | _ + 1, .wdi _ _, _, _, h => by cases h
  | _ + 1, .fn _, _, _, h => by cases h
  | _ + 1, .clo _ _, _, _, h => by cases h
  | _ + 1, .ref _, _, _, h => by cases h
  | _ + 1, .exc _ _, _, _, h => by cases h
theorem dps_of {K : PySem.W.Frag} (l : Lies G R s H) : ∀ (k : Nat) (vs : List MV) (xs : List V), RelMs G R vs xs → plainMs k vs = true → DpAll K H xs (dataMs vs)
  | _, [], _, r, _ => by cases r; exact .nil
  | k, v :: vs, _, r, h => by
    cases r with
    | cons a b =>
      unfold plainMs at h
      rw [Bool.and_eq_true] at h
      exact .cons (dp_of l k v _ a h.1) (dps_of l k vs _ b h.2)
end
mutual
theorem eqv_of : ∀ (k : Nat) (v w : MV), plainM k v = true → (∃ j, plainM j w = true) → PyData.eqv (dataM v) (dataM w) = eqB v w
  | 0, v, _, h, _ => by rw [plain0] at h; cases h
  | k + 1, v, w, h, ⟨j, hj⟩ => by
    cases j with
    | zero => rw [plain0] at hj; cases hj
    | succ j =>
    cases v <;> (try cases h) <;> cases w <;> (try cases hj) <;> try rfl
    · rename_i a b
      show (Str.mk a.toArray == Str.mk b.toArray) = (a == b)
      rw [Bool.eq_iff_iff]
      simp
    · rename_i xs ys
      exact eqvs_of k xs ys h ⟨j, hj⟩
    · rename_i xs ys
      exact eqvs_of k xs ys h ⟨j, hj⟩
theorem eqvs_of : ∀ (k : Nat) (vs ws : List MV), plainMs k vs = true → (∃ j, plainMs j ws = true) → PyData.eqvAll (dataMs vs) (dataMs ws) = eqBs vs ws
  | _, [], [], _, _ => rfl
  | _, [], _ :: _, _, _ => rfl
  | _, _ :: _, [], _, _ => rfl
  | k, v :: vs, w :: ws, h, ⟨j, hj⟩ => by
    unfold plainMs at h hj
    rw [Bool.and_eq_true] at h hj
    show (PyData.eqv (dataM v) (dataM w) && PyData.eqvAll (dataMs vs) (dataMs ws)) = (eqB v w && eqBs vs ws)
    rw [eqv_of k v w h.1 ⟨j, hj.1⟩, eqvs_of k vs ws h.2 ⟨j, hj.2⟩]
end
mutual
theorem lay_of : ∀ (k : Nat) (v : MV), plainM k v = true → PyData.canLay0 (dataM v) = true ∧ PyData.depth (dataM v) ≤ k
  | 0, v, h => by rw [plain0] at h; cases h
  | k + 1, v, h => by
    cases v <;> (try cases h) <;> first
      | exact ⟨rfl, by first | (simp [dataM, PyData.depth]; done) | (simp only [dataM, PyData.depth]; omega)⟩
      | skip
    · rename_i x
      refine ⟨?_, by first | (simp [dataM, PyData.depth]; done) | (simp only [dataM, PyData.depth]; omega)⟩
      show PyData.strOk ⟨x.toArray⟩ = true
      have h : x.all (· < 1114112) = true := h
      unfold PyData.strOk
      simpa using h
    · rename_i xs
      obtain ⟨a, b⟩ := lays_of k xs h
      exact ⟨a, by simp only [dataM, PyData.depth]; omega⟩
    · rename_i xs
      obtain ⟨a, b⟩ := lays_of k xs h
      exact ⟨a, by simp only [dataM, PyData.depth]; omega⟩
theorem lays_of : ∀ (k : Nat) (vs : List MV), plainMs k vs = true → PyData.canLayAll0 (dataMs vs) = true ∧ PyData.depthAll (dataMs vs) ≤ k
  | _, [], _ => ⟨rfl, by simp [dataMs, PyData.depthAll]⟩
  | k, v :: vs, h => by
    unfold plainMs at h
    rw [Bool.and_eq_true] at h
    obtain ⟨a, b⟩ := lay_of k v h.1
    obtain ⟨c, d⟩ := lays_of k vs h.2
    refine ⟨?_, by simp only [dataMs, PyData.depthAll]; omega⟩
    show (PyData.canLay0 (dataM v) && PyData.canLayAll0 (dataMs vs)) = true
    rw [a, c]; rfl
end

/-! ### comparisons -/
def rC (G : GI) (op : CmpOp) : R2 := fun x y H Q => ∃ R s v w b, Lies G R s H ∧ RelM G R v x ∧ RelM G R w y ∧ cmpV op v w s = some b ∧ Q (.bl b) H
theorem scal_of {v w : MV} {x y : V} (rv : RelM G R v x) (rw' : RelM G R w y) (h : scalM v w = true) : scal x y = true ∧ decide (x = y) = eqB v w := by
  cases v <;> (try cases h) <;> cases w <;> (try cases h) <;> cases rv <;> cases rw' <;> refine ⟨rfl, ?_⟩ <;> first | rfl | (simp only [eqB]; rw [Bool.eq_iff_iff]; simp; done) | (simp [eqB]; done)
theorem opr_eq (hu : X.A.units + 64 < cLine) : OpR X (compareOp .Eq) (fun x y H Q => ∃ R s v w b, Lies G R s H ∧ RelM G R v x ∧ RelM G R w y ∧ eqM s v w = some b ∧ Q (.bl b) H) := by
  intro pins sh σ H x y vx vy Q I rx ry ⟨R, s, v, w, b, l, rv, rw', e, q⟩
  unfold eqM at e
  split at e
  · rename_i hs
    cases e
    obtain ⟨h1, h2⟩ := scal_of rv rw' hs
    exact op_eq pins sh σ H x y vx vy Q I rx ry ⟨h1, by rw [h2]; exact q⟩
  · split at e
    · rename_i xs ys hx hy
      split at e
      · rename_i hp
        cases e
        rw [Bool.and_eq_true] at hp
        obtain ⟨a, us, rfl, ha, ra⟩ := viewL_rel l rv hx
        obtain ⟨b, ws, rfl, hb, rb⟩ := viewL_rel l rw' hy
        obtain ⟨c1, d1⟩ := lays_of _ _ hp.1
        obtain ⟨c2, d2⟩ := lays_of _ _ hp.2
        refine op_eqD hu pins sh σ H _ _ vx vy Q I rx ry ⟨.list (dataMs xs), .list (dataMs ys), .lst (SqL.of ha) (dps_of l _ _ _ ra hp.1), .lst (SqL.of hb) (dps_of l _ _ _ rb hp.2), ?_, ?_, ?_⟩
        · show (PyData.canLayAll0 (dataMs xs) && decide (PyData.depth (.list (dataMs xs)) ≤ 64)) = true
          rw [c1, Bool.true_and]
          exact decide_eq_true (by simp only [PyData.depth]; omega)
        · show (PyData.canLayAll0 (dataMs ys) && decide (PyData.depth (.list (dataMs ys)) ≤ 64)) = true
          rw [c2, Bool.true_and]
          exact decide_eq_true (by simp only [PyData.depth]; omega)
        · show Q (.bl (PyData.eqvAll (dataMs xs) (dataMs ys))) H
          rw [eqvs_of _ _ _ hp.1 ⟨_, hp.2⟩]; exact q
      · cases e
    · split at e
      · rename_i hp
        cases e
        rw [Bool.and_eq_true] at hp
        obtain ⟨c1, d1⟩ := lay_of _ _ hp.1
        obtain ⟨c2, d2⟩ := lay_of _ _ hp.2
        refine op_eqD hu pins sh σ H _ _ vx vy Q I rx ry ⟨dataM v, dataM w, dp_of l _ _ _ rv hp.1, dp_of l _ _ _ rw' hp.2, ?_, ?_, ?_⟩
        · show (PyData.canLay0 (dataM v) && decide (PyData.depth (dataM v) ≤ 64)) = true
          rw [c1, Bool.true_and]
          exact decide_eq_true (by omega)
        · show (PyData.canLay0 (dataM w) && decide (PyData.depth (dataM w) ≤ 64)) = true
          rw [c2, Bool.true_and]
          exact decide_eq_true (by omega)
        · rw [eqv_of _ _ _ hp.1 ⟨_, hp.2⟩]; exact q
      · cases e
theorem opr_ne (hu : X.A.units + 64 < cLine) : OpR X (compareOp .NotEq) (fun x y H Q => ∃ R s v w b, Lies G R s H ∧ RelM G R v x ∧ RelM G R w y ∧ eqM s v w = some b ∧ Q (.bl (!b)) H) := by
  intro pins sh σ H x y vx vy Q I rx ry ⟨R, s, v, w, b, l, rv, rw', e, q⟩
  unfold eqM at e
  split at e
  · rename_i hs
    cases e
    obtain ⟨h1, h2⟩ := scal_of rv rw' hs
    exact op_ne pins sh σ H x y vx vy Q I rx ry ⟨h1, by rw [h2]; exact q⟩
  · split at e
    · rename_i xs ys hx hy
      split at e
      · rename_i hp
        cases e
        rw [Bool.and_eq_true] at hp
        obtain ⟨a, us, rfl, ha, ra⟩ := viewL_rel l rv hx
        obtain ⟨b, ws, rfl, hb, rb⟩ := viewL_rel l rw' hy
        obtain ⟨c1, d1⟩ := lays_of _ _ hp.1
        obtain ⟨c2, d2⟩ := lays_of _ _ hp.2
        refine op_neD hu pins sh σ H _ _ vx vy Q I rx ry ⟨.list (dataMs xs), .list (dataMs ys), .lst (SqL.of ha) (dps_of l _ _ _ ra hp.1), .lst (SqL.of hb) (dps_of l _ _ _ rb hp.2), ?_, ?_, ?_⟩
        · show (PyData.canLayAll0 (dataMs xs) && decide (PyData.depth (.list (dataMs xs)) ≤ 64)) = true
          rw [c1, Bool.true_and]
          exact decide_eq_true (by simp only [PyData.depth]; omega)
        · show (PyData.canLayAll0 (dataMs ys) && decide (PyData.depth (.list (dataMs ys)) ≤ 64)) = true
          rw [c2, Bool.true_and]
          exact decide_eq_true (by simp only [PyData.depth]; omega)
        · show Q (.bl (!PyData.eqvAll (dataMs xs) (dataMs ys))) H
          rw [eqvs_of _ _ _ hp.1 ⟨_, hp.2⟩]; exact q
      · cases e
    · split at e
      · rename_i hp
        cases e
        rw [Bool.and_eq_true] at hp
        obtain ⟨c1, d1⟩ := lay_of _ _ hp.1
        obtain ⟨c2, d2⟩ := lay_of _ _ hp.2
        refine op_neD hu pins sh σ H _ _ vx vy Q I rx ry ⟨dataM v, dataM w, dp_of l _ _ _ rv hp.1, dp_of l _ _ _ rw' hp.2, ?_, ?_, ?_⟩
        · show (PyData.canLay0 (dataM v) && decide (PyData.depth (dataM v) ≤ 64)) = true
          rw [c1, Bool.true_and]
          exact decide_eq_true (by omega)
        · show (PyData.canLay0 (dataM w) && decide (PyData.depth (dataM w) ≤ 64)) = true
          rw [c2, Bool.true_and]
          exact decide_eq_true (by omega)
        · rw [eqv_of _ _ _ hp.1 ⟨_, hp.2⟩]; exact q
      · cases e
theorem flat_of {v : MV} {x : V} (r : RelM G R v x) (h : flatM v = true) : flatV x = true := by
  cases v <;> (try cases h) <;> cases r <;> rfl
theorem flats_of {vs : List MV} {xs : List V} (r : RelMs G R vs xs) (h : vs.all flatM = true) : xs.all flatV = true := by
  match vs, xs, r with
  | _, _, .nil => rfl
  | _, _, .cons a b =>
    rw [List.all_cons, Bool.and_eq_true] at h
    rw [List.all_cons, flat_of a h.1, flats_of b h.2]; rfl
theorem eqV_of {v w : MV} {x y : V} (rv : RelM G R v x) (rw' : RelM G R w y) (h1 : flatM v = true) (h2 : flatM w = true) : eqV x y = eqB v w := by
  cases v <;> (try cases h1) <;> cases w <;> (try cases h2) <;> cases rv <;> cases rw' <;> first
    | rfl
    | (show (Str.mk _ == Str.mk _) = (_ == _); rw [Bool.eq_iff_iff]; simp)
theorem inV_of {v : MV} {x : V} {vs : List MV} {xs : List V} (rv : RelM G R v x) (rs : RelMs G R vs xs) (h1 : flatM v = true) (h2 : vs.all flatM = true) : inV x xs = vs.any fun y => eqB y v := by
  match vs, xs, rs with
  | _, _, .nil => rfl
  | _, _, .cons a b =>
    rw [List.all_cons, Bool.and_eq_true] at h2
    have q := inV_of rv b h1 h2.2
    unfold inV at q ⊢
    rw [List.any_cons, List.any_cons, q, eqV_of a rv h2.1 h1]
theorem beq_kM (a b : Key) : MKey.beq (kM a) (kM b) = decide (a = b) := by
  cases a <;> cases b
  · rename_i i j
    show (i == j) = _
    rw [Bool.eq_iff_iff]; simp
  · exact (decide_eq_false (fun q => nomatch q)).symm
  · exact (decide_eq_false (fun q => nomatch q)).symm
  · rename_i x y
    show (x.cps.toList == y.cps.toList) = _
    rw [Bool.eq_iff_iff]
    cases x
    cases y
    simp
theorem key_of {v : MV} {x : V} {k : MKey} (r : RelM G R v x) (h : keyOf v = some k) : ∃ q, x = kV q ∧ k = kM q := by
  cases v <;> (try cases h) <;> cases r
  · exact ⟨.inl _, rfl, rfl⟩
  · exact ⟨.inr _, rfl, by simp [kM]⟩
theorem look_val {kvs : List (Key × V)} {vs : List MV} (r : RelMs G R vs (kvs.map (·.2))) (q : Key) :
    (∀ v, lookK (kM q) (kvs.map fun p => kM p.1) vs = some v → ∃ u, valV kvs q = some u ∧ RelM G R v u) ∧ (lookK (kM q) (kvs.map fun p => kM p.1) vs = none → valV kvs q = none) ∧
    ((kvs.map fun p => kM p.1).any (MKey.beq · (kM q)) = (valV kvs q).isSome) := by
  induction kvs generalizing vs with
  | nil =>
    cases r
    exact ⟨fun v h => (by cases h), fun _ => rfl, rfl⟩
  | cons p kvs ih =>
    match vs, r with
    | _, .cons (x := v) (xs := vs) a b =>
      obtain ⟨i1, i2, i3⟩ := ih b
      have hk : MKey.beq (kM p.1) (kM q) = decide (p.1 = q) := beq_kM _ _
      have hv : valV (p :: kvs) q = if p.1 = q then some p.2 else valV kvs q := by
        unfold valV
        by_cases e : p.1 = q
        · rw [List.find?_cons_of_pos (by simpa using e), if_pos e]; rfl
        · rw [List.find?_cons_of_neg (by simpa using e), if_neg e]
      rw [hv]
      simp only [List.map_cons, lookK, List.any_cons, hk]
      by_cases e : p.1 = q
      · simp only [e, decide_true, if_true, Bool.true_or]
        exact ⟨fun w hw => ⟨p.2, rfl, by cases hw; exact a⟩, fun hw => (by cases hw), rfl⟩
      · simp only [e, decide_false, if_false, Bool.false_or, Bool.false_eq_true]
        exact ⟨i1, i2, i3⟩
end
end Dz

set_option maxRecDepth 100000
set_option maxHeartbeats 4000000
/-! Part G: comparisons, subscripts, slices, built-ins by values. -/
namespace Dz
open PySem L2

section
variable {G : GI} {P : Prg} {X : Cx} {T : List (Addr × Str)} {W : WX} {R R1 : RE} {env : MEnv} {s s1 : MSt} {σ : St} {H H1 : Hp}

theorem inS_of (c : Nat) (z : List Nat) : inS c z = decide (c ∈ (Str.mk z.toArray).cps.toList) := by
  unfold inS
  rw [Bool.eq_iff_iff]
  simp
theorem opr_cmp (hu : X.A.units + 64 < cLine) (wd : WdOk G X.K X.w) (op : CmpOp) : OpR X (compareOp op) (rC G op) := by
  intro pins sh σ H x y vx vy Q I rx ry ⟨R, s, v, w, b, l, rv, rw', e, q⟩
  unfold cmpV at e
  split at e
  · cases e; cases rv; cases rw'
    exact op_lt pins sh σ H _ _ vx vy Q I rx ry ⟨_, _, rfl, rfl, q⟩
  · cases e; cases rv; cases rw'
    exact op_le pins sh σ H _ _ vx vy Q I rx ry ⟨_, _, rfl, rfl, q⟩
  · cases e; cases rv; cases rw'
    exact op_gt pins sh σ H _ _ vx vy Q I rx ry ⟨_, _, rfl, rfl, q⟩
  · cases e; cases rv; cases rw'
    exact op_ge pins sh σ H _ _ vx vy Q I rx ry ⟨_, _, rfl, rfl, q⟩
  · exact opr_eq hu pins sh σ H _ _ vx vy Q I rx ry ⟨R, s, _, _, b, l, rv, rw', e, q⟩
  · obtain ⟨c, hc, ec⟩ := Option.map_eq_some_iff.mp e
    exact opr_ne hu pins sh σ H _ _ vx vy Q I rx ry ⟨R, s, _, _, c, l, rv, rw', hc, by rw [ec]; exact q⟩
  · cases e; cases rv; cases rw'
    exact op_in_sign pins sh σ H _ _ vx vy Q I rx ry ⟨_, _, rfl, rfl, by rw [← inS_of]; exact q⟩
  · cases e; cases rv; cases rw'
    exact op_notIn_sign pins sh σ H _ _ vx vy Q I rx ry ⟨_, _, rfl, rfl, by rw [← inS_of]; exact q⟩
  · rename_i z ks vs
    cases e; cases rv
    cases rw' with
    | @wd _ _ a hw =>
      obtain ⟨⟨es, n, kd⟩, hz⟩ := wd a ks vs hw
      have h := hz z
      cases lk : lookK (.str z) ks vs with
      | some u =>
        rw [lk] at h q
        obtain ⟨u0, v0, h1, _⟩ := h
        exact op_in_kd kd pins sh σ H _ _ vx vy Q I rx ry ⟨_, _, rfl, rfl, h1, q⟩
      | none =>
        rw [lk] at h q
        exact op_in_kd kd pins sh σ H _ _ vx vy Q I rx ry ⟨_, _, rfl, rfl, h, q⟩
  · rename_i z ks vs
    cases e; cases rv
    cases rw' with
    | @wd _ _ a hw =>
      obtain ⟨⟨es, n, kd⟩, hz⟩ := wd a ks vs hw
      have h := hz z
      cases lk : lookK (.str z) ks vs with
      | some u =>
        rw [lk] at h q
        obtain ⟨u0, v0, h1, _⟩ := h
        exact op_notIn_kd kd pins sh σ H _ _ vx vy Q I rx ry ⟨_, _, rfl, rfl, h1, q⟩
      | none =>
        rw [lk] at h q
        exact op_notIn_kd kd pins sh σ H _ _ vx vy Q I rx ry ⟨_, _, rfl, rfl, h, q⟩
  · split at e
    · rename_i xs hx
      unfold inQ at e
      split at e
      · rename_i hf
        cases e
        rw [Bool.and_eq_true] at hf
        obtain ⟨a, us, rfl, ha, ra⟩ := viewQ_rel l rw' hx
        exact op_in_seq pins sh σ H _ _ vx vy Q I rx ry ⟨a, us, rfl, ha.imp SqL.of SqT.of, flat_of rv hf.1, flats_of ra hf.2, by rw [if_neg Bool.false_ne_true, inV_of rv ra hf.1 hf.2]; exact q⟩
      · cases e
    · split at e
      · rename_i ks vs k hd hk
        cases e
        obtain ⟨a, kvs, rfl, ha, rfl, ra⟩ := viewD_rel l rw' hd
        obtain ⟨kk, rfl, rfl⟩ := key_of rv hk
        rw [(look_val ra kk).2.2] at q
        obtain rfl : vy = Value.ref a := ry
        exact d_in (by omega) I (DGet.k ha) rx fun s3 I3 => ⟨.bl _, H, I3, rfl, q⟩
      · cases e
  · split at e
    · rename_i xs hx
      unfold inQ at e
      split at e
      · rename_i hf
        rw [Bool.and_eq_true] at hf
        obtain ⟨c, hc, ec⟩ := Option.map_eq_some_iff.mp e
        cases hc
        obtain ⟨a, us, rfl, ha, ra⟩ := viewQ_rel l rw' hx
        exact op_notIn_seq pins sh σ H _ _ vx vy Q I rx ry ⟨a, us, rfl, ha.imp SqL.of SqT.of, flat_of rv hf.1, flats_of ra hf.2, by rw [if_pos rfl, inV_of rv ra hf.1 hf.2, ec]; exact q⟩
      · cases e
    · split at e
      · rename_i ks vs k hd hk
        cases e
        obtain ⟨a, kvs, rfl, ha, rfl, ra⟩ := viewD_rel l rw' hd
        obtain ⟨kk, rfl, rfl⟩ := key_of rv hk
        rw [(look_val ra kk).2.2] at q
        obtain rfl : vy = Value.ref a := ry
        exact d_notIn (by omega) I (DGet.k ha) rx fun s3 I3 => ⟨.bl _, H, I3, rfl, q⟩
      · cases e
  · cases e

/-! ### subscripts -/
theorem RelMs.atI {xs : List MV} {us : List V} (r : RelMs G R xs us) {i : Int} {x : MV} (h : L2.atI xs i = some x) : ∃ u, L2.atI us i = some u ∧ RelM G R x u := by
  unfold L2.atI at h ⊢
  rw [← r.length]
  cases e : ixN xs.length i with
  | none => rw [e] at h; cases h
  | some j =>
    rw [e] at h
    exact r.get (i := j) h
theorem ix_dK (hu : X.A.units + 1 < cLine) : IxR X (fun x y H Q => ∃ a v, x = .ref a ∧ DGet H a y (some v) ∧ Q v H) := by
  intro value slice pins s σ H x y v u Q I rx ry ⟨a, z, ex, g, q⟩ hs
  subst ex
  obtain rfl : v = Value.ref a := rx
  exact PyProof.Rows.tail_any (dict_typeIs I g) PySem.F.slot_dict_getitem.lookup (d_getItem hu I g ry fun w' s3 I3 rw' => ⟨z, H, I3, rw', q⟩) hs
def rI (G : GI) : R2 := fun x y H Q => ∃ R s v w z, Lies G R s H ∧ RelM G R v x ∧ RelM G R w y ∧ subV v w s = some z ∧ VQ G R H z s Q
theorem ixr (hu : X.A.units + 64 < cLine) (wd : WdOk G X.K X.w) : IxR X (rI G) := by
  intro value slice pins sh σ H x y vx vy Q I rx ry ⟨R, s, v, w, z, l, rv, rw', e, q⟩ hs
  unfold subV at e
  split at e
  · rename_i ks vs z'
    cases rw'
    cases rv with
    | @wd _ _ a hw =>
      obtain ⟨⟨es, n, kd⟩, hz⟩ := wd a ks vs hw
      have h := hz z'
      rw [e] at h
      obtain ⟨u0, v0, h1, h2, h3⟩ := h
      refine ix_kdict value slice pins sh σ H _ _ vx vy Q I rx ry ⟨a, _, v0, rfl, rfl, ⟨es, n, u0, kd.at_, kd.lit, h1, h2⟩, q.here l (h3 R)⟩ hs
  · rename_i x' k
    split at e
    · rename_i hz
      obtain ⟨c, hc, rfl⟩ := Option.map_eq_some_iff.mp e
      cases rv
      cases rw'
      refine ix_str value slice pins sh σ H _ _ vx vy Q I rx ry ⟨_, _, c, rfl, rfl, ?_, ?_, ?_⟩ hs
      · show x'.toArray.size ≤ _
        rw [List.size_toArray, ← SZ_eq]; exact hz
      · show L2.atI x'.toArray.toList _ = _
        simpa using hc
      · have := RelM.str (G := G) (R := R) [c]
        exact q.here l this
    · cases e
  · split at e
    · rename_i xs hx
      split at e
      · rename_i k
        obtain ⟨a, us, rfl, ha, ra⟩ := viewQ_rel l rv hx
        obtain ⟨u, h1, h2⟩ := ra.atI e
        cases rw'
        rcases ha with ha | ha
        · exact ix_list value slice pins sh σ H _ _ vx vy Q I rx ry ⟨a, us, _, u, rfl, rfl, SqL.of ha, h1, q.here l h2⟩ hs
        · exact ix_tup value slice pins sh σ H _ _ vx vy Q I rx ry ⟨a, us, _, u, rfl, rfl, SqT.of ha, h1, q.here l h2⟩ hs
      · cases e
    · split at e
      · rename_i ks vs k hd hk
        obtain ⟨a, kvs, rfl, ha, rfl, ra⟩ := viewD_rel l rv hd
        obtain ⟨kk, rfl, rfl⟩ := key_of rw' hk
        obtain ⟨u, h1, h2⟩ := (look_val ra kk).1 z e
        have g := DGet.k (k := kk) ha
        rw [h1] at g
        exact ix_dK (by omega) value slice pins sh σ H _ _ vx vy Q I rx ry ⟨a, u, rfl, g, q.here l h2⟩ hs
      · cases e

/-! ### slices -/
theorem RelMs.cut {xs : List MV} {us : List V} (r : RelMs G R xs us) (lo hi : Option Int) : RelMs G R (cutM xs lo hi) (cutV us lo hi) := by
  unfold cutM cutV
  rw [r.length]
  exact (r.drop _).take _
def rS (G : GI) (fl : Bool) : V → Option Int → Option Int → Hp → VK → Prop := fun x lo hi H Q => ∃ R s v z s1, Lies G R s H ∧ RelM G R v x ∧ slcV fl v lo hi s = .ok z s1 ∧ VQ G R H z s1 Q
theorem slr (fl : Bool) : SlR X (rS G fl) := by
  intro pins sh σ H x vx vl vu lo hi sl Q I rx hs pl pu ⟨R, s, v, z, s1, l, rv, e, q⟩
  unfold slcV at e
  split at e
  · rename_i x'
    split at e
    · rename_i hz
      obtain ⟨rfl, rfl⟩ := Res.ok_inj e
      cases rv
      refine sl_str pins sh σ H _ vx vl vu lo hi sl Q I rx hs pl pu ⟨_, rfl, ?_, ?_⟩
      · show x'.toArray.size ≤ _
        rw [List.size_toArray, ← SZ_eq]; exact hz
      · have : cutS ⟨x'.toArray⟩ lo hi = ⟨(cutM x' lo hi).toArray⟩ := by
          unfold cutS cutM
          show Str.mk ((x'.toArray.toList.drop (HT.sIx x'.toArray.size 0 lo)).take (HT.sIx x'.toArray.size x'.toArray.size hi - HT.sIx x'.toArray.size 0 lo)).toArray = _
          simp
        rw [this]
        exact q.here l (.str _)
    · cases e
  · rename_i xs
    cases rv with
    | @tup _ a us hF rs =>
      split at e
      · rename_i hw
        obtain ⟨rfl, rfl⟩ := Res.ok_inj e
        refine sl_tup pins sh σ H _ vx vl vu lo hi sl Q I rx hs pl pu ⟨a, us, rfl, SqT.of (l.f0 _ _ hF), by rw [← rs.length]; exact hw, q.tuple l (rs.cut lo hi)⟩
      · cases e
  · split at e
    · rename_i xs hx
      obtain ⟨a, us, rfl, ha, ra⟩ := viewL_rel l rv hx
      exact sl_list pins sh σ H _ vx vl vu lo hi sl Q I rx hs pl pu ⟨a, us, rfl, SqL.of ha, VQ.list e q l (ra.cut lo hi)⟩
    · cases e

/-! ### truth, isinstance -/
theorem tru_of {v : MV} {x : V} {b : Bool} {K : PySem.W.Frag} (l : Lies G R s H) (r : RelM G R v x) (h : truM s v = some b) : TruV K x H b := by
  have ref : ∀ {v : MV} {x : V}, RelM G R v x → (match viewQ s v with
    | some xs => some (!xs.isEmpty)
    | none => match viewD s v with
      | some (ks, _) => some (!ks.isEmpty)
      | none => none) = some b → TruV K x H b := by
    intro v x r h
    split at h
    · rename_i xs hx
      cases h
      obtain ⟨a, us, rfl, ha, ra⟩ := viewQ_rel l r hx
      rcases ha with ha | ha
      · exact .inl ⟨us, SqL.of ha, by rw [ra.isEmpty]⟩
      · exact .inr (.inl ⟨us, SqT.of ha, by rw [ra.isEmpty]⟩)
    · split at h
      · rename_i ks vs hd
        cases h
        obtain ⟨a, kvs, rfl, ha, rfl, ra⟩ := viewD_rel l r hd
        exact .inr (.inr ⟨kvs, ha, by cases kvs <;> rfl⟩)
      · cases h
  cases r with
  | non => cases h; rfl
  | bl c => cases h; rfl
  | int i => cases h; rfl
  | str z =>
    have h : (if z.length ≤ SZ then some (!z.isEmpty) else none) = some b := h
    split at h
    · rename_i hz
      cases h
      refine ⟨?_, ?_⟩
      · show z.toArray.size ≤ _
        rw [List.size_toArray, ← SZ_eq]; exact hz
      · show (!z.isEmpty) = (((z.toArray.size : Nat) : Int) != 0)
        cases z with
        | nil => rfl
        | cons c r =>
          have : ((r.length : Int) + 1 != 0) = true := by
            rw [bne_iff_ne]; omega
          simpa using this
    · cases h
  | tup a b => exact ref (.tup a b) h
  | lst a b => exact ref (.lst a b) h
  | dic a b c => exact ref (.dic a b c) h
  | wd a => exact ref (.wd a) h
  | fn a => exact ref (.fn a) h
  | clo a b c d => exact ref (.clo a b c d) h
  | ref a => exact ref (.ref a) h
end
end Dz

set_option maxRecDepth 100000
set_option maxHeartbeats 4000000
/-! Part H: expressions. -/
namespace Dz
open PySem L2

section
variable {G : GI} {P : Prg} {X : Cx} {T : List (Addr × Str)} {W : WX} {R R1 : RE} {env : MEnv} {s s1 : MSt} {σ : St} {H H1 : Hp} {n : Nat}

theorem tE.mono {m : ME} {Q Q' : VK} (h : tE G P X T W n m σ H Q) (q : ∀ u H1, Q u H1 → Q' u H1) : tE G P X T W n m σ H Q' := let ⟨R, env, s, S, k⟩ := h; ⟨R, env, s, S, k.imp q⟩
theorem tT.mono {m : ME} {Q Q' : Bool → Hp → Prop} (h : tT G P X T W n m σ H Q) (q : ∀ u H1, Q u H1 → Q' u H1) : tT G P X T W n m σ H Q' := let ⟨R, env, s, S, k⟩ := h; ⟨R, env, s, S, k.imp q⟩
theorem tA.mono {ms : List ME} {Q Q' : List V → Hp → Prop} (h : tA G P X T W n ms σ H Q) (q : ∀ u H1, Q u H1 → Q' u H1) : tA G P X T W n ms σ H Q' := let ⟨R, env, s, S, k⟩ := h; ⟨R, env, s, S, k.imp q⟩

/-- a value result that keeps the cells -/
def Vok (s : MSt) (r : Res MV) : Prop := (∃ z s1, r = .ok z s1 ∧ s1.cells = s.cells) ∨ r = .bad
theorem Vok.use {r : Res MV} {Q : VK} (v : Vok s r) (S : Sim G X T R env s σ H) (h : Aft G X T W R env σ H (RelM G) Q r) : ∃ z s1, r = .ok z s1 ∧ VQ G R H z s1 Q := by
  rcases v with ⟨z, s1, rfl, hc⟩ | rfl
  · exact ⟨z, s1, rfl, Aft.vq S hc h⟩
  · exact h.elim
theorem newL_ok (fl : Bool) (xs : List MV) (s : MSt) : Vok s (newL fl xs s) := by
  cases fl
  · exact .inl ⟨_, _, rfl, rfl⟩
  · exact .inl ⟨_, _, rfl, rfl⟩
theorem binV_ok (op : Operator) (v w : MV) (s : MSt) : Vok s (binV op v w s) := by
  unfold binV
  repeat' split
  all_goals first
    | exact .inr rfl
    | exact .inl ⟨_, _, rfl, rfl⟩
theorem slcV_ok (fl : Bool) (v : MV) (lo hi : Option Int) (s : MSt) : Vok s (slcV fl v lo hi s) := by
  unfold slcV
  repeat' split
  all_goals first
    | exact .inr rfl
    | exact .inl ⟨_, _, rfl, rfl⟩
    | exact newL_ok _ _ _

theorem se_bin {a b : ME} {op : Operator} {p : Pos} (ha : SE G P X T W n a) (hb : SE G P X T W n b) : SE G P X T W (n + 1) (.bin a op b p) := by
  refine PE.imp (pe_op (opr_bin (G := G) op) ha hb) fun σ H Q ⟨R, env, s, S, k⟩ => ?_
  refine tE.mono (tE_seq S k) fun x H1 ⟨R1, s1, v, e1, S1, r1, k1⟩ => ?_
  refine tE.mono (tE_seq S1 k1) fun y H2 ⟨R2, s2, w, e2, S2, r2, k2⟩ => ?_
  obtain ⟨z, s3, h1, h2⟩ := (binV_ok op v w s2).use S2 k2
  exact ⟨R2, s2, v, w, z, s3, S2.lies, r1.later e2 S1.lies.f0, r2, h1, h2⟩
theorem se_neg {a : ME} {p : Pos} (ha : SE G P X T W n a) : SE G P X T W (n + 1) (.neg a p) := by
  refine PE.imp (pe_un un_neg ha) fun σ H Q ⟨R, env, s, S, k⟩ => ?_
  refine tE.mono (tE_seq S k) fun x H1 ⟨R1, s1, v, e1, S1, r1, k1⟩ => ?_
  cases r1 <;> (try exact k1.elim)
  exact ⟨_, rfl, k1.fin S1 (.int _)⟩
theorem se_sub {a i : ME} {p : Pos} (hu : X.A.units + 64 < cLine) (wd : WdOk G X.K X.w) (ha : SE G P X T W n a) (hi : SE G P X T W n i) (hs : PlainIx (un i)) : SE G P X T W (n + 1) (.sub a i p) := by
  refine PE.imp (pe_ix (ixr (G := G) hu wd) ha hi hs) fun σ H Q ⟨R, env, s, S, k⟩ => ?_
  refine tE.mono (tE_seq S k) fun x H1 ⟨R1, s1, v, e1, S1, r1, k1⟩ => ?_
  refine tE.mono (tE_seq S1 k1) fun y H2 ⟨R2, s2, w, e2, S2, r2, k2⟩ => ?_
  cases e : subV v w s2 with
  | none => rw [e] at k2; exact k2.elim
  | some z =>
    rw [e] at k2
    exact ⟨R2, s2, v, w, z, S2.lies, r1.later e2 S1.lies.f0, r2, e, Aft.vq S2 rfl k2⟩
theorem se_cmp {a b : ME} {op : CmpOp} {p : Pos} (hu : X.A.units + 64 < cLine) (wd : WdOk G X.K X.w) (ha : SE G P X T W n a) (hb : SE G P X T W n b) (hm : behindInMarks op (un b) = false) : SE G P X T W (n + 1) (.cmp a op b p) := by
  refine PE.imp (pe_cmpR (opr_cmp (G := G) hu wd op) ha hb hm) fun σ H Q ⟨R, env, s, S, k⟩ => ?_
  refine tE.mono (tE_seq S k) fun x H1 ⟨R1, s1, v, e1, S1, r1, k1⟩ => ?_
  refine tE.mono (tE_seq S1 k1) fun y H2 ⟨R2, s2, w, e2, S2, r2, k2⟩ => ?_
  cases e : cmpV op v w s2 with
  | none => simp only [e] at k2; exact k2.elim
  | some z =>
    simp only [e] at k2
    exact ⟨R2, s2, v, w, z, S2.lies, r1.later e2 S1.lies.f0, r2, e, k2.fin S2 (.bl z)⟩
theorem st_cmp {a b : ME} {op : CmpOp} {p : Pos} (hu : X.A.units + 64 < cLine) (wd : WdOk G X.K X.w) (ha : SE G P X T W n a) (hb : SE G P X T W n b) (hm : behindInMarks op (un b) = false) : ST G P X T W (n + 2) (.cmp a op b p) := by
  refine PT.imp (pt_cmpR (opr_cmp (G := G) hu wd op) ha hb hm) fun σ H Q ⟨R, env, s, S, k⟩ => ?_
  have k : Aft G X T W R env σ H (fun _ a b => a = b) Q (Res.bind (((ev P n).e env a s).bind fun x s => ((ev P n).e env b s).bind fun y s => match cmpV op x y s with
      | some b => .ok (.bl b) s
      | none => .bad) fun x s => match truM s x with
      | some b => .ok b s
      | none => .bad) := k
  have as : ∀ {α β γ : Type} (r : Res α) (f : α → MSt → Res β) (g : β → MSt → Res γ), (r.bind f).bind g = r.bind fun x s => (f x s).bind g := fun r f g => by cases r <;> rfl
  rw [as] at k
  refine tE.mono (tE_seq S k) fun x H1 ⟨R1, s1, v, e1, S1, r1, k1⟩ => ?_
  rw [as] at k1
  refine tE.mono (tE_seq S1 k1) fun y H2 ⟨R2, s2, w, e2, S2, r2, k2⟩ => ?_
  cases e : cmpV op v w s2 with
  | none => simp only [e] at k2; exact k2.elim
  | some z =>
    simp only [e] at k2
    exact ⟨R2, s2, v, w, z, S2.lies, r1.later e2 S1.lies.f0, r2, e, z, rfl, Aft.fin (a := z) k2 S2 rfl⟩
theorem st_val {m : ME} (h : SE G P X T W n m)
    (hs : ∀ env s, (ev P (n + 1)).t env m s = ((ev P n).e env m s).bind fun x s => match truM s x with
      | some b => .ok b s
      | none => .bad)
    (he : ∀ whole, isTrue (un m) X.env whole = (do let v ← whole; standAt (un m).pos; holding [v] (truthy v))) : ST G P X T W (n + 1) m := by
  refine PT.imp (pt_truth h he) fun σ H Q ⟨R, env, s, S, k⟩ => ?_
  rw [hs] at k
  refine tE.mono (tE_seq S k) fun x H1 ⟨R1, s1, v, e1, S1, r1, k1⟩ => ?_
  cases e : truM s1 v with
  | none => simp only [e] at k1; exact k1.elim
  | some b =>
    simp only [e] at k1
    exact ⟨b, tru_of S1.lies r1 e, Aft.fin k1 S1 rfl⟩
theorem se_notE {a : ME} {p : Pos} (ha : SE G P X T W n a) : SE G P X T W (n + 1) (.notE a p) := by
  refine PE.imp (pe_notT ha) fun σ H Q ⟨R, env, s, S, k⟩ => ?_
  refine tE.mono (tE_seq S k) fun x H1 ⟨R1, s1, v, e1, S1, r1, k1⟩ => ?_
  cases e : truM s1 v with
  | none => simp only [e] at k1; exact k1.elim
  | some b =>
    simp only [e] at k1
    exact ⟨b, tru_of S1.lies r1 e, k1.fin S1 (.bl _)⟩
theorem st_notE {a : ME} {p : Pos} (ha : ST G P X T W n a) : ST G P X T W (n + 1) (.notE a p) := by
  refine PT.imp (pt_not ha) fun σ H Q ⟨R, env, s, S, k⟩ => ?_
  exact tT.mono (tT_seq S k) fun b H1 ⟨R1, s1, e1, S1, k1⟩ => Aft.fin (a := !b) k1 S1 rfl
theorem se_ife {t a b : ME} {p : Pos} (ht : ST G P X T W n t) (ha : SE G P X T W n a) (hb : SE G P X T W n b) : SE G P X T W (n + 1) (.ife t a b p) := by
  refine PE.imp (pe_ifExp ht ha hb) fun σ H Q ⟨R, env, s, S, k⟩ => ?_
  refine tT.mono (tT_seq S k) fun c H1 ⟨R1, s1, e1, S1, k1⟩ => ?_
  cases c with
  | true => exact ⟨R1, env, s1, S1, k1⟩
  | false => exact ⟨R1, env, s1, S1, k1⟩
theorem se_isN {a : ME} {ng : Bool} {j : Nat} {p1 p : Pos} (ha : SE G P X T W n a) : SE G P X T W (n + 1) (.isN a ng j p1 p) := by
  have key : ∀ σ H Q, tE G P X T W (n + 1) (.isN a ng j p1 p) σ H Q → tE G P X T W n a σ H fun x H1 => Q (.bl (decide (x = .non) != ng)) H1 := fun σ H Q ⟨R, env, s, S, k⟩ => by
    refine tE.mono (tE_seq S k) fun x H1 ⟨R1, s1, v, e1, S1, r1, k1⟩ => ?_
    cases r1 <;> first
      | exact k1.fin S1 (.bl _)
      | (rw [decide_eq_false (fun q => nomatch q)]; exact k1.fin S1 (.bl _))
  cases ng with
  | false =>
    refine PE.imp (pe_cmp (pc_isN (X := X) (a := un a) (j := j) (pos' := p1) ha) (by rfl)) fun σ H Q h => ?_
    exact tE.mono (key σ H Q h) fun x H1 q => by simpa using q
  | true =>
    refine PE.imp (pe_cmp (pc_notN (X := X) (a := un a) (j := j) (pos' := p1) ha) (by rfl)) fun σ H Q h => ?_
    exact tE.mono (key σ H Q h) fun x H1 q => by simpa using q
end
end Dz

set_option maxRecDepth 100000
set_option maxHeartbeats 4000000
/-! Part I: the text's side conditions, lists of parts. -/
namespace Dz
open PySem L2

/-- a part that may stand anywhere -/
def reg : ME → Bool
  | .star _ _ => false
  | .nev _ => false
  | _ => true
def noComp : ME → Bool
  | .lcm _ _ _ _ _ _ _ _ => false
  | .nev _ => false
  | _ => true
def notTest : ME → Bool
  | .andE _ _ => false
  | .orE _ _ => false
  | .notE _ _ => false
  | .cmp _ _ _ _ => false
  | .chn _ _ _ _ _ _ => false
  | .isN _ _ _ _ _ => false
  | .tyS _ _ _ _ _ _ => false
  | .ife _ _ _ _ => false
  | .nev _ => false
  | .star _ _ => false
  | _ => true
theorem star_reg {m : ME} (h : reg m = true) (es : List Expr) (env : Env) : starEach (un m :: es) env = (false, eval (un m) env) :: starEach es env := by
  cases m <;> first | (cases h; done) | rfl
def abok : ME → Bool
  | .star _ _ => false
  | .nev _ => false
  | .call _ _ _ _ _ => false
  | .callk _ _ _ _ _ _ _ _ => false
  | .blt _ _ _ _ _ _ => false
  | .cal _ _ _ _ _ => false
  | .rng _ _ _ => false
  | _ => true
theorem ab_reg {m : ME} (h : abok m = true) (x : Str) (env : Env) : attributeBase (un m) x env (eval (un m) env) = eval (un m) env := by
  cases m <;> first | (cases h; done) | rfl
theorem tr_reg {m : ME} (h : notTest m = true) (env : Env) (whole : Sem Value) : isTrue (un m) env whole = (do let v ← whole; standAt (un m).pos; holding [v] (truthy v)) := by
  cases m <;> first | (cases h; done) | rfl
theorem ix_reg {m : ME} (h : reg m = true) : PlainIx (un m) := by
  intro o i
  cases m <;> first | (cases h; done) | rfl
theorem bm_reg {m : ME} (h : reg m = true) (op : CmpOp) : behindInMarks op (un m) = false := by
  cases m <;> first | (cases h; done) | rfl
theorem sw_reg {m : ME} (h : noComp m = true) (tg : Option Expr) (l : Nat) (env : Env) : swapsWith (un m) tg l env = pure false := by
  cases m <;> first | (cases h; done) | rfl
def regs (ms : List ME) : Bool := ms.all reg
theorem any_reg {ms : List ME} (h : regs ms = true) (p : Pos) (env : Env) : (backTo p (starEach (unL ms) env)).any (·.1) = false := by
  have q : ∀ ms : List ME, regs ms = true → (starEach (unL ms) env).any (·.1) = false := by
    intro ms
    induction ms with
    | nil => intro _; rfl
    | cons m r ih =>
      intro h
      unfold regs at h
      rw [List.all_cons, Bool.and_eq_true] at h
      show (starEach (un m :: unL r) env).any _ = false
      rw [star_reg h.1, List.any_cons, ih h.2]; rfl
  have z : ∀ l : List (Bool × Sem Value), (backTo p l).any (·.1) = l.any (·.1) := fun l => by
    unfold backTo
    rw [List.any_map]
    rfl
  rw [z]; exact q ms h

section
variable {G : GI} {P : Prg} {X : Cx} {T : List (Addr × Str)} {W : WX} {R R1 : RE} {env : MEnv} {s s1 : MSt} {σ : St} {H H1 : Hp} {n : Nat}
theorem listE_reg {f : ME → MSt → Res MV} {m : ME} (h : reg m = true) (r : List ME) (s : MSt) : listE f (m :: r) s = (f m s).bind fun x s => (listE f r s).bind fun ys s => .ok (x :: ys) s := by
  cases m <;> first | (cases h; done) | rfl
/-- arguments, from the left -/
theorem sa_list {ms : List ME} (hr : regs ms = true) (h : ∀ m ∈ ms, SE G P X T W n m) : PA X (unL ms) (tA G P X T W n ms) := by
  induction ms with
  | nil => exact PA.imp pa_nil fun σ H Q ⟨R, env, s, S, k⟩ => Aft.fin (a := []) k S .nil
  | cons m r ih =>
    unfold regs at hr
    rw [List.all_cons, Bool.and_eq_true] at hr
    refine PA.imp (pa_cons (h m List.mem_cons_self) (ih hr.2 fun m' hm => h m' (List.mem_cons_of_mem _ hm)) (star_reg hr.1 _ _)) fun σ H Q ⟨R, env, s, S, k⟩ => ?_
    rw [listE_reg hr.1] at k
    refine tE.mono (tE_seq S k) fun x H1 ⟨R1, s1, v, e1, S1, r1, k1⟩ => ?_
    refine tA.mono (tA_seq S1 k1) fun xs H2 ⟨R2, s2, ws, e2, S2, r2, k2⟩ => ?_
    exact Aft.fin (a := v :: ws) k2 S2 (.cons (r1.later e2 S1.lies.f0) r2)
def regS (ms : List ME) : Bool := ms.all fun m => match m with
  | .star e _ => reg e
  | m => reg m
def innerS : ME → ME
  | .star e _ => e
  | m => m
/-- .. with stars -/
theorem sa_listS {ms : List ME} (hr : regS ms = true) (h : ∀ m ∈ ms, SE G P X T W n (innerS m)) : PA X (unL ms) (tA G P X T W n ms) := by
  induction ms with
  | nil => exact PA.imp pa_nil fun σ H Q ⟨R, env, s, S, k⟩ => Aft.fin (a := []) k S .nil
  | cons m r ih =>
    unfold regS at hr
    rw [List.all_cons, Bool.and_eq_true] at hr
    have ih := ih hr.2 fun m' hm => h m' (List.mem_cons_of_mem _ hm)
    by_cases q : reg m = true
    · have e : innerS m = m := by cases m <;> first | (cases q; done) | rfl
      have hm := h m List.mem_cons_self
      rw [e] at hm
      refine PA.imp (pa_cons hm ih (star_reg q _ _)) fun σ H Q ⟨R, env, s, S, k⟩ => ?_
      rw [listE_reg q] at k
      refine tE.mono (tE_seq S k) fun x H1 ⟨R1, s1, v, e1, S1, r1, k1⟩ => ?_
      refine tA.mono (tA_seq S1 k1) fun xs H2 ⟨R2, s2, ws, e2, S2, r2, k2⟩ => ?_
      exact Aft.fin (a := v :: ws) k2 S2 (.cons (r1.later e2 S1.lies.f0) r2)
    · cases m with
      | star e p =>
        have hm : SE G P X T W n e := h (.star e p) List.mem_cons_self
        refine PA.imp (StX.pa_star hm ih) fun σ H Q ⟨R, env, s, S, k⟩ => ?_
        refine tE.mono (tE_seq S k) fun x H1 ⟨R1, s1, v, e1, S1, r1, k1⟩ => ?_
        cases qv : viewQ s1 v with
        | none => rw [qv] at k1; exact k1.elim
        | some xs =>
          rw [qv] at k1
          obtain ⟨a, us, ex, ha, ra⟩ := viewQ_rel S1.lies r1 qv
          refine ⟨a, us, ex, ?_, tA.mono (tA_seq S1 k1) fun ys H2 ⟨R2, s2, ws, e2, S2, r2, k2⟩ => ?_⟩
          · exact ha.elim (fun h => .inr (SqL.of h)) fun h => .inl (SqT.of h)
          · exact Aft.fin (a := xs ++ ws) k2 S2 ((ra.later e2 S1.lies.f0).append r2)
      | _ => exact absurd (by first | rfl | exact hr.1) q
theorem se_tup {es : List ME} {j : Nat} {p : Pos} (hr : regS es = true) (h : ∀ m ∈ es, SE G P X T W n (innerS m)) : SE G P X T W (n + 1) (.tup es j p) := by
  refine PE.imp (pe_tup (sa_listS hr h)) fun σ H Q ⟨R, env, s, S, k⟩ => ?_
  refine tA.mono (tA_seq S k) fun us H1 ⟨R1, s1, vs, e1, S1, r1, k1⟩ => ?_
  by_cases hz : vs.length ≤ SZ
  · simp only [hz, if_true] at k1
    exact ⟨by rw [← r1.length, ← SZ_eq]; exact hz, (Aft.vq S1 rfl k1).tuple S1.lies r1⟩
  · simp only [hz, if_false] at k1
    exact k1.elim
theorem se_lst {fl : Bool} {es : List ME} {p : Pos} (hr : regS es = true) (h : ∀ m ∈ es, SE G P X T W n (innerS m)) : SE G P X T W (n + 1) (.lst fl es p) := by
  refine PE.imp (pe_lst (sa_listS hr h)) fun σ H Q ⟨R, env, s, S, k⟩ => ?_
  refine tA.mono (tA_seq S k) fun us H1 ⟨R1, s1, vs, e1, S1, r1, k1⟩ => ?_
  by_cases hz : vs.length ≤ SZ
  · simp only [hz, if_true] at k1
    obtain ⟨z, s2, h1, h2⟩ := (newL_ok fl vs s1).use S1 k1
    exact ⟨by rw [← r1.length, ← SZ_eq]; exact hz, VQ.list h1 h2 S1.lies r1⟩
  · simp only [hz, if_false] at k1
    exact k1.elim
/-! ### and, or -/
def tAndL (G : GI) (P : Prg) (X : Cx) (T : List (Addr × Str)) (W : WX) (n : Nat) (ms : List ME) : TE := fun σ H Q => ∃ R env s, Sim G X T R env s σ H ∧ Aft G X T W R env σ H (RelM G) Q (andV ((ev P n).e env) ms s)
def tOrL (G : GI) (P : Prg) (X : Cx) (T : List (Addr × Str)) (W : WX) (n : Nat) (ms : List ME) : TE := fun σ H Q => ∃ R env s, Sim G X T R env s σ H ∧ Aft G X T W R env σ H (RelM G) Q (orV ((ev P n).e env) ms s)
theorem pe_void {X : Cx} {e : Expr} {t : TE} (h : ∀ σ H Q, t σ H Q → False) : PE X e t := ⟨fun _ _ σ H Q _ q => (h σ H Q q).elim⟩
theorem pt_void {X : Cx} {e : Expr} {t : TT} (h : ∀ σ H Q, t σ H Q → False) : PT X e t := ⟨fun _ _ σ H Q _ q => (h σ H Q q).elim⟩
theorem se_and {p : Pos} : ∀ {ms : List ME}, (∀ m ∈ ms, SE G P X T W n m) → PE X (.BoolOp .And (unL ms) p) (tAndL G P X T W n ms)
  | [], _ => pe_void fun σ H Q ⟨_, _, _, _, k⟩ => k
  | [m], h => PE.imp (pe_one (h m List.mem_cons_self)) fun σ H Q ⟨R, env, s, S, k⟩ => ⟨R, env, s, S, k⟩
  | m :: m2 :: r, h => by
    refine PE.imp (pe_and (h m List.mem_cons_self) (se_and (ms := m2 :: r) fun m' hm => h m' (List.mem_cons_of_mem _ hm))) fun σ H Q ⟨R, env, s, S, k⟩ => ?_
    refine tE.mono (tE_seq S k) fun x H1 ⟨R1, s1, v, e1, S1, r1, k1⟩ => ?_
    cases v <;> (try exact k1.elim)
    rename_i b
    cases r1
    cases b with
    | true => exact ⟨true, rfl, R1, env, s1, S1, k1⟩
    | false => exact ⟨false, rfl, k1.fin S1 (.bl _)⟩
theorem se_or {p : Pos} : ∀ {ms : List ME}, (∀ m ∈ ms, SE G P X T W n m) → PE X (.BoolOp .Or (unL ms) p) (tOrL G P X T W n ms)
  | [], _ => pe_void fun σ H Q ⟨_, _, _, _, k⟩ => k
  | [m], h => PE.imp (pe_one (h m List.mem_cons_self)) fun σ H Q ⟨R, env, s, S, k⟩ => ⟨R, env, s, S, k⟩
  | m :: m2 :: r, h => by
    refine PE.imp (pe_or (h m List.mem_cons_self) (se_or (ms := m2 :: r) fun m' hm => h m' (List.mem_cons_of_mem _ hm))) fun σ H Q ⟨R, env, s, S, k⟩ => ?_
    refine tE.mono (tE_seq S k) fun x H1 ⟨R1, s1, v, e1, S1, r1, k1⟩ => ?_
    cases v <;> (try exact k1.elim)
    rename_i b
    cases r1
    cases b with
    | true => exact ⟨true, rfl, k1.fin S1 (.bl _)⟩
    | false => exact ⟨false, rfl, R1, env, s1, S1, k1⟩
theorem se_andE {ms : List ME} {p : Pos} (h : ∀ m ∈ ms, SE G P X T W n m) : SE G P X T W (n + 1) (.andE ms p) := se_and h
theorem se_orE {ms : List ME} {p : Pos} (h : ∀ m ∈ ms, SE G P X T W n m) : SE G P X T W (n + 1) (.orE ms p) := se_or h
def tAndT (G : GI) (P : Prg) (X : Cx) (T : List (Addr × Str)) (W : WX) (n : Nat) (ms : List ME) : TT := fun σ H Q => ∃ R env s, Sim G X T R env s σ H ∧ Aft G X T W R env σ H (fun _ a b => a = b) Q (andT ((ev P n).t env) ms s)
def tOrT (G : GI) (P : Prg) (X : Cx) (T : List (Addr × Str)) (W : WX) (n : Nat) (ms : List ME) : TT := fun σ H Q => ∃ R env s, Sim G X T R env s σ H ∧ Aft G X T W R env σ H (fun _ a b => a = b) Q (orT ((ev P n).t env) ms s)
theorem PW.imp {X : Cx} {e : Expr} {t t' : TT} (h : PW X e t) (q : ∀ σ H Q, t' σ H Q → t σ H Q) : PW X e t' := ⟨fun wh pins s σ H Q I w => h.run wh pins s σ H Q I (q σ H Q w)⟩
theorem pw_void {X : Cx} {e : Expr} {t : TT} (h : ∀ σ H Q, t σ H Q → False) : PW X e t := ⟨fun _ _ _ σ H Q _ q => (h σ H Q q).elim⟩
theorem sw_and {p : Pos} : ∀ {ms : List ME}, (∀ m ∈ ms, ST G P X T W n m) → PW X (.BoolOp .And (unL ms) p) (tAndT G P X T W n ms)
  | [], _ => pw_void fun σ H Q ⟨_, _, _, _, k⟩ => k
  | [m], h => PW.imp (pw_and1 (h m List.mem_cons_self)) fun σ H Q ⟨R, env, s, S, k⟩ => ⟨R, env, s, S, k⟩
  | m :: m2 :: r, h => by
    refine PW.imp (pw_and (h m List.mem_cons_self) (sw_and (ms := m2 :: r) fun m' hm => h m' (List.mem_cons_of_mem _ hm))) fun σ H Q ⟨R, env, s, S, k⟩ => ?_
    refine tT.mono (tT_seq S k) fun b H1 ⟨R1, s1, e1, S1, k1⟩ => ?_
    cases b with
    | true => exact ⟨R1, env, s1, S1, k1⟩
    | false => exact Aft.fin (a := false) k1 S1 rfl
theorem sw_or {p : Pos} : ∀ {ms : List ME}, (∀ m ∈ ms, ST G P X T W n m) → PW X (.BoolOp .Or (unL ms) p) (tOrT G P X T W n ms)
  | [], _ => pw_void fun σ H Q ⟨_, _, _, _, k⟩ => k
  | [m], h => PW.imp (pw_or1 (h m List.mem_cons_self)) fun σ H Q ⟨R, env, s, S, k⟩ => ⟨R, env, s, S, k⟩
  | m :: m2 :: r, h => by
    refine PW.imp (pw_or (h m List.mem_cons_self) (sw_or (ms := m2 :: r) fun m' hm => h m' (List.mem_cons_of_mem _ hm))) fun σ H Q ⟨R, env, s, S, k⟩ => ?_
    refine tT.mono (tT_seq S k) fun b H1 ⟨R1, s1, e1, S1, k1⟩ => ?_
    cases b with
    | true => exact Aft.fin (a := true) k1 S1 rfl
    | false => exact ⟨R1, env, s1, S1, k1⟩
theorem st_andE {ms : List ME} {p : Pos} (h : ∀ m ∈ ms, ST G P X T W n m) : ST G P X T W (n + 1) (.andE ms p) := (sw_and h).pt
theorem st_orE {ms : List ME} {p : Pos} (h : ∀ m ∈ ms, ST G P X T W n m) : ST G P X T W (n + 1) (.orE ms p) := (sw_or h).pt
/-! ### a < b < c -/
theorem se_chn {a b c : ME} {op op2 : CmpOp} {p : Pos} (hu : X.A.units + 64 < cLine) (wd : WdOk G X.K X.w) (ha : SE G P X T W n a) (hb : SE G P X T W n b) (hc : SE G P X T W n c) (rb : reg b = true) (rc : reg c = true) :
    SE G P X T W (n + 1) (.chn a op b op2 c p) := by
  refine PE.imp (pe_chain (opr_cmp (G := G) hu wd op) (opr_cmp (G := G) hu wd op2) ha hb hc (show behindInMarks op2 (un c) = false from bm_reg rc _)) fun σ H Q ⟨R, env, s, S, k⟩ => ?_
  refine tE.mono (tE_seq S k) fun x H1 ⟨R1, s1, v, e1, S1, r1, k1⟩ => ?_
  refine tE.mono (tE_seq S1 k1) fun y H2 ⟨R2, s2, w, e2, S2, r2, k2⟩ => ?_
  cases e : cmpV op v w s2 with
  | none => simp only [e] at k2; exact k2.elim
  | some z =>
    simp only [e] at k2
    refine ⟨R2, s2, v, w, z, S2.lies, r1.later e2 S1.lies.f0, r2, e, z, rfl, ?_⟩
    cases z with
    | false => exact k2.fin S2 (.bl false)
    | true =>
      refine tE.mono (tE_seq S2 k2) fun u H3 ⟨R3, s3, t, e3, S3, r3, k3⟩ => ?_
      cases ee : cmpV op2 w t s3 with
      | none => simp only [ee] at k3; exact k3.elim
      | some z =>
        simp only [ee] at k3
        exact ⟨R3, s3, w, t, z, S3.lies, r2.later e3 S2.lies.f0, r3, ee, k3.fin S3 (.bl z)⟩
/-! ### slices -/
theorem so_opt {m : Option ME} (h : ∀ e, m = some e → SE G P X T W n e) : PO X (unO m) (fun σ H Q => ∃ R env s, Sim G X T R env s σ H ∧ Aft G X T W R env σ H (fun _ a b => a = b) Q (optE ((ev P n).e env) m s)) := by
  cases m with
  | none => exact ⟨fun pins s σ H Q I ⟨R, env, s', S, k⟩ => po_none.run pins s σ H Q I (Aft.fin (a := none) k S rfl)⟩
  | some e =>
    refine ⟨fun pins s σ H Q I ⟨R, env, s', S, k⟩ => (po_some (h e rfl)).run pins s σ H Q I ?_⟩
    refine tE.mono (tE_seq S k) fun x H1 ⟨R1, s1, v, e1, S1, r1, k1⟩ => ?_
    cases r1 <;> (try exact k1.elim)
    exact ⟨_, rfl, Aft.fin (a := some _) k1 S1 rfl⟩
theorem se_slc {fl : Bool} {a : ME} {lo hi : Option ME} {p1 p : Pos} (ha : SE G P X T W n a) (hl : ∀ e, lo = some e → SE G P X T W n e) (hh : ∀ e, hi = some e → SE G P X T W n e) : SE G P X T W (n + 1) (.slc fl a lo hi p1 p) := by
  refine PE.imp (pe_slice (slr (G := G) fl) ha (so_opt hl) (so_opt hh)) fun σ H Q ⟨R, env, s, S, k⟩ => ?_
  refine tE.mono (tE_seq S k) fun x H1 ⟨R1, s1, v, e1, S1, r1, k1⟩ => ?_
  refine ⟨R1, env, s1, S1, Aft.imp (Aft.bind (rel1 := fun _ a b => a = b) S1.lies.there k1) fun l H2 ⟨R2, s2, l', e2, S2, q2, k2⟩ => ?_⟩
  subst q2
  refine ⟨R2, env, s2, S2, Aft.imp (Aft.bind (rel1 := fun _ a b => a = b) S2.lies.there k2) fun h H3 ⟨R3, s3, h', e3, S3, q3, k3⟩ => ?_⟩
  subst q3
  obtain ⟨z, s4, h1, h2⟩ := (slcV_ok fl v l' h' s3).use S3 k3
  exact ⟨R3, s3, v, z, s4, S3.lies, (r1.later e2 S1.lies.f0).later e3 S2.lies.f0, h1, h2⟩
end
end Dz

set_option maxRecDepth 100000
set_option maxHeartbeats 4000000
/-! Part Ia: sorted, sums, tests of all, dicts of pairs. -/
namespace Dz
open PySem L2
/-! ### putting in -/
section
variable {α : Type} {le : α → α → Bool}
theorem insB_perm (a : α) : ∀ l : List α, (insB le a l).Perm (a :: l)
  | [] => List.Perm.refl _
  | b :: r => by
    unfold insB
    split
    · exact List.Perm.refl _
    · exact (List.Perm.cons b (insB_perm a r)).trans (List.Perm.swap a b r)
theorem sortB_perm : ∀ l : List α, (sortB le l).Perm l
  | [] => List.Perm.refl _
  | a :: r => (insB_perm a _).trans (List.Perm.cons a (sortB_perm r))
theorem insB_sorted (tot : ∀ a b, le a b = true ∨ le b a = true) (tr : ∀ a b c, le a b = true → le b c = true → le a c = true) (a : α) : ∀ l : List α, l.Pairwise (le · · = true) → (insB le a l).Pairwise (le · · = true)
  | [], _ => List.pairwise_singleton _ _
  | b :: r, h => by
    obtain ⟨h1, h2⟩ := List.pairwise_cons.mp h
    unfold insB
    split
    · rename_i q
      refine List.pairwise_cons.mpr ⟨fun c hc => ?_, h⟩
      rcases List.mem_cons.mp hc with rfl | hc
      · exact q
      · exact tr _ _ _ q (h1 c hc)
    · rename_i q
      refine List.pairwise_cons.mpr ⟨fun c hc => ?_, insB_sorted tot tr a r h2⟩
      have hc' := (insB_perm a r).mem_iff.mp hc
      rcases List.mem_cons.mp hc' with rfl | hc'
      · rcases tot c b with z | z
        · exact absurd z q
        · exact z
      · exact h1 c hc'
theorem sortB_sorted (tot : ∀ a b, le a b = true ∨ le b a = true) (tr : ∀ a b c, le a b = true → le b c = true → le a c = true) : ∀ l : List α, (sortB le l).Pairwise (le · · = true)
  | [] => List.Pairwise.nil
  | a :: r => insB_sorted tot tr a _ (sortB_sorted tot tr r)
theorem sorted_uniq (anti : ∀ a b, le a b = true → le b a = true → a = b) : ∀ {l m : List α}, l.Perm m → l.Pairwise (le · · = true) → m.Pairwise (le · · = true) → l = m
  | [], m, p, _, _ => (List.Perm.nil_eq p)
  | a :: r, [], p, _, _ => absurd p.length_eq (by simp)
  | a :: r, b :: t, p, hl, hm => by
    obtain ⟨l1, l2⟩ := List.pairwise_cons.mp hl
    obtain ⟨m1, m2⟩ := List.pairwise_cons.mp hm
    have e : a = b := by
      have ha : a ∈ b :: t := p.mem_iff.mp List.mem_cons_self
      have hb : b ∈ a :: r := p.mem_iff.mpr List.mem_cons_self
      rcases List.mem_cons.mp ha with e | ha
      · exact e
      · rcases List.mem_cons.mp hb with e | hb
        · exact e.symm
        · exact anti _ _ (l1 b hb) (m1 a ha)
    subst e
    rw [sorted_uniq anti (List.Perm.cons_inv p) l2 m2]
end
theorem leI_tot (a b : Int) : leI a b = true ∨ leI b a = true := by
  unfold leI
  rcases Int.le_total a b with h | h
  · exact .inl (decide_eq_true h)
  · exact .inr (decide_eq_true h)
theorem leI_tr (a b c : Int) (h : leI a b = true) (k : leI b c = true) : leI a c = true := decide_eq_true (Int.le_trans (of_decide_eq_true h) (of_decide_eq_true k))
theorem leI_anti (a b : Int) (h : leI a b = true) (k : leI b a = true) : a = b := Int.le_antisymm (of_decide_eq_true h) (of_decide_eq_true k)
theorem sortI_uniq {ns ms : List Int} (p : ms.Perm ns) (s : ms.Pairwise (· ≤ ·)) : ms = sortB leI ns :=
  sorted_uniq leI_anti (p.trans (sortB_perm ns).symm) (s.imp fun h => decide_eq_true h) (sortB_sorted leI_tot leI_tr ns)
theorem leS_iff (a b : List Nat) : leS a b = true ↔ ¬ b < a := by
  unfold leS
  rw [PyProof.Rows.ltCps_eq]
  simp
theorem leS_tot (a b : List Nat) : leS a b = true ∨ leS b a = true := by
  rw [leS_iff, leS_iff]
  by_cases h : b < a
  · exact .inr (List.lt_asymm h)
  · exact .inl h
theorem leS_tr (a b c : List Nat) (h : leS a b = true) (k : leS b c = true) : leS a c = true := by
  rw [leS_iff] at *
  exact fun q => by
    have h1 : a ≤ b := h
    have h2 : b ≤ c := k
    exact (List.le_trans h1 h2) q
theorem leS_anti (a b : List Nat) (h : leS a b = true) (k : leS b a = true) : a = b := by
  rw [leS_iff] at *
  have h1 : a ≤ b := h
  have h2 : b ≤ a := k
  exact List.le_antisymm h1 h2
theorem rising_pw : ∀ (l : List Str) (p : Str), PyProof.Rows.risingS p l = true → (p :: l).Pairwise fun a b => leS a.cps.toList b.cps.toList = true
  | [], p, _ => List.pairwise_singleton _ _
  | x :: r, p, h => by
    obtain ⟨h1, h2⟩ := Bool.and_eq_true_iff.mp (show (!PySem.Spec.ltCps x.cps.toList p.cps.toList && PyProof.Rows.risingS x r) = true from h)
    have ih := rising_pw r x h2
    refine List.pairwise_cons.mpr ⟨fun c hc => ?_, ih⟩
    rcases List.mem_cons.mp hc with rfl | hc
    · exact h1
    · exact leS_tr _ _ _ h1 ((List.pairwise_cons.mp ih).1 c hc)
theorem sortedS_pw {l : List Str} (h : PyProof.Rows.sortedS l = true) : l.Pairwise fun a b => leS a.cps.toList b.cps.toList = true := by
  cases l with
  | nil => exact List.Pairwise.nil
  | cons x r => exact rising_pw r x h
def toS (z : List Nat) : Str := ⟨z.toArray⟩
theorem toS_cps (z : List Nat) : (toS z).cps.toList = z := rfl
theorem toS_cps2 (x : Str) : toS x.cps.toList = x := by simp [toS]
theorem sortS_uniq {zs : List (List Nat)} {ys : List Str} (p : ys.Perm (zs.map toS)) (s : PyProof.Rows.sortedS ys = true) : ys = (sortB leS zs).map toS := by
  have h1 : (ys.map fun y => y.cps.toList) = sortB leS zs := by
    refine sorted_uniq leS_anti ((p.map _).trans ?_) (List.pairwise_map.mpr (sortedS_pw s)) (sortB_sorted leS_tot leS_tr zs)
    have e : (zs.map toS).map (fun y => y.cps.toList) = zs := by
      rw [List.map_map]
      have : ((fun y : Str => y.cps.toList) ∘ toS) = id := funext fun z => toS_cps z
      rw [this, List.map_id]
    rw [e]
    exact (sortB_perm zs).symm
  rw [← h1, List.map_map]
  have : (toS ∘ fun y : Str => y.cps.toList) = id := funext fun z => toS_cps2 z
  rw [this, List.map_id]
section
variable {G : GI} {P : Prg} {X : Cx} {T : List (Addr × Str)} {W : WX} {R R1 : RE} {env : MEnv} {s s1 : MSt} {σ : St} {H H1 : Hp} {n : Nat}
theorem ints_of : ∀ {xs : List MV} {us : List V} {ns : List Int}, RelMs G R xs us → intsOf xs = some ns → us = ns.map V.int
  | _, _, ns, .nil, h => by cases h; rfl
  | x :: r, u :: w, ns, .cons a b, h => by
    cases a <;> (try (cases h; done))
    rename_i i
    have h : (intsOf r).map (i :: ·) = some ns := h
    cases q : intsOf r with
    | none => rw [q] at h; cases h
    | some ms =>
      rw [q] at h
      cases h
      rw [ints_of b q]
      rfl
theorem strs_of : ∀ {xs : List MV} {us : List V} {zs : List (List Nat)}, RelMs G R xs us → strsOf xs = some zs → us = (zs.map toS).map V.str
  | _, _, ns, .nil, h => by cases h; rfl
  | x :: r, u :: w, ns, .cons a b, h => by
    cases a <;> (try (cases h; done))
    rename_i i
    have h : (strsOf r).map (i :: ·) = some ns := h
    cases q : strsOf r with
    | none => rw [q] at h; cases h
    | some ms =>
      rw [q] at h
      cases h
      rw [strs_of b q]
      rfl
theorem bools_of : ∀ {xs : List MV} {us : List V} {bs : List Bool}, RelMs G R xs us → boolsOf xs = some bs → us = bs.map V.bl
  | _, _, ns, .nil, h => by cases h; rfl
  | x :: r, u :: w, ns, .cons a b, h => by
    cases a <;> (try (cases h; done))
    rename_i i
    have h : (boolsOf r).map (i :: ·) = some ns := h
    cases q : boolsOf r with
    | none => rw [q] at h; cases h
    | some ms =>
      rw [q] at h
      cases h
      rw [bools_of b q]
      rfl
theorem rel_ints : ∀ ns : List Int, RelMs G R (ns.map MV.int) (ns.map V.int)
  | [] => .nil
  | i :: r => .cons (.int i) (rel_ints r)
theorem rel_strs : ∀ zs : List (List Nat), RelMs G R (zs.map MV.str) ((zs.map toS).map V.str)
  | [] => .nil
  | z :: r => .cons (.str z) (rel_strs r)
/-! ### dicts -/
theorem kM_str (x : Str) : kM (.inr x) = .str x.cps.toList := rfl
theorem setK_rel {κ : Key} {v : MV} {y : V} (rv : RelM G R v y) : ∀ (kvs : List (Key × V)) {vs : List MV}, RelMs G R vs (kvs.map (·.2)) → RelMs G R (setK (kM κ) v (kvs.map fun p => kM p.1) vs) ((kvs.map fun kv => if kv.1 = κ then (kv.1, y) else kv).map (·.2))
  | [], _, .nil => .nil
  | p :: r, _, .cons (x := b) (xs := q) ra rb => by
    show RelMs G R ((if MKey.beq (kM p.1) (kM κ) then v else b) :: setK (kM κ) v (r.map fun p => kM p.1) q) ((if p.1 = κ then (p.1, y) else p).2 :: _)
    refine .cons ?_ (setK_rel rv r rb)
    rw [beq_kM]
    by_cases h : p.1 = κ
    · rw [if_pos (decide_eq_true h), if_pos h]; exact rv
    · rw [if_neg (by simpa using h), if_neg h]; exact ra
theorem putKV_rel {κ : Key} {v : MV} {y : V} {kvs : List (Key × V)} {vs : List MV} (rv : RelM G R v y) (r : RelMs G R vs (kvs.map (·.2))) :
    (putKV (kM κ) v (kvs.map fun p => kM p.1) vs).1 = (putK kvs κ y).map (fun p => kM p.1) ∧ RelMs G R (putKV (kM κ) v (kvs.map fun p => kM p.1) vs).2 ((putK kvs κ y).map (·.2)) := by
  have e : ((kvs.map fun p => kM p.1).any (MKey.beq · (kM κ))) = kvs.any fun kv => decide (kv.1 = κ) := by
    rw [List.any_map]
    congr 1
    funext p
    exact beq_kM p.1 κ
  unfold putKV putK
  rw [e]
  cases q : kvs.any fun kv => decide (kv.1 = κ) with
  | true =>
    rw [if_pos rfl, if_pos rfl]
    refine ⟨?_, setK_rel rv kvs r⟩
    rw [List.map_map]
    refine List.map_congr_left fun p _ => ?_
    show kM p.1 = kM (if p.1 = κ then (p.1, y) else p).1
    split <;> rfl
  | false =>
    rw [if_neg Bool.false_ne_true, if_neg Bool.false_ne_true]
    refine ⟨?_, ?_⟩
    · show (kvs.map fun p => kM p.1) ++ [kM κ] = _
      rw [List.map_append]; rfl
    · show RelMs G R (vs ++ [v]) _
      rw [List.map_append]
      exact r.append (.cons rv .nil)
theorem mergeV_rel : ∀ (ps : List (MKey × MV)) (more : List (Key × V)), ps.map (·.1) = more.map (fun p => kM p.1) → RelMs G R (ps.map (·.2)) (more.map (·.2)) → ∀ (kvs : List (Key × V)) (vs : List MV), RelMs G R vs (kvs.map (·.2)) →
    (mergeV ps (kvs.map (fun p => kM p.1), vs)).1 = (mergeK kvs more).map (fun p => kM p.1) ∧ RelMs G R (mergeV ps (kvs.map (fun p => kM p.1), vs)).2 ((mergeK kvs more).map (·.2))
  | [], [], _, _, kvs, vs, r => ⟨rfl, r⟩
  | [], _ :: _, h, _, _, _, _ => by cases h
  | _ :: _, [], h, _, _, _, _ => by cases h
  | (k, v) :: r, (κ, y) :: t, h, rr, kvs, vs, rs => by
    have h : k :: r.map (·.1) = kM κ :: t.map (fun p => kM p.1) := h
    injection h with h1 h2
    subst h1
    cases rr with
    | cons ra rb =>
      obtain ⟨e1, e2⟩ := putKV_rel (κ := κ) ra rs
      have := mergeV_rel r t h2 rb (putK kvs κ y) _ e2
      rw [← e1] at this
      exact this
theorem pairs_rel (l : Lies G R s H) : ∀ {xs : List MV} {us : List V} {ps : List (MKey × MV)}, RelMs G R xs us → pairsOf xs = some ps →
    ∃ (as : List Addr) (kvs : List (Key × V)), us = as.map V.ref ∧ Paired (fun p kv => H p = some (.tup [kV kv.1, kv.2])) as kvs ∧ ps.map (·.1) = kvs.map (fun p => kM p.1) ∧ RelMs G R (ps.map (·.2)) (kvs.map (·.2))
  | _, _, _, .nil, h => by cases h; exact ⟨[], [], rfl, .nil, rfl, .nil⟩
  | x :: r, _ :: w, ps, .cons a b, h => by
    unfold pairsOf at h
    split at h
    · rename_i e; cases e
    · rename_i k v r' e
      obtain ⟨rfl, rfl⟩ : x = .tup [k, v] ∧ r = r' := by injection e with e1 e2; exact ⟨e1, e2⟩
      split at h
      · rename_i k' ps' hk hp
        cases h
        obtain ⟨as, kvs, rfl, pr, e1, e2⟩ := pairs_rel l b hp
        cases a with
        | @tup _ ad us hF rs =>
          obtain ⟨y1, y2, rfl, r1, r2⟩ : ∃ y1 y2, us = [y1, y2] ∧ RelM G R k y1 ∧ RelM G R v y2 := by
            cases rs with
            | cons a1 b1 =>
              cases b1 with
              | cons a2 b2 => cases b2; exact ⟨_, _, rfl, a1, a2⟩
          obtain ⟨κ, rfl, rfl⟩ := key_of r1 hk
          exact ⟨ad :: as, (κ, y2) :: kvs, rfl, .cons (l.f0 _ _ hF) pr, by rw [List.map_cons, List.map_cons, e1], .cons r2 e2⟩
      · cases h
    · cases h
end
end Dz

set_option maxRecDepth 100000
set_option maxHeartbeats 4000000
/-! Part J: built-in functions, methods. -/
namespace Dz
open PySem L2

section
variable {G : GI} {P : Prg} {X : Cx} {T : List (Addr × Str)} {W : WX} {R R1 : RE} {env : MEnv} {s s1 : MSt} {σ : St} {H H1 : Hp} {n : Nat}

def rBlt (G : GI) (fl : Bool) (b : Blt) : List V → Hp → VK → Prop := fun xs H Q => ∃ R s vs z s1, Lies G R s H ∧ RelMs G R vs xs ∧ bltV fl b vs s = .ok z s1 ∧ VQ G R H z s1 Q
theorem RelMs.one {v : MV} {xs : List V} (r : RelMs G R [v] xs) : ∃ x, xs = [x] ∧ RelM G R v x := by
  cases r with
  | cons a b => cases b; exact ⟨_, rfl, a⟩
theorem RelMs.two {v w : MV} {xs : List V} (r : RelMs G R [v, w] xs) : ∃ x y, xs = [x, y] ∧ RelM G R v x ∧ RelM G R w y := by
  cases r with
  | cons a b =>
    obtain ⟨y, rfl, c⟩ := b.one
    exact ⟨_, _, rfl, a, c⟩
theorem viewD_not {v : MV} (h : viewQ s v = none) (ks : List MKey) (vs : List MV) (q : viewD s v = some (ks, vs)) : True := trivial
theorem keys_rel (kvs : List (Key × V)) : RelMs G R ((kvs.map fun p => kM p.1).map ofKey) (kvs.map fun kv => kV kv.1) := by
  induction kvs with
  | nil => exact .nil
  | cons p r ih =>
    refine .cons ?_ ih
    show RelM G R (ofKey (kM p.1)) (kV p.1)
    cases p.1 with
    | inl i => exact .int i
    | inr x =>
      have := RelM.str (G := G) (R := R) x.cps.toList
      simpa [kM, ofKey, kV] using this
theorem on1_ok {f : MV → MSt → Res MV} {xs : List MV} {s s1 : MSt} {z : MV} (e : on1 f xs s = .ok z s1) : ∃ v, xs = [v] ∧ f v s = .ok z s1 := by
  match xs, e with
  | [v], e => exact ⟨v, rfl, e⟩
theorem lenV_ok (v : MV) (s : MSt) : Vok s (lenV v s) := by
  unfold lenV
  repeat' split
  all_goals first
    | exact .inr rfl
    | exact .inl ⟨_, _, rfl, rfl⟩
theorem listV_ok (fl : Bool) (v : MV) (s : MSt) : Vok s (listV fl v s) := by
  unfold listV
  repeat' split
  all_goals first
    | exact .inr rfl
    | exact newL_ok _ _ _
theorem tupleV_ok (v : MV) (s : MSt) : Vok s (tupleV v s) := by
  unfold tupleV
  repeat' split
  all_goals first
    | exact .inr rfl
    | exact .inl ⟨_, _, rfl, rfl⟩
theorem on1_vok {f : MV → MSt → Res MV} (h : ∀ v s, Vok s (f v s)) (xs : List MV) (s : MSt) : Vok s (on1 f xs s) := by
  unfold on1
  split
  · exact h _ _
  · exact .inr rfl
theorem onI_ok (f : Int → Int) (v : MV) (s : MSt) : Vok s (onI f v s) := by
  unfold onI
  split
  · exact .inl ⟨_, _, rfl, rfl⟩
  · exact .inr rfl
theorem onII_ok (f : Int → Int → Int) (xs : List MV) (s : MSt) : Vok s (onII f xs s) := by
  unfold onII
  split
  · exact .inl ⟨_, _, rfl, rfl⟩
  · exact .inr rfl
theorem newD_ok (fl : Bool) (ks : List MKey) (vs : List MV) (s : MSt) : Vok s (newD fl ks vs s) := by
  cases fl
  · exact .inl ⟨_, _, rfl, rfl⟩
  · exact .inl ⟨_, _, rfl, rfl⟩
theorem sumV_ok (v : MV) (s : MSt) : Vok s (sumV v s) := by
  unfold sumV
  split
  · exact .inl ⟨_, _, rfl, rfl⟩
  · exact .inr rfl
theorem anyV_ok (v : MV) (s : MSt) : Vok s (anyV v s) := by
  unfold anyV
  split
  · exact .inl ⟨_, _, rfl, rfl⟩
  · exact .inr rfl
theorem allV_ok (v : MV) (s : MSt) : Vok s (allV v s) := by
  unfold allV
  split
  · exact .inl ⟨_, _, rfl, rfl⟩
  · exact .inr rfl
theorem sortL_ok (fl : Bool) (xs : List MV) (s : MSt) : Vok s (sortL fl xs s) := by
  unfold sortL
  repeat' split
  all_goals first
    | exact .inr rfl
    | exact newL_ok _ _ _
theorem sortV_ok (fl : Bool) (v : MV) (s : MSt) : Vok s (sortV fl v s) := by
  unfold sortV
  repeat' split
  all_goals first
    | exact .inr rfl
    | exact sortL_ok _ _ _
theorem dictV_ok (fl : Bool) (v : MV) (s : MSt) : Vok s (dictV fl v s) := by
  unfold dictV
  repeat' split
  all_goals first
    | exact .inr rfl
    | exact newD_ok _ _ _ _
theorem strV_ok (v : MV) (s : MSt) : Vok s (strV v s) := by
  unfold strV
  repeat' split
  all_goals first
    | exact .inr rfl
    | exact .inl ⟨_, _, rfl, rfl⟩
theorem bltV_ok (fl : Bool) (b : Blt) (vs : List MV) (s : MSt) : Vok s (bltV fl b vs s) := by
  cases b <;> first
    | exact .inr rfl
    | exact on1_vok lenV_ok _ _
    | exact on1_vok (onI_ok _) _ _
    | exact on1_vok (listV_ok _) _ _
    | exact on1_vok tupleV_ok _ _
    | exact onII_ok _ _ _
    | exact on1_vok sumV_ok _ _
    | exact on1_vok anyV_ok _ _
    | exact on1_vok allV_ok _ _
    | exact on1_vok (sortV_ok _) _ _
    | exact on1_vok (dictV_ok _) _ _
    | exact on1_vok strV_ok _ _
theorem onI_inv {f : Int → Int} {v : MV} {s s1 : MSt} {z : MV} (e : onI f v s = .ok z s1) : ∃ i, v = .int i ∧ z = .int (f i) ∧ s = s1 := by
  cases v <;> (try cases e)
  exact ⟨_, rfl, rfl, rfl⟩
theorem onII_inv {f : Int → Int → Int} {xs : List MV} {s s1 : MSt} {z : MV} (e : onII f xs s = .ok z s1) : ∃ i j, xs = [.int i, .int j] ∧ z = .int (f i j) ∧ s = s1 := by
  unfold onII at e
  split at e
  · obtain ⟨rfl, rfl⟩ := Res.ok_inj e
    exact ⟨_, _, rfl, rfl, rfl⟩
  · cases e
theorem cr_len (fl : Bool) : CallR X (.builtin "len") (rBlt G fl .len) := by
  intro pins sh σ H xs us Q I r ⟨R, s, vs, z, s1, l, rv, e, q⟩
  obtain ⟨v, ev, e2⟩ := on1_ok (f := lenV) e
  clear e
  subst ev
  have e := e2
  obtain ⟨y, rfl, ry⟩ := rv.one
  unfold lenV at e
  split at e
  · rename_i x
    split at e
    · rename_i hz
      obtain ⟨rfl, rfl⟩ := Res.ok_inj e
      cases ry
      refine call_len pins sh σ H _ us Q I r ⟨_, _, rfl, ⟨?_, rfl⟩, ?_⟩
      · show x.toArray.size ≤ _
        rw [List.size_toArray, ← SZ_eq]; exact hz
      · have : (Str.length ⟨x.toArray⟩) = x.length := List.size_toArray
        rw [this]
        exact q.here l (.int _)
    · cases e
  · split at e
    · rename_i ys hy
      obtain ⟨rfl, rfl⟩ := Res.ok_inj e
      obtain ⟨a, ws, rfl, ha, ra⟩ := viewQ_rel l ry hy
      refine call_len pins sh σ H _ us Q I r ⟨_, ws.length, rfl, ?_, ?_⟩
      · exact ha.imp (fun h => ⟨ws, SqL.of h, rfl⟩) fun h => ⟨ws, SqT.of h, rfl⟩
      · rw [← ra.length]
        exact q.here l (.int _)
    · split at e
      · rename_i ks vs hd
        obtain ⟨rfl, rfl⟩ := Res.ok_inj e
        obtain ⟨a, kvs, rfl, ha, rfl, ra⟩ := viewD_rel l ry hd
        refine call_lenD pins sh σ H _ us Q I r ⟨a, kvs, rfl, ha, ?_⟩
        have := q.here l (.int _)
        rw [List.length_map] at this
        exact this
      · cases e
theorem cr_abs (fl : Bool) : CallR X (.builtin "abs") (rBlt G fl .abs) := by
  intro pins sh σ H xs us Q I r ⟨R, s, vs, z, s1, l, rv, e, q⟩
  obtain ⟨v, ev, e2⟩ := on1_ok (f := onI fun i => if i < 0 then -i else i) e
  clear e
  subst ev
  have e := e2
  obtain ⟨i, rfl, rfl, rfl⟩ := onI_inv e
  obtain ⟨y, rfl, ry⟩ := rv.one
  cases ry
  exact call_abs pins sh σ H _ us Q I r ⟨_, rfl, q.here l (.int _)⟩
theorem cr_int (fl : Bool) : CallR X (.type "int") (rBlt G fl .int) := by
  intro pins sh σ H xs us Q I r ⟨R, s, vs, z, s1, l, rv, e, q⟩
  obtain ⟨v, ev, e2⟩ := on1_ok (f := onI fun i => i) e
  clear e
  subst ev
  have e := e2
  obtain ⟨i, rfl, rfl, rfl⟩ := onI_inv e
  obtain ⟨y, rfl, ry⟩ := rv.one
  cases ry
  exact call_int1 pins sh σ H _ us Q I r (.inl ⟨_, rfl, q.here l (.int _)⟩)
theorem cr_min2 (hc : X.calm = true) (fl : Bool) : CallR X (.builtin "min") (rBlt G fl .min2) := by
  intro pins sh σ H xs us Q I r ⟨R, s, vs, z, s1, l, rv, e, q⟩
  obtain ⟨i, j, rfl, rfl, rfl⟩ := onII_inv e
  obtain ⟨y, w, rfl, ry, rw'⟩ := rv.two
  cases ry
  cases rw'
  exact call_min2 hc pins sh σ H _ us Q I r ⟨_, _, rfl, q.here l (.int _)⟩
theorem cr_max2 (hc : X.calm = true) (fl : Bool) : CallR X (.builtin "max") (rBlt G fl .max2) := by
  intro pins sh σ H xs us Q I r ⟨R, s, vs, z, s1, l, rv, e, q⟩
  obtain ⟨i, j, rfl, rfl, rfl⟩ := onII_inv e
  obtain ⟨y, w, rfl, ry, rw'⟩ := rv.two
  cases ry
  cases rw'
  exact call_max2 hc pins sh σ H _ us Q I r ⟨_, _, rfl, q.here l (.int _)⟩
theorem cr_list (hc : X.calm = true) (fl : Bool) : CallR X (.type "list") (rBlt G fl .list) := by
  intro pins sh σ H xs us Q I r ⟨R, s, vs, z, s1, l, rv, e, q⟩
  obtain ⟨v, ev, e2⟩ := on1_ok (f := listV fl) e
  clear e
  subst ev
  have e := e2
  obtain ⟨y, rfl, ry⟩ := rv.one
  unfold listV at e
  split at e
  · rename_i ys hy
    obtain ⟨a, ws, rfl, ha, ra⟩ := viewQ_rel l ry hy
    exact call_list_of pins sh σ H _ us Q I r ⟨a, ws, rfl, ha.imp SqL.of SqT.of, VQ.list e q l ra⟩
  · split at e
    · rename_i ks vs hd
      obtain ⟨a, kvs, rfl, ha, rfl, ra⟩ := viewD_rel l ry hd
      exact call_list_dK hc pins sh σ H _ us Q I r ⟨a, kvs, rfl, ha, VQ.list e q l (keys_rel kvs)⟩
    · cases e
theorem cr_tuple (fl : Bool) : CallR X (.type "tuple") (rBlt G fl .tuple) := by
  intro pins sh σ H xs us Q I r ⟨R, s, vs, z, s1, l, rv, e, q⟩
  obtain ⟨v, ev, e2⟩ := on1_ok (f := tupleV) e
  clear e
  subst ev
  have e := e2
  obtain ⟨y, rfl, ry⟩ := rv.one
  unfold tupleV at e
  split at e
  · obtain ⟨rfl, rfl⟩ := Res.ok_inj e
    cases ry with
    | @tup _ a ws hF rs => exact call_tuple_of pins sh σ H _ us Q I r ⟨a, ws, rfl, .inr ⟨SqT.of (l.f0 _ _ hF), q.here l (.tup hF rs)⟩⟩
  · split at e
    · rename_i ys hy
      obtain ⟨rfl, rfl⟩ := Res.ok_inj e
      obtain ⟨a, ws, rfl, ha, ra⟩ := viewL_rel l ry hy
      exact call_tuple_of pins sh σ H _ us Q I r ⟨a, ws, rfl, .inl ⟨SqL.of ha, q.tuple l ra⟩⟩
    · cases e
theorem view_ints {α : Type} {f : List MV → Option α} {v : MV} {r : α} (h : (viewL s v).bind f = some r) : ∃ xs, viewL s v = some xs ∧ f xs = some r := by
  cases q : viewL s v with
  | none => rw [q] at h; cases h
  | some xs => rw [q] at h; exact ⟨xs, rfl, h⟩
theorem cr_sumM (hc : X.calm = true) (fl : Bool) : CallR X (.builtin "sum") (rBlt G fl .sum) := by
  intro pins sh σ H xs us Q I r ⟨R, s, vs, z, s1, l, rv, e, q⟩
  obtain ⟨v, ev, e2⟩ := on1_ok (f := sumV) e
  clear e
  subst ev
  have e := e2
  obtain ⟨y, rfl, ry⟩ := rv.one
  unfold sumV at e
  split at e
  · rename_i ns hy
    obtain ⟨ys, h1, h2⟩ := view_ints hy
    obtain ⟨rfl, rfl⟩ := Res.ok_inj e
    obtain ⟨a, ws, rfl, ha, ra⟩ := viewL_rel l ry h1
    rw [ints_of ra h2] at ha
    exact cr_sum hc pins sh σ H _ us Q I r ⟨a, ns, rfl, SqL.of ha, q.here l (.int _)⟩
  · cases e
theorem cr_anyM (hc : X.calm = true) (fl : Bool) : CallR X (.builtin "any") (rBlt G fl .any) := by
  intro pins sh σ H xs us Q I r ⟨R, s, vs, z, s1, l, rv, e, q⟩
  obtain ⟨v, ev, e2⟩ := on1_ok (f := anyV) e
  clear e
  subst ev
  have e := e2
  obtain ⟨y, rfl, ry⟩ := rv.one
  unfold anyV at e
  split at e
  · rename_i ns hy
    obtain ⟨ys, h1, h2⟩ := view_ints hy
    obtain ⟨rfl, rfl⟩ := Res.ok_inj e
    obtain ⟨a, ws, rfl, ha, ra⟩ := viewL_rel l ry h1
    rw [bools_of ra h2] at ha
    exact cr_any hc pins sh σ H _ us Q I r ⟨a, ns, rfl, SqL.of ha, q.here l (.bl _)⟩
  · cases e
theorem cr_allM (hc : X.calm = true) (fl : Bool) : CallR X (.builtin "all") (rBlt G fl .all) := by
  intro pins sh σ H xs us Q I r ⟨R, s, vs, z, s1, l, rv, e, q⟩
  obtain ⟨v, ev, e2⟩ := on1_ok (f := allV) e
  clear e
  subst ev
  have e := e2
  obtain ⟨y, rfl, ry⟩ := rv.one
  unfold allV at e
  split at e
  · rename_i ns hy
    obtain ⟨ys, h1, h2⟩ := view_ints hy
    obtain ⟨rfl, rfl⟩ := Res.ok_inj e
    obtain ⟨a, ws, rfl, ha, ra⟩ := viewL_rel l ry h1
    rw [bools_of ra h2] at ha
    exact cr_all hc pins sh σ H _ us Q I r ⟨a, ns, rfl, SqL.of ha, q.here l (.bl _)⟩
  · cases e
theorem strs_len {xs : List MV} {zs : List (List Nat)} (h : strsOf xs = some zs) : zs.length = xs.length := by
  induction xs generalizing zs with
  | nil => cases h; rfl
  | cons x r ih =>
    cases x <;> (try (cases h; done))
    rename_i i
    have h : (strsOf r).map (i :: ·) = some zs := h
    cases q : strsOf r with
    | none => rw [q] at h; cases h
    | some ms =>
      rw [q] at h
      cases h
      rw [List.length_cons, List.length_cons, ih q]
theorem ints_len {xs : List MV} {zs : List Int} (h : intsOf xs = some zs) : zs.length = xs.length := by
  induction xs generalizing zs with
  | nil => cases h; rfl
  | cons x r ih =>
    cases x <;> (try (cases h; done))
    rename_i i
    have h : (intsOf r).map (i :: ·) = some zs := h
    cases q : intsOf r with
    | none => rw [q] at h; cases h
    | some ms =>
      rw [q] at h
      cases h
      rw [List.length_cons, List.length_cons, ih q]
theorem kints_of : ∀ {kvs : List (Key × V)} {ns : List Int}, intsOf ((kvs.map fun p => kM p.1).map ofKey) = some ns → kvs.map (·.1) = ns.map Sum.inl
  | [], _, h => by cases h; rfl
  | (.inl i, v) :: r, ns, h => by
    have h : (intsOf ((r.map fun p => kM p.1).map ofKey)).map (i :: ·) = some ns := h
    cases q : intsOf ((r.map fun p => kM p.1).map ofKey) with
    | none => rw [q] at h; cases h
    | some ms =>
      rw [q] at h
      cases h
      rw [List.map_cons, kints_of q]
      rfl
  | (.inr z, v) :: r, ns, h => by cases h
theorem kstrs_of : ∀ {kvs : List (Key × V)} {zs : List (List Nat)}, strsOf ((kvs.map fun p => kM p.1).map ofKey) = some zs → kvs.map (·.1) = (zs.map toS).map Sum.inr
  | [], _, h => by cases h; rfl
  | (.inr x, v) :: r, ns, h => by
    have h : (strsOf ((r.map fun p => kM p.1).map ofKey)).map (x.cps.toList :: ·) = some ns := h
    cases q : strsOf ((r.map fun p => kM p.1).map ofKey) with
    | none => rw [q] at h; cases h
    | some ms =>
      rw [q] at h
      cases h
      rw [List.map_cons, kstrs_of q, List.map_cons, List.map_cons, toS_cps2]
  | (.inl z, v) :: r, ns, h => by cases h
theorem cr_sortM (hc : X.calm = true) (fl : Bool) : CallR X (.builtin "sorted") (rBlt G fl .sorted) := by
  intro pins sh σ H xs us Q I r ⟨R, s, vs, z, s1, l, rv, e, q⟩
  obtain ⟨v, ev, e2⟩ := on1_ok (f := sortV fl) e
  clear e
  subst ev
  have e := e2
  obtain ⟨y, rfl, ry⟩ := rv.one
  unfold sortV at e
  split at e
  · rename_i ys hy
    obtain ⟨a, ws, rfl, ha, ra⟩ := viewL_rel l ry hy
    unfold sortL at e
    split at e
    · rename_i ns h2
      rw [ints_of ra h2] at ha
      refine cr_sortedI pins sh σ H _ us Q I r ⟨a, ns, rfl, SqL.of ha, fun ms p pm ps hp => ?_⟩
      rw [sortI_uniq pm ps]
      exact VQ.list e q l (rel_ints _) p hp
    · split at e
      · rename_i zs h2
        split at e
        · rename_i hz
          rw [strs_of ra h2] at ha
          refine cr_sortedS pins sh σ H _ us Q I r ⟨a, zs.map toS, rfl, SqL.of ha, by rw [List.length_map]; exact hz, fun ms p pm ps hp => ?_⟩
          rw [sortS_uniq pm ps]
          exact VQ.list e q l (rel_strs _) p hp
        · cases e
      · cases e
  · split at e
    · rename_i ks vs hd
      obtain ⟨a, kvs, rfl, ha, rfl, ra⟩ := viewD_rel l ry hd
      split at e
      · rename_i hl
        rw [List.length_map] at hl
        unfold sortL at e
        split at e
        · rename_i ns h2
          have hn : ns.length < 64 := by
            have := ints_len h2
            rw [List.length_map, List.length_map] at this
            omega
          refine call_sortedDI hc pins sh σ H _ us Q I r ⟨a, kvs, ns, rfl, Rd.of ha, kints_of h2, hn, fun ms p pm ps hp => ?_⟩
          rw [sortI_uniq pm ps]
          exact VQ.list e q l (rel_ints _) p hp
        · split at e
          · rename_i zs h2
            split at e
            · rename_i hz
              refine call_sortedD hc pins sh σ H _ us Q I r ⟨a, kvs, zs.map toS, rfl, Rd.of ha, kstrs_of h2, by rw [List.length_map]; exact hz, fun ms p pm ps hp => ?_⟩
              rw [sortS_uniq pm ps]
              exact VQ.list e q l (rel_strs _) p hp
            · cases e
          · cases e
      · cases e
    · cases e
theorem cr_dictM (hc : X.calm = true) (fl : Bool) : CallR X (.type "dict") (rBlt G fl .dict) := by
  intro pins sh σ H xs us Q I r ⟨R, s, vs, z, s1, l, rv, e, q⟩
  obtain ⟨v, ev, e2⟩ := on1_ok (f := dictV fl) e
  clear e
  subst ev
  have e := e2
  obtain ⟨y, rfl, ry⟩ := rv.one
  unfold dictV at e
  split at e
  · rename_i ks vs hd
    obtain ⟨a, kvs, rfl, ha, rfl, ra⟩ := viewD_rel l ry hd
    exact call_dictD pins sh σ H _ us Q I r ⟨a, kvs, rfl, Rd.of ha, VQ.dict e q l rfl ra⟩
  · split at e
    · rename_i ps hy
      obtain ⟨ys, h1, h2⟩ := view_ints hy
      obtain ⟨a, ws, rfl, ha, ra⟩ := viewL_rel l ry h1
      obtain ⟨as, kvs, rfl, pr, e1, e3⟩ := pairs_rel l ra h2
      obtain ⟨m1, m2⟩ := mergeV_rel (G := G) (R := R) ps kvs e1 e3 [] [] .nil
      refine call_dictP hc pins sh σ H _ us Q I r ⟨a, as, kvs, rfl, SqL.of ha, Paired.mono (fun _ _ h => SqT.of h) pr, VQ.dict e q l m1 m2⟩
    · cases e
theorem cr_strM (fl : Bool) : CallR X (.type "str") (rBlt G fl .str) := by
  intro pins sh σ H xs us Q I r ⟨R, s, vs, z, s1, l, rv, e, q⟩
  obtain ⟨v, ev, e2⟩ := on1_ok (f := strV) e
  clear e
  subst ev
  have e := e2
  obtain ⟨y, rfl, ry⟩ := rv.one
  unfold strV at e
  split at e
  · rename_i i
    split at e
    · rename_i hz
      obtain ⟨rfl, rfl⟩ := Res.ok_inj e
      cases ry
      refine call_str_int pins sh σ H _ us Q I r ⟨_, rfl, hz, ?_⟩
      have := q.here l (RelM.str (Str.ofString (toString i)).cps.toList)
      simpa using this
    · cases e
  · obtain ⟨rfl, rfl⟩ := Res.ok_inj e
    cases ry
    exact SkE.call_str_str pins sh σ H _ us Q I r ⟨_, rfl, q.here l (.str _)⟩
  · cases e
/-- the names of the built-ins -/
def bltOk : Blt → Str → Bool
  | .len, x => x == "len"
  | .abs, x => x == "abs"
  | .int, x => x == "int"
  | .list, x => x == "list"
  | .tuple, x => x == "tuple"
  | .min2, x => x == "min"
  | .max2, x => x == "max"
  | .sum, x => x == "sum"
  | .any, x => x == "any"
  | .all, x => x == "all"
  | .sorted, x => x == "sorted"
  | .dict, x => x == "dict"
  | .str, x => x == "str"
  | _, _ => false
/-- the built-in names that the top leaves as they are -/
def Free (X : Cx) : Prop := ∀ x ∈ (["len", "abs", "int", "list", "tuple", "min", "max", "isinstance", "type", "str", "all", "any", "zip", "enumerate", "range", "dict", "sorted", "sum", "bool"] : List Str), X.mg x = none
theorem se_blt {fl : Bool} {b : Blt} {x : Str} {as : List ME} {p1 p : Pos} (hc : X.calm = true) (fr : Free X) (hx : bltOk b x = true) (hg : Gl X x) (hne : as ≠ []) (hr : regs as = true) (h : ∀ m ∈ as, SE G P X T W n m) : SE G P X T W (n + 1) (.blt fl b x as p1 p) := by
  have fin : ∀ {t : TE}, PE X (un (.blt fl b x as p1 p)) (tCB (rBlt G fl b) (tA G P X T W n as)) → SE G P X T W (n + 1) (.blt fl b x as p1 p) := fun {t} hp => PE.imp hp fun σ H Q ⟨R, env, s, S, k⟩ => by
    refine tA.mono (tA_seq S k) fun us H1 ⟨R1, s1, vs, e1, S1, r1, k1⟩ => ?_
    obtain ⟨z, s2, h1, h2⟩ := (bltV_ok fl b vs s1).use S1 k1
    exact ⟨R1, s1, vs, z, s2, S1.lies, r1, h1, h2⟩
  cases as with
  | nil => exact absurd rfl hne
  | cons a as =>
  have hr' := hr
  unfold regs at hr'
  rw [List.all_cons, Bool.and_eq_true] at hr'
  have st := star_reg hr'.1 (unL as) X.env
  have an := any_reg (ms := as) hr'.2 p X.env
  have pa := sa_list hr h
  refine fin (t := fun _ _ _ => True) ?_
  cases b <;> (try (cases hx; done)) <;> (obtain rfl : x = _ := by simpa [bltOk] using hx)
  · exact pe_callB (cr_len fl) hg (fr _ (by simp)) PySem.boot_len pa (by decide) (by decide) st an
  · exact pe_callB (cr_abs fl) hg (fr _ (by simp)) (by decide +kernel) pa (by decide) (by decide) st an
  · exact pe_callTy (cr_int fl) hg (fr _ (by simp)) (by decide +kernel) pa (by decide) (by decide) st an
  · exact pe_callTy (cr_list hc fl) hg (fr _ (by simp)) (by decide +kernel) pa (by decide) (by decide) st an
  · exact pe_callTy (cr_tuple fl) hg (fr _ (by simp)) (by decide +kernel) pa (by decide) (by decide) st an
  · exact pe_callTy (cr_strM fl) hg (fr _ (by simp)) (by decide +kernel) pa (by decide) (by decide) st an
  · exact pe_callB (cr_min2 hc fl) hg (fr _ (by simp)) (by decide +kernel) pa (by decide) (by decide) st an
  · exact pe_callB (cr_max2 hc fl) hg (fr _ (by simp)) (by decide +kernel) pa (by decide) (by decide) st an
  · exact pe_callB (cr_sumM hc fl) hg (fr _ (by simp)) (by decide +kernel) pa (by decide) (by decide) st an
  · exact pe_callTy (cr_dictM hc fl) hg (fr _ (by simp)) (by decide +kernel) pa (by decide) (by decide) st an
  · exact pe_callB (cr_sortM hc fl) hg (fr _ (by simp)) (by decide +kernel) pa (by decide) (by decide) st an
  · exact pe_callB (cr_anyM hc fl) hg (fr _ (by simp)) (by decide +kernel) pa (by decide) (by decide) st an
  · exact pe_callB (cr_allM hc fl) hg (fr _ (by simp)) (by decide +kernel) pa (by decide) (by decide) st an
end
end Dz

set_option maxRecDepth 100000
set_option maxHeartbeats 4000000
/-! Part K: isinstance, type, methods, items, names of the top. -/
namespace Dz
open PySem L2

section
variable {G : GI} {P : Prg} {X : Cx} {T : List (Addr × Str)} {W : WX} {R R1 : RE} {env : MEnv} {s s1 : MSt} {σ : St} {H H1 : Hp} {n : Nat}

/-! ### types -/
def tyS (t : Nat) : String := match t with
  | 1 => "int" | 2 => "str" | 3 => "bool" | 4 => "list" | 5 => "tuple" | 6 => "dict" | _ => "NoneType"
/-- a value's type, by its number -/
def tyM (s : MSt) : MV → Option Nat
  | .non => some 0
  | .bl _ => some 3
  | .int _ => some 1
  | .str _ => some 2
  | .tup _ => some 5
  | .lst _ => some 4
  | .dic _ _ => some 6
  | .ref i => match s.refs[i]? with
    | some (.lst _) => some 4
    | some (.dic _ _) => some 6
    | _ => none
  | _ => none
theorem isi_ty {v : MV} {t : Nat} {b : Bool} (h : isiV s v t = some b) : ∃ k, tyM s v = some k ∧ b = (if k = 3 then (t == 1 || t == 3) else if k = 0 then false else t == k) := by
  cases v <;> (try cases h) <;> (try exact ⟨_, rfl, rfl⟩)
  rename_i i
  dsimp only [isiV] at h
  dsimp only [tyM]
  cases e : s.refs[i]? with
  | none => rw [e] at h; cases h
  | some o =>
    rw [e] at h
    cases o with
    | lst _ => cases h; exact ⟨4, rfl, rfl⟩
    | dic _ _ => cases h; exact ⟨6, rfl, rfl⟩
    | dead => cases h
theorem ty_of {v : MV} {x : V} {k : Nat} {K : PySem.W.Frag} (l : Lies G R s H) (r : RelM G R v x) (h : tyM s v = some k) : TyX K H x (.type (tyS k)) ∧ TyB K H x (tyS k) := by
  cases r with
  | non => cases h; exact ⟨.base .non, .non⟩
  | bl b => cases h; exact ⟨.base (.bl _), .bl _⟩
  | int i => cases h; exact ⟨.base (.int _), .int _⟩
  | str z => cases h; exact ⟨.base (.str _), .str _⟩
  | tup hF rs => cases h; exact ⟨.base (.tup (l.f0 _ _ hF)), .tup (SqT.of (l.f0 _ _ hF))⟩
  | lst hF rs => cases h; exact ⟨.base (.lst (l.f0 _ _ hF)), .lst (SqL.of (l.f0 _ _ hF))⟩
  | dic hF _ _ => cases h; exact ⟨.base (.dK (l.f0 _ _ hF)), .dK (l.f0 _ _ hF)⟩
  | wd _ => cases h
  | fn _ => cases h
  | clo _ _ => cases h
  | @ref i hi =>
    dsimp only [tyM] at h
    cases e : s.refs[i]? with
    | none => rw [e] at h; cases h
    | some o =>
      rw [e] at h
      obtain ⟨_, u, hu, ro⟩ := l.rf i o e
      cases ro with
      | lst _ => cases h; exact ⟨.base (.lst hu), .lst (SqL.of hu)⟩
      | dic _ _ => cases h; exact ⟨.base (.dK hu), .dK hu⟩
      | deadL _ => cases h
      | deadD _ => cases h
theorem kit_num {k t : Nat} (hk : k ≤ 6) (ht : 1 ≤ t) (ht6 : t ≤ 6) {K : PySem.W.Frag} :
    PySem.W.kitOne K (.type (tyS k)) (.type (tyS t)) = some (if k = 3 then (t == 1 || t == 3) else if k = 0 then false else t == k) := by
  have c1 : k = 0 ∨ k = 1 ∨ k = 2 ∨ k = 3 ∨ k = 4 ∨ k = 5 ∨ k = 6 := by omega
  have c2 : t = 1 ∨ t = 2 ∨ t = 3 ∨ t = 4 ∨ t = 5 ∨ t = 6 := by omega
  rcases c1 with rfl | rfl | rfl | rfl | rfl | rfl | rfl <;> rcases c2 with rfl | rfl | rfl | rfl | rfl | rfl <;> exact kit_ty (by decide +kernel)
theorem tyM_le {v : MV} {k : Nat} (h : tyM s v = some k) : k ≤ 6 := by
  cases v <;> (try cases h) <;> (try decide)
  rename_i i
  dsimp only [tyM] at h
  cases e : s.refs[i]? with
  | none => rw [e] at h; cases h
  | some o =>
    rw [e] at h
    cases o <;> cases h <;> decide
/-- the written names of classes -/
def tysOk : List (Nat × Str × Pos) → Bool
  | [] => true
  | (t, x, _) :: r => (match t with
    | 1 => x == "int" | 2 => x == "str" | 3 => x == "bool" | 4 => x == "list" | 5 => x == "tuple" | 6 => x == "dict" | _ => false) && tysOk r
theorem tys_one {t : Nat} {x : Str} (h : (match t with
    | 1 => x == ("int" : Str) | 2 => x == ("str" : Str) | 3 => x == ("bool" : Str) | 4 => x == ("list" : Str) | 5 => x == ("tuple" : Str) | 6 => x == ("dict" : Str) | _ => false) = true) (fr : Free X) (hg : Gl X x) {q : Pos} :
    PE X (.Name x q) (tC (.ty (tyS t))) ∧ 1 ≤ t ∧ t ≤ 6 := by
  split at h <;> (try (cases h; done)) <;> (obtain rfl := eq_of_beq h) <;> exact ⟨pe_bltn hg (fr _ (by simp)) (by decide +kernel) rfl (by decide) (by decide), by decide, by decide⟩
def tNames : List (Nat × Str × Pos) → TA
  | [] => fun _ H Q => Q [] H
  | (t, _, _) :: r => fun σ H Q => tNames r σ H fun xs H1 => Q (.ty (tyS t) :: xs) H1
theorem pa_names {ts : List (Nat × Str × Pos)} (h : tysOk ts = true) (fr : Free X) (hg : ∀ p ∈ ts, Gl X p.2.1) : PA X (zipPos ts) (fun σ H Q => Q (ts.map fun p => V.ty (tyS p.1)) H) := by
  induction ts with
  | nil => exact pa_nil
  | cons p r ih =>
    obtain ⟨t, x, q⟩ := p
    unfold tysOk at h
    rw [Bool.and_eq_true] at h
    exact PA.imp (pa_cons (tys_one h.1 fr (hg _ List.mem_cons_self)).1 (ih h.2 fun p hp => hg p (List.mem_cons_of_mem _ hp)) rfl) fun σ H Q k => k
theorem isis_of {v : MV} {x : V} {K : PySem.W.Frag} (l : Lies G R s H) (rl : RelM G R v x) (fr : Free X) : ∀ {ts : List (Nat × Str × Pos)} {b : Bool}, tysOk ts = true → (∀ p ∈ ts, 1 ≤ p.1 ∧ p.1 ≤ 6) → ts ≠ [] → isiVs s v ts = some b →
    ∃ k, tyM s v = some k ∧ PySem.W.kitAny K (.type (tyS k)) (ts.map fun p => Value.type (tyS p.1)) = some b
  | [], _, _, _, hne, _ => absurd rfl hne
  | [(t, x, q)], b, h, h6, _, e => by
    unfold isiVs at e
    split at e <;> (try cases e)
    rename_i a c h1 h2
    cases h2
    obtain ⟨k, hk, hb⟩ := isi_ty h1
    refine ⟨k, hk, ?_⟩
    have z := kit_num (K := K) (tyM_le hk) (h6 _ List.mem_cons_self).1 (h6 _ List.mem_cons_self).2
    rw [← hb] at z
    rw [Bool.or_false]
    exact kitAny_cons z (fun ha => by rw [ha]; exact kitAny_nil) fun ha => ha
  | (t, x, q) :: p2 :: r, b, h, h6, _, e => by
    unfold isiVs at e
    split at e <;> (try cases e)
    rename_i a c h1 h2
    unfold tysOk at h
    rw [Bool.and_eq_true] at h
    obtain ⟨k, hk, hz⟩ := isis_of (K := K) l rl fr (ts := p2 :: r) h.2 (fun p hp => h6 p (List.mem_cons_of_mem _ hp)) (by simp) h2
    obtain ⟨k', hk', hb⟩ := isi_ty h1
    rw [hk] at hk'
    cases hk'
    refine ⟨k, hk, ?_⟩
    have z := kit_num (K := K) (tyM_le hk) (h6 _ List.mem_cons_self).1 (h6 _ List.mem_cons_self).2
    rw [← hb] at z
    exact kitAny_cons z (fun ha => by rw [ha, Bool.false_or]; exact hz) fun ha => by rw [ha]; rfl
theorem tys_le {ts : List (Nat × Str × Pos)} (h : tysOk ts = true) : ∀ p ∈ ts, 1 ≤ p.1 ∧ p.1 ≤ 6 := by
  induction ts with
  | nil => intro p hp; cases hp
  | cons p r ih =>
    obtain ⟨t, x, q⟩ := p
    unfold tysOk at h
    rw [Bool.and_eq_true] at h
    intro p hp
    rcases List.mem_cons.mp hp with rfl | hp
    · have h := h.1
      split at h <;> first | (cases h; done) | (refine ⟨?_, ?_⟩ <;> simp)
    · exact ih h.2 p hp
theorem se_isi {a : ME} {ts : List (Nat × Str × Pos)} {one : Bool} {k : Nat} {p1 p2 p : Pos} (fr : Free X) (hi : Gl X "isinstance") (hg : ∀ q ∈ ts, Gl X q.2.1) (ht : tysOk ts = true) (hne : ts ≠ []) (h1 : one = true → ts.length = 1) (hl : ts.length ≤ SZ) (ha : SE G P X T W n a) (ra : reg a = true) :
    SE G P X T W (n + 1) (.isi a ts one k p1 p2 p) := by
  have key : ∀ σ H Q, tE G P X T W (n + 1) (.isi a ts one k p1 p2 p) σ H Q → tE G P X T W n a σ H fun x H1 => ∃ R1 s1 v b, Lies G R1 s1 H1 ∧ RelM G R1 v x ∧ isiVs s1 v ts = some b ∧ Q (.bl b) H1 ∧
      ∀ p o, H1 p = none → Q (.bl b) (upd H1 p o) := fun σ H Q ⟨R, env, s, S, k⟩ => by
    refine tE.mono (tE_seq S k) fun x H1 ⟨R1, s1, v, e1, S1, r1, k1⟩ => ?_
    cases e : isiVs s1 v ts with
    | none => simp only [e] at k1; exact k1.elim
    | some b =>
      simp only [e] at k1
      have q := Aft.vq S1 rfl k1
      refine ⟨R1, s1, v, b, S1.lies, r1, e, k1.fin S1 (.bl _), fun p o hp => q _ _ _ (Ext.keep hp) (S1.lies.keep hp) (.bl _)⟩
  cases one with
  | true =>
    match ts, hne, h1 rfl with
    | [(t, x, q)], _, _ =>
      have ht' := ht
      unfold tysOk at ht'
      rw [Bool.and_eq_true] at ht'
      have hb := tys_one ht'.1 fr (hg _ List.mem_cons_self) (q := q)
      refine PE.imp (pe_callB (call_isi) hi (fr _ (by simp)) (by decide +kernel) (pa_cons ha (pa_cons hb.1 pa_nil) (star_reg ra _ _)) (by decide) (by decide) (star_reg ra _ _) rfl) fun σ H Q h => ?_
      refine tE.mono (key σ H Q h) fun x H1 ⟨R1, s1, v, b, l, r, e, q1, hq⟩ => ?_
      clear hq
      unfold isiVs at e
      split at e <;> (try cases e)
      rename_i a' c g1 g2
      have g3 : c = false := (Option.some.inj g2).symm
      subst g3
      obtain ⟨k', hk, hb'⟩ := isi_ty g1
      have z := kit_num (K := X.K) (tyM_le hk) hb.2.1 hb.2.2
      rw [← hb'] at z
      rw [Bool.or_false] at q1
      exact ⟨x, _, _, _, a', rfl, .ty _, (ty_of l r hk).1, z, q1⟩
  | false =>
    refine PE.imp (pe_callB (call_isiT) hi (fr _ (by simp)) (by decide +kernel) (pa_cons ha (pa_cons (pe_tup (pa_names ht fr hg)) pa_nil rfl) (star_reg ra _ _)) (by decide) (by decide) (star_reg ra _ _) rfl) fun σ H Q h => ?_
    refine tE.mono (key σ H Q h) fun x H1 ⟨R1, s1, v, b, l, r, e, _, q1⟩ => ?_
    have hlen : (ts.map fun p => V.ty (tyS p.1)).length ≤ sizeLine := by
      rw [List.length_map, ← SZ_eq]; exact hl
    refine ⟨hlen, fun p hp => ?_⟩
    obtain ⟨k', hk, hz⟩ := isis_of (K := X.K) l r fr ht (tys_le ht) hne e
    have l2 := l.keep (o := .tup (ts.map fun p => V.ty (tyS p.1))) hp
    refine ⟨x, p, ts.map fun p => V.ty (tyS p.1), _, ts.map fun p => Value.type (tyS p.1), b, rfl, upd_same, ?_, (ty_of l2 r hk).1, hz, q1 p _ hp⟩
    have : ∀ ts : List (Nat × Str × Pos), Paired ClsV (ts.map fun p => V.ty (tyS p.1)) (ts.map fun p => Value.type (tyS p.1)) := fun ts => by
      induction ts with
      | nil => exact .nil
      | cons p r ih => exact .cons (.ty _) ih
    exact this ts
end
end Dz

set_option maxRecDepth 100000
set_option maxHeartbeats 4000000
/-! Part L: tests that compare; type(x) is str; methods; items; names of the top. -/
namespace Dz
open PySem L2

section
variable {G : GI} {P : Prg} {X : Cx} {T : List (Addr × Str)} {W : WX} {R R1 : RE} {env : MEnv} {s s1 : MSt} {σ : St} {H H1 : Hp} {n : Nat}

/-- a result that is a bool -/
def isB (r : Res MV) : Prop := ∀ z s1, r = .ok z s1 → ∃ b, z = .bl b
theorem isB.bind {α : Type} {r : Res α} {f : α → MSt → Res MV} (h : ∀ a s, isB (f a s)) : isB (r.bind f) := by
  cases r with
  | ok a s => exact h a s
  | exc c fs s => intro z s1 e; cases e
  | bad => intro z s1 e; cases e
theorem isB.bl {b : Bool} {s : MSt} : isB (.ok (.bl b) s) := fun z s1 e => ⟨b, by cases e; rfl⟩
theorem isB.bad : isB .bad := fun z s1 e => (by cases e)
theorem st_like {m : ME} {t : TE} (hp : PT X (un m) (tTest t)) (hq : ∀ σ H Q, tE G P X T W (n + 1) m σ H Q → t σ H Q) (hb : ∀ env s, isB ((ev P (n + 1)).e env m s))
    (hs : ∀ env s, (ev P (n + 2)).t env m s = ((ev P (n + 1)).e env m s).bind fun x s => match truM s x with
      | some b => .ok b s
      | none => .bad) : ST G P X T W (n + 2) m := by
  refine PT.imp hp fun σ H Q ⟨R, env, s, S, k⟩ => hq σ H _ ⟨R, env, s, S, ?_⟩
  rw [hs] at k
  have b := hb env s
  cases e : (ev P (n + 1)).e env m s with
  | bad => rw [e] at k; exact k.elim
  | exc c fs s1 => rw [e] at k; exact k
  | ok z s1 =>
    rw [e] at k b
    obtain ⟨c, rfl⟩ := b z s1 rfl
    exact fun R1 H1 u e1 S1 r1 => by
      cases r1
      exact ⟨c, rfl, k R1 H1 c e1 S1 rfl⟩
/-! ### cmp, chn, isN as tests -/
theorem cmp_isB {a b : ME} {op : CmpOp} {p : Pos} (env : MEnv) (s : MSt) : isB ((ev P (n + 1)).e env (.cmp a op b p) s) := isB.bind fun x s => isB.bind fun y s => by
  show isB (match cmpV op x y s with
      | some b => .ok (.bl b) s
      | none => .bad)
  split
  · exact isB.bl
  · exact isB.bad
theorem chn_isB {a b c : ME} {op op2 : CmpOp} {p : Pos} (env : MEnv) (s : MSt) : isB ((ev P (n + 1)).e env (.chn a op b op2 c p) s) := isB.bind fun x s => isB.bind fun y s => by
  show isB (match cmpV op x y s with
      | some true => ((ev P n).e env c s).bind fun z s => match cmpV op2 y z s with
        | some b => .ok (.bl b) s
        | none => .bad
      | some false => .ok (.bl false) s
      | none => .bad)
  split
  · refine isB.bind fun z s => ?_
    split
    · exact isB.bl
    · exact isB.bad
  · exact isB.bl
  · exact isB.bad
theorem tq_chn {a b c : ME} {op op2 : CmpOp} {p : Pos} : ∀ σ H Q, tE G P X T W (n + 1) (.chn a op b op2 c p) σ H Q → tChain (rC G op) (rC G op2) (tE G P X T W n a) (tE G P X T W n b) (tE G P X T W n c) σ H Q := fun σ H Q ⟨R, env, s, S, k⟩ => by
  refine tE.mono (tE_seq S k) fun x H1 ⟨R1, s1, v, e1, S1, r1, k1⟩ => ?_
  refine tE.mono (tE_seq S1 k1) fun y H2 ⟨R2, s2, w, e2, S2, r2, k2⟩ => ?_
  cases e : cmpV op v w s2 with
  | none => simp only [e] at k2; exact k2.elim
  | some z =>
    simp only [e] at k2
    refine ⟨R2, s2, v, w, z, S2.lies, r1.later e2 S1.lies.f0, r2, e, z, rfl, ?_⟩
    cases z with
    | false => exact k2.fin S2 (.bl false)
    | true =>
      refine tE.mono (tE_seq S2 k2) fun u H3 ⟨R3, s3, t, e3, S3, r3, k3⟩ => ?_
      cases ee : cmpV op2 w t s3 with
      | none => simp only [ee] at k3; exact k3.elim
      | some z =>
        simp only [ee] at k3
        exact ⟨R3, s3, w, t, z, S3.lies, r2.later e3 S2.lies.f0, r3, ee, k3.fin S3 (.bl z)⟩
theorem st_chn {a b c : ME} {op op2 : CmpOp} {p : Pos} (hu : X.A.units + 64 < cLine) (wd : WdOk G X.K X.w) (ha : SE G P X T W n a) (hb : SE G P X T W n b) (hc : SE G P X T W n c) (rc : reg c = true) : ST G P X T W (n + 2) (.chn a op b op2 c p) :=
  st_like (pt_chain (opr_cmp (G := G) hu wd op) (opr_cmp (G := G) hu wd op2) ha hb hc (show behindInMarks op2 (un c) = false from bm_reg rc _)) tq_chn chn_isB fun _ _ => rfl
theorem isN_isB {a : ME} {ng : Bool} {j : Nat} {p1 p : Pos} (env : MEnv) (s : MSt) : isB ((ev P (n + 1)).e env (.isN a ng j p1 p) s) := isB.bind fun x s => isB.bl
theorem tq_isN {a : ME} {ng : Bool} {j : Nat} {p1 p : Pos} : ∀ σ H Q, tE G P X T W (n + 1) (.isN a ng j p1 p) σ H Q → tE G P X T W n a σ H fun x H1 => Q (.bl (decide (x = .non) != ng)) H1 := fun σ H Q ⟨R, env, s, S, k⟩ => by
  refine tE.mono (tE_seq S k) fun x H1 ⟨R1, s1, v, e1, S1, r1, k1⟩ => ?_
  cases r1 <;> first
    | exact k1.fin S1 (.bl _)
    | (rw [decide_eq_false (fun q => nomatch q)]; exact k1.fin S1 (.bl _))
theorem st_isN {a : ME} {ng : Bool} {j : Nat} {p1 p : Pos} (ha : SE G P X T W n a) : ST G P X T W (n + 2) (.isN a ng j p1 p) := by
  cases ng with
  | false =>
    refine st_like (t := tIsN (tE G P X T W n a)) ?_ (fun σ H Q h => tE.mono (tq_isN σ H Q h) fun x H1 q => by simpa using q) isN_isB fun _ _ => rfl
    exact PT.imp (pt_cmp (pc_isN (X := X) (a := un a) (j := j) (pos' := p1) ha) (by rfl)) fun σ H Q h => h
  | true =>
    refine st_like (t := tNotN (tE G P X T W n a)) ?_ (fun σ H Q h => tE.mono (tq_isN σ H Q h) fun x H1 q => by simpa using q) isN_isB fun _ _ => rfl
    exact PT.imp (pt_cmp (pc_notN (X := X) (a := un a) (j := j) (pos' := p1) ha) (by rfl)) fun σ H Q h => h
/-! ### type(x) is str -/
theorem tyS_isB {a : ME} {ng : Bool} {p1 p2 p3 p : Pos} (env : MEnv) (s : MSt) : isB ((ev P (n + 1)).e env (.tyS a ng p1 p2 p3 p) s) := isB.bind fun x s => by
  show isB (match isiV s x 2 with
      | some b => .ok (.bl (b != ng)) s
      | none => .bad)
  split
  · exact isB.bl
  · exact isB.bad
theorem tq_tyS {a : ME} {ng : Bool} {p1 p2 p3 p : Pos} : ∀ σ H Q, tE G P X T W (n + 1) (.tyS a ng p1 p2 p3 p) σ H Q → tE G P X T W n a σ H fun x H1 => ∃ k : Nat, k ≤ 6 ∧ TyB X.K H1 x (tyS k) ∧ Q (.bl (decide (k = 2) != ng)) H1 := fun σ H Q ⟨R, env, s, S, k⟩ => by
  refine tE.mono (tE_seq S k) fun x H1 ⟨R1, s1, v, e1, S1, r1, k1⟩ => ?_
  cases e : isiV s1 v 2 with
  | none => simp only [e] at k1; exact k1.elim
  | some b =>
    simp only [e] at k1
    obtain ⟨k, hk, hb⟩ := isi_ty e
    refine ⟨k, tyM_le hk, (ty_of S1.lies r1 hk).2, ?_⟩
    have : b = decide (k = 2) := by
      rw [hb]
      have := tyM_le hk
      have c1 : k = 0 ∨ k = 1 ∨ k = 2 ∨ k = 3 ∨ k = 4 ∨ k = 5 ∨ k = 6 := by omega
      rcases c1 with rfl | rfl | rfl | rfl | rfl | rfl | rfl <;> rfl
    rw [← this]
    exact k1.fin S1 (.bl _)
theorem tyS_two {k : Nat} (h : k ≤ 6) : decide (tyS k = "str") = decide (k = 2) := by
  have c1 : k = 0 ∨ k = 1 ∨ k = 2 ∨ k = 3 ∨ k = 4 ∨ k = 5 ∨ k = 6 := by omega
  rcases c1 with rfl | rfl | rfl | rfl | rfl | rfl | rfl <;> decide +kernel
theorem pe_type {a : ME} {p1 p2 : Pos} (fr : Free X) (hg : Gl X "type") (ha : SE G P X T W n a) (ra : reg a = true) : PE X (.Call (.Name "type" p1) [un a] [] p2) (tCB (rTyp X.K) (tCons (tE G P X T W n a) tNil)) :=
  pe_callTy call_type1 hg (fr _ (by simp)) (by decide +kernel) (pa_cons ha pa_nil (star_reg ra _ _)) (by decide) (by decide) (star_reg ra _ _) rfl
theorem pe_strT {p3 : Pos} (fr : Free X) (hg : Gl X "str") : PE X (.Name "str" p3) (tC (.ty "str")) := pe_bltn hg (fr _ (by simp)) (by decide +kernel) rfl (by decide) (by decide)
theorem ty_use {a : ME} {ng : Bool} {p1 p2 p3 p : Pos} {σ : St} {H : Hp} {Q : VK} (h : tE G P X T W (n + 1) (.tyS a ng p1 p2 p3 p) σ H Q) :
    tOp (fun x y H Q => ∃ a b, x = .ty a ∧ y = .ty b ∧ Q (.bl (decide (a = b) != ng)) H) (tCB (rTyp X.K) (tCons (tE G P X T W n a) tNil)) (tC (.ty "str")) σ H Q :=
  tE.mono (tq_tyS σ H Q h) fun x H1 ⟨k, hk, ty, q⟩ => ⟨x, tyS k, rfl, ty, _, _, rfl, rfl, by rw [tyS_two hk]; exact q⟩
theorem se_tyS {a : ME} {ng : Bool} {p1 p2 p3 p : Pos} (fr : Free X) (hg : Gl X "type") (hs : Gl X "str") (ha : SE G P X T W n a) (ra : reg a = true) : SE G P X T W (n + 1) (.tyS a ng p1 p2 p3 p) := by
  cases ng with
  | false => exact PE.imp (pe_cmpR op_isTyB (pe_type fr hg ha ra) (pe_strT fr hs) (by rfl)) fun σ H Q h => (by have := ty_use h; simpa using this)
  | true => exact PE.imp (pe_cmpR op_notTyB (pe_type fr hg ha ra) (pe_strT fr hs) (by rfl)) fun σ H Q h => (by have := ty_use h; unfold rNT; simpa using this)
theorem st_tyS {a : ME} {ng : Bool} {p1 p2 p3 p : Pos} (fr : Free X) (hg : Gl X "type") (hs : Gl X "str") (ha : SE G P X T W n a) (ra : reg a = true) : ST G P X T W (n + 2) (.tyS a ng p1 p2 p3 p) := by
  cases ng with
  | false => exact st_like (pt_cmpR op_isTyB (pe_type fr hg ha ra) (pe_strT fr hs) (by rfl)) (fun σ H Q h => (by have := ty_use h; simpa using this)) tyS_isB fun _ _ => rfl
  | true => exact st_like (pt_cmpR op_notTyB (pe_type fr hg ha ra) (pe_strT fr hs) (by rfl)) (fun σ H Q h => (by have := ty_use h; unfold rNT; simpa using this)) tyS_isB fun _ _ => rfl
/-! ### methods -/
def mthOk : Mth → Str → Bool
  | .append, x => x == "append"
  | .extend, x => x == "extend"
  | .popAt, x => x == "pop"
  | .join, x => x == "join"
  | .startswith, x => x == "startswith"
  | .index, x => x == "index"
  | .get1, x => x == "get"
  | .get2, x => x == "get"
  | _, _ => false
theorem appV_ok (env : MEnv) (o v : MV) (s : MSt) : Vok s (appV env o v s) := by
  unfold appV
  repeat' split
  all_goals first
    | exact .inr rfl
    | exact .inl ⟨_, _, rfl, rfl⟩
theorem extV_ok (env : MEnv) (o v : MV) (s : MSt) : Vok s (extV env o v s) := by
  unfold extV
  repeat' split
  all_goals first
    | exact .inr rfl
    | exact .inl ⟨_, _, rfl, rfl⟩
theorem popV_ok (o v : MV) (s : MSt) : Vok s (popV o v s) := by
  unfold popV
  repeat' split
  all_goals first
    | exact .inr rfl
    | exact .inl ⟨_, _, rfl, rfl⟩
theorem joinV_ok (o v : MV) (s : MSt) : Vok s (joinV o v s) := by
  unfold joinV
  repeat' split
  all_goals first
    | exact .inr rfl
    | exact .inl ⟨_, _, rfl, rfl⟩
theorem startsV_ok (o v : MV) (s : MSt) : Vok s (startsV o v s) := by
  unfold startsV
  repeat' split
  all_goals first
    | exact .inr rfl
    | exact .inl ⟨_, _, rfl, rfl⟩
theorem indexV_ok (o v : MV) (s : MSt) : Vok s (indexV o v s) := by
  unfold indexV
  repeat' split
  all_goals first
    | exact .inr rfl
    | exact .inl ⟨_, _, rfl, rfl⟩
theorem getDV_ok (o : MV) (xs : List MV) (s : MSt) : Vok s (getDV o xs s) := by
  unfold getDV
  repeat' split
  all_goals first
    | exact .inr rfl
    | exact .inl ⟨_, _, rfl, rfl⟩
theorem mthV_ok (env : MEnv) (fl : Bool) (b : Mth) (o : MV) (xs : List MV) (s : MSt) : Vok s (mthV env fl b o xs s) := by
  cases b <;> first
    | exact .inr rfl
    | exact on1_vok (appV_ok env o) _ _
    | exact on1_vok (extV_ok env o) _ _
    | exact on1_vok (popV_ok o) _ _
    | exact on1_vok (joinV_ok o) _ _
    | exact on1_vok (startsV_ok o) _ _
    | exact on1_vok (indexV_ok o) _ _
    | exact getDV_ok o _ _
def rMth (G : GI) (fl : Bool) (b : Mth) : V → List V → Hp → VK → Prop := fun x xs H Q => ∃ R env s o vs z s1, Lies G R s H ∧ RelM G R o x ∧ RelMs G R vs xs ∧ mthV env fl b o vs s = .ok z s1 ∧ VQ G R H z s1 Q
theorem VQ.write {i : Nat} {o : MO} {u : HO} {z : MV} {b : V} {Q : VK} (h : VQ G R H z (setRef i o s) Q) (l : Lies G R s H) (hi : i < R.n) (r : RelO G R o u) (q : RelM G R z b) : Q b (upd H (R.μ i) u) :=
  h R _ b (Ext.wrS l hi) (l.wr1 hi r) q
theorem lst_at {i : Nat} {ys : List MV} (l : Lies G R s H) (h : s.refs[i]? = some (.lst ys)) : i < R.n ∧ ∃ us, H (R.μ i) = some (.lst us) ∧ RelMs G R ys us := by
  obtain ⟨hi, _, u, hu, ro⟩ := l.ref h
  cases ro with
  | lst rs => exact ⟨hi, _, hu, rs⟩
theorem mr_append (fl : Bool) : MtR X "list.append" (rMth G fl .append) := by
  intro pins sh σ H x xs v us Q I rx rv ⟨R, env, s, o, vs, z, s1, l, ro, rs, e, q⟩
  obtain ⟨w, ev, e2⟩ := on1_ok (f := appV env o) e
  clear e
  subst ev
  obtain ⟨y, rfl, ry⟩ := rs.one
  unfold appV at e2
  split at e2 <;> (try cases e2)
  split at e2 <;> (try cases e2)
  rename_i i ys hy
  split at e2
  · rename_i hz
    obtain ⟨rfl, rfl⟩ := Res.ok_inj e2
    obtain ⟨hi, ws, hw, rw'⟩ := lst_at l hy
    cases ro
    exact mt_append pins sh σ H _ _ v us Q I rx rv ⟨_, ws, y, rfl, rfl, hw, by rw [← rw'.length, ← SZ_eq]; exact hz.1, VQ.write q l hi (.lst (rw'.append (.cons ry .nil))) .non⟩
  · cases e2
theorem mr_extend (fl : Bool) : MtR X "list.extend" (rMth G fl .extend) := by
  intro pins sh σ H x xs v us Q I rx rv ⟨R, env, s, o, vs, z, s1, l, ro, rs, e, q⟩
  obtain ⟨w, ev, e2⟩ := on1_ok (f := extV env o) e
  clear e
  subst ev
  obtain ⟨y, rfl, ry⟩ := rs.one
  unfold extV at e2
  split at e2 <;> (try cases e2)
  split at e2 <;> (try cases e2)
  rename_i i ys hy
  split at e2 <;> (try cases e2)
  rename_i zs hzs
  split at e2
  · rename_i hz
    obtain ⟨rfl, rfl⟩ := Res.ok_inj e2
    obtain ⟨hi, ws, hw, rw'⟩ := lst_at l hy
    obtain ⟨a, us2, rfl, ha, ra⟩ := viewL_rel l ry hzs
    cases ro
    exact mt_extend pins sh σ H _ _ v us Q I rx rv ⟨_, a, ws, us2, rfl, rfl, hw, ha, by rw [← rw'.length, ← ra.length, ← SZ_eq]; exact hz.1, VQ.write q l hi (.lst (rw'.append ra)) .non⟩
  · cases e2
theorem mr_pop (fl : Bool) : MtR X "list.pop" (rMth G fl .popAt) := by
  intro pins sh σ H x xs v us Q I rx rv ⟨R, env, s, o, vs, z, s1, l, ro, rs, e, q⟩
  obtain ⟨w, ev, e2⟩ := on1_ok (f := popV o) e
  clear e
  subst ev
  obtain ⟨y, rfl, ry⟩ := rs.one
  unfold popV at e2
  split at e2 <;> (try cases e2)
  split at e2 <;> (try cases e2)
  rename_i i k ys hy
  split at e2 <;> (try cases e2)
  rename_i hk
  split at e2 <;> (try cases e2)
  rename_i j hj
  split at e2 <;> (try cases e2)
  rename_i hz
  obtain ⟨hi, ws, hw, rw'⟩ := lst_at l hy
  obtain ⟨u, hu, ru⟩ := rw'.get hz
  cases ro
  cases ry
  exact mt_popAt pins sh σ H _ _ v us Q I rx rv ⟨_, ws, _, j, u, rfl, rfl, hw, hk.1, hk.2, by rw [← rw'.length]; exact hj, hu, VQ.write q l hi (.lst (rw'.erase j)) ru⟩
theorem joinL_eq (a : List Nat) : ∀ zs : List (List Nat), Str.join (toS a) (zs.map toS) = toS (joinL a zs)
  | [] => rfl
  | [x] => rfl
  | x :: y :: r => by
    show toS x ++ toS a ++ Str.join (toS a) ((y :: r).map toS) = toS (x ++ a ++ joinL a (y :: r))
    rw [joinL_eq a (y :: r)]
    have r : ∀ i j : List Nat, toS i ++ toS j = toS (i ++ j) := fun i j => by
      show (⟨i.toArray ++ j.toArray⟩ : Str) = _
      simp [toS]
    rw [r, r]
theorem lensL_eq : ∀ zs : List (List Nat), ((zs.map toS).map (·.length)).sum = lensL zs
  | [] => rfl
  | x :: r => by
    show (toS x).length + ((r.map toS).map (·.length)).sum = x.length + lensL r
    rw [lensL_eq r]
    rfl
theorem mr_join (fl : Bool) : MtR X "str.join" (rMth G fl .join) := by
  intro pins sh σ H x xs v us Q I rx rv ⟨R, env, s, o, vs, z, s1, l, ro, rs, e, q⟩
  obtain ⟨w, ev, e2⟩ := on1_ok (f := joinV o) e
  clear e
  subst ev
  obtain ⟨y, rfl, ry⟩ := rs.one
  unfold joinV at e2
  split at e2 <;> (try cases e2)
  rename_i a
  split at e2 <;> (try cases e2)
  rename_i zs hy
  obtain ⟨ys, h1, h2⟩ : ∃ ys, viewQ s w = some ys ∧ strsOf ys = some zs := by
    cases qq : viewQ s w with
    | none => rw [qq] at hy; cases hy
    | some ys => rw [qq] at hy; exact ⟨ys, rfl, hy⟩
  split at e2
  · rename_i hz
    obtain ⟨rfl, rfl⟩ := Res.ok_inj e2
    cases ro
    obtain ⟨p, ws, rfl, hp, rp⟩ := viewQ_rel l ry h1
    rw [strs_of rp h2] at hp
    refine mt_join pins sh σ H _ _ v us Q I rx rv ⟨_, p, zs.map toS, rfl, rfl, hp.imp SqL.of SqT.of, ?_, ?_⟩
    · rw [lensL_eq, List.length_map]
      exact hz
    · have e3 : Txt.join (⟨a.toArray⟩ : Str) (zs.map toS) = toS (joinL a zs) := by
        rw [TL.join_eq]
        exact joinL_eq a zs
      rw [e3]
      exact q.here l (.str _)
  · cases e2
theorem mr_starts (fl : Bool) : MtR X "str.startswith" (rMth G fl .startswith) := by
  intro pins sh σ H x xs v us Q I rx rv ⟨R, env, s, o, vs, z, s1, l, ro, rs, e, q⟩
  obtain ⟨w, ev, e2⟩ := on1_ok (f := startsV o) e
  clear e
  subst ev
  obtain ⟨y, rfl, ry⟩ := rs.one
  unfold startsV at e2
  split at e2 <;> (try cases e2)
  cases ro
  cases ry
  rename_i a b
  refine mt_startswith pins sh σ H _ _ v us Q I rx rv ⟨_, _, rfl, rfl, ?_⟩
  have e3 : Txt.startswith (⟨a.toArray⟩ : Str) (⟨b.toArray⟩ : Str) = (decide (b.length ≤ a.length) && (a.take b.length == b)) := by
    unfold Txt.startswith
    rw [PySem.StrLaws.subAt_eq]
    show (decide (0 + b.toArray.size ≤ a.toArray.size) && (((a.toArray.toList.drop 0).take b.toArray.size) == b.toArray.toList)) = _
    simp
  rw [e3]
  exact q.here l (.bl _)
theorem idxM_at {x : MV} : ∀ {xs : List MV} {k j : Nat}, idxM x xs k = some j → k ≤ j ∧ (∃ y, xs[j - k]? = some y ∧ eqB y x = true) ∧ ∀ m y, m < j - k → xs[m]? = some y → eqB y x = false
  | [], k, j, h => by cases h
  | y :: r, k, j, h => by
    unfold idxM at h
    split at h
    · rename_i q
      cases h
      refine ⟨Nat.le_refl _, ⟨y, ?_, q⟩, fun m y hm => absurd hm (by omega)⟩
      rw [Nat.sub_self]; rfl
    · rename_i q
      obtain ⟨h1, ⟨w, h2, h3⟩, h4⟩ := idxM_at h
      have e : j - k = (j - (k + 1)) + 1 := by omega
      refine ⟨by omega, ⟨w, by rw [e]; exact h2, h3⟩, fun m z hm hz => ?_⟩
      cases m with
      | zero =>
        obtain rfl : y = z := Option.some.inj hz
        cases qq : eqB y x with
        | false => rfl
        | true => exact absurd qq q
      | succ m => exact h4 m z (by omega) hz
theorem rels_back : ∀ {xs : List MV} {us : List V}, RelMs G R xs us → ∀ {i : Nat} {u : V}, us[i]? = some u → ∃ x, xs[i]? = some x ∧ RelM G R x u
  | _, _, .nil, i, u, h => by simp at h
  | _, _, .cons a b, 0, u, h => ⟨_, rfl, by obtain rfl := Option.some.inj h; exact a⟩
  | _, _, .cons a b, i + 1, u, h => rels_back b (i := i) h
theorem mr_index (fl : Bool) : MtR X "list.index" (rMth G fl .index) := by
  intro pins sh σ H x xs v us Q I rx rv ⟨R, env, s, o, vs, z, s1, l, ro, rs, e, q⟩
  obtain ⟨w, ev, e2⟩ := on1_ok (f := indexV o) e
  clear e
  subst ev
  obtain ⟨y, rfl, ry⟩ := rs.one
  unfold indexV at e2
  split at e2 <;> (try cases e2)
  rename_i ys hy
  split at e2 <;> (try cases e2)
  rename_i hf
  split at e2 <;> (try cases e2)
  rename_i j hj
  obtain ⟨hf1, hf2⟩ := Bool.and_eq_true_iff.mp hf
  obtain ⟨p, ws, rfl, hp, rp⟩ := viewL_rel l ro hy
  obtain ⟨_, ⟨t, h2, h3⟩, h4⟩ := idxM_at hj
  rw [Nat.sub_zero] at h2 h4
  obtain ⟨u, hu, ru⟩ := rp.get h2
  have ft : flatM t = true := List.all_eq_true.mp hf2 t (List.mem_of_getElem? h2)
  refine mt_index pins sh σ H _ _ v us Q I rx rv ⟨p, ws, y, j, u, rfl, rfl, SqL.of hp, flat_of ry hf1, flats_of rp hf2, hu, ?_, fun m z' hm hz => ?_, q.here l (.int _)⟩
  · rw [eqV_of ru ry ft hf1]; exact h3
  · obtain ⟨t', ht', rt'⟩ := rels_back rp hz
    have ft' : flatM t' = true := List.all_eq_true.mp hf2 t' (List.mem_of_getElem? ht')
    rw [eqV_of rt' ry ft' hf1]
    exact h4 m t' hm ht'
theorem few_one {m : ME} (h : reg m = true) (p : Pos) (env : Env) : ((backTo p (starEach [un m] env)).all (fun x => !x.1) && (backToKw p (keywordEach [] env)).all (fun x => x.1.isSome)
      && decide ([un m].length + ([] : List Keyword).length + (if ([] : List Keyword).isEmpty then 0 else 1) < 30)) = true := by
  rw [star_reg h]; rfl
theorem Res.bind_assoc {α β γ : Type} (r : Res α) (f : α → MSt → Res β) (g : β → MSt → Res γ) : (r.bind f).bind g = r.bind fun a s => (f a s).bind g := by cases r <;> rfl
theorem list1 {f : ME → MSt → Res MV} {a : ME} (ra : reg a = true) (s : MSt) : listE f [a] s = (f a s).bind fun x s => .ok [x] s := by
  rw [listE_reg ra]; rfl
theorem list2 {f : ME → MSt → Res MV} {a c : ME} (ra : reg a = true) (rc : reg c = true) (s : MSt) : listE f [a, c] s = (f a s).bind fun x s => (f c s).bind fun y s => .ok [x, y] s := by
  rw [listE_reg ra]
  congr 1
  funext x s
  rw [list1 rc, Res.bind_assoc]
  rfl
theorem se_mth {fl : Bool} {b : Mth} {o a : ME} {m : Str} {p1 p : Pos} (hu : X.A.units + 1 < cLine) (hb : b ≠ .get2) (hm : mthOk b m = true) (hl : (p1.endLine == p.line) = true) (ho : SE G P X T W n o) (ab : abok o = true) (ha : SE G P X T W n a) (ra : reg a = true) :
    SE G P X T W (n + 1) (.mth fl b o m [a] p1 p) := by
  have pa : PA X [un a] (tA G P X T W n [a]) := sa_list (ms := [a]) (by show (reg a && true) = true; rw [ra]; rfl) fun m' hm' => by
    rcases List.mem_cons.mp hm' with rfl | h
    · exact ha
    · cases h
  have fin : ∀ (Ty : String), PE X (un (.mth fl b o m [a] p1 p)) (tBM X.K Ty (rMth G fl b) (tE G P X T W n o) (tA G P X T W n [a])) → (∀ R1 s1 v x H1, Lies G R1 s1 H1 → RelM G R1 v x → mthPre b v s1 = true → tyV X.K Ty x H1) → SE G P X T W (n + 1) (.mth fl b o m [a] p1 p) := fun Ty hp hty => PE.imp hp fun σ H Q ⟨R, env, s, S, k⟩ => by
    refine tE.mono (tE_seq S k) fun x H1 ⟨R1, s1, v, e1, S1, r1, k1⟩ => ?_
    cases e : mthPre b v s1 with
    | false => simp only [e] at k1; exact k1.elim
    | true =>
      simp only [e] at k1
      refine ⟨hty R1 s1 v x H1 S1.lies r1 e, ?_⟩
      refine tA.mono (tA_seq S1 k1) fun us H2 ⟨R2, s2, vs, e2, S2, r2, k2⟩ => ?_
      obtain ⟨z, s3, h1, h2⟩ := (mthV_ok env fl b v vs s2).use S2 k2
      exact ⟨R2, env, s2, v, vs, z, s3, S2.lies, r1.later e2 S1.lies.f0, r2, h1, h2⟩
  have hL : ∀ (R1 : RE) (s1 : MSt) (v : MV) (x : V) (H1 : Hp), Lies G R1 s1 H1 → RelM G R1 v x → (viewL s1 v).isSome = true → tyV X.K "list" x H1 := fun R1 s1 v x H1 l r e => by
    obtain ⟨xs, hx⟩ := Option.isSome_iff_exists.mp e
    obtain ⟨q, us, rfl, hq, _⟩ := viewL_rel l r hx
    exact .inl ⟨rfl, us, SqL.of hq⟩
  have hS : ∀ (R1 : RE) (s1 : MSt) (v : MV) (x : V) (H1 : Hp), Lies G R1 s1 H1 → RelM G R1 v x → isStrM v = true → tyV X.K "str" x H1 := fun R1 s1 v x H1 l r e => by
    cases v <;> (try (cases e; done))
    cases r
    rfl
  cases b <;> (try (cases hm; done)) <;> (try (exact absurd rfl hb)) <;> (obtain rfl : m = _ := by simpa [mthOk] using hm)
  · exact fin "list" (pe_bm PySem.F.plainAttrs_list PySem.F.slot_list_append PySem.F.type_list_append (mr_append fl) ho pa (ab_reg ab _ _) (few_one ra _ _) hl (star_reg ra _ _) rfl) hL
  · exact fin "list" (pe_bm PySem.F.plainAttrs_list PySem.F.slot_list_extend PySem.F.type_list_extend (mr_extend fl) ho pa (ab_reg ab _ _) (few_one ra _ _) hl (star_reg ra _ _) rfl) hL
  · exact fin "list" (pe_bm PySem.F.plainAttrs_list PySem.F.slot_list_pop PySem.F.type_list_pop (mr_pop fl) ho pa (ab_reg ab _ _) (few_one ra _ _) hl (star_reg ra _ _) rfl) hL
  · exact fin "str" (pe_bm PySem.F.plainAttrs_str PySem.F.slot_str_join PySem.F.type_str_join (mr_join fl) ho pa (ab_reg ab _ _) (few_one ra _ _) hl (star_reg ra _ _) rfl) hS
  · exact fin "list" (pe_bm PySem.F.plainAttrs_list PySem.F.slot_list_index PySem.F.type_list_index (mr_index fl) ho pa (ab_reg ab _ _) (few_one ra _ _) hl (star_reg ra _ _) rfl) hL
  · -- d.get(k)
    have m1 : M1 X (un o) "get" p1 (un a) p := ⟨ab_reg ab _ _, few_one ra _ _, hl, by rw [star_reg ra]; rfl⟩
    refine PE.imp (pe_dget1 hu ho ha m1) fun σ H Q ⟨R, env, s, S, k⟩ => ?_
    refine tE.mono (tE_seq S k) fun x H1 ⟨R1, s1, v, e1, S1, r1, k1⟩ => ?_
    cases e : mthPre .get1 v s1 with
    | false => simp only [e] at k1; exact k1.elim
    | true =>
      simp only [e] at k1
      obtain ⟨⟨ks0, vs0⟩, hd0⟩ := Option.isSome_iff_exists.mp (show (viewD s1 v).isSome = true from e)
      obtain ⟨ad, kvs0, rfl, had, _, _⟩ := viewD_rel S1.lies r1 hd0
      refine ⟨ad, rfl, .inl ⟨kvs0, Rd.of had⟩, ?_⟩
      rw [list1 ra, Res.bind_assoc] at k1
      refine tE.mono (tE_seq S1 k1) fun y H2 ⟨R2, s2, w, e2, S2, r2, k2⟩ => ?_
      have k2 : Aft G X T W R2 env σ H2 (RelM G) Q (getDV v [w] s2) := k2
      have rv := r1.later e2 S1.lies.f0
      unfold getDV at k2
      cases hd : viewD s2 v with
      | none => rw [hd] at k2; exact k2.elim
      | some kv =>
        obtain ⟨ks, vs⟩ := kv
        rw [hd] at k2
        obtain ⟨ad', kvs, ead, ha', hks, rvs⟩ := viewD_rel S2.lies rv hd
        cases ead
        cases hk : keyOf w with
        | none => simp only [hk] at k2; exact k2.elim
        | some key =>
          simp only [hk] at k2
          obtain ⟨κ, rfl, rfl⟩ := key_of r2 hk
          subst hks
          obtain ⟨l1, l2, _⟩ := look_val rvs κ
          refine ⟨valV kvs κ, DGet.k ha', ?_⟩
          cases hlk : lookK (kM κ) (kvs.map fun p => kM p.1) vs with
          | none => rw [hlk] at k2; rw [l2 hlk]; exact k2.fin S2 .non
          | some z =>
            rw [hlk] at k2
            obtain ⟨u, hu', ru⟩ := l1 z hlk
            rw [hu']
            exact k2.fin S2 ru
  · exact fin "str" (pe_bm PySem.F.plainAttrs_str PySem.F.slot_str_startswith PySem.F.type_str_startswith (mr_starts fl) ho pa (ab_reg ab _ _) (few_one ra _ _) hl (star_reg ra _ _) rfl) hS
theorem se_get2 {fl : Bool} {o a c : ME} {m : Str} {p1 p : Pos} (hu : X.A.units + 1 < cLine) (hm : mthOk .get2 m = true) (hl : (p1.endLine == p.line) = true) (ho : SE G P X T W n o) (ab : abok o = true) (ha : SE G P X T W n a) (ra : reg a = true) (hc : SE G P X T W n c) (rc : reg c = true) :
    SE G P X T W (n + 1) (.mth fl .get2 o m [a, c] p1 p) := by
  obtain rfl : m = _ := by simpa [mthOk] using hm
  have m2 : M2 X (un o) "get" p1 (un a) (un c) p := ⟨ab_reg ab _ _, by rw [star_reg ra, star_reg rc]; rfl, hl, by rw [star_reg ra, star_reg rc]; rfl⟩
  refine PE.imp (pe_dget2 hu ho ha hc m2) fun σ H Q ⟨R, env, s, S, k⟩ => ?_
  refine tE.mono (tE_seq S k) fun x H1 ⟨R1, s1, v, e1, S1, r1, k1⟩ => ?_
  cases e : mthPre .get2 v s1 with
  | false => simp only [e] at k1; exact k1.elim
  | true =>
    simp only [e] at k1
    obtain ⟨⟨ks0, vs0⟩, hd0⟩ := Option.isSome_iff_exists.mp (show (viewD s1 v).isSome = true from e)
    obtain ⟨ad, kvs0, rfl, had, _, _⟩ := viewD_rel S1.lies r1 hd0
    refine ⟨ad, rfl, .inl ⟨kvs0, Rd.of had⟩, ?_⟩
    rw [list2 ra rc, Res.bind_assoc] at k1
    refine tE.mono (tE_seq S1 k1) fun y H2 ⟨R2, s2, w, e2, S2, r2, k2⟩ => ?_
    rw [Res.bind_assoc] at k2
    refine tE.mono (tE_seq S2 k2) fun z H3 ⟨R3, s3, d, e3, S3, r3, k3⟩ => ?_
    have rv := (r1.later e2 S1.lies.f0).later e3 S2.lies.f0
    have rw2 := r2.later e3 S2.lies.f0
    have k3 : Aft G X T W R3 env σ H3 (RelM G) Q (getDV v [w, d] s3) := k3
    unfold getDV at k3
    cases hd : viewD s3 v with
    | none => rw [hd] at k3; exact k3.elim
    | some kv =>
      obtain ⟨ks, vs⟩ := kv
      rw [hd] at k3
      obtain ⟨ad', kvs, ead, ha', hks, rvs⟩ := viewD_rel S3.lies rv hd
      cases ead
      cases hk : keyOf w with
      | none => simp only [hk] at k3; exact k3.elim
      | some key =>
        simp only [hk] at k3
        obtain ⟨κ, rfl, rfl⟩ := key_of rw2 hk
        subst hks
        obtain ⟨l1, l2, _⟩ := look_val rvs κ
        refine ⟨valV kvs κ, DGet.k ha', ?_⟩
        cases hlk : lookK (kM κ) (kvs.map fun p => kM p.1) vs with
        | none => rw [hlk] at k3; rw [l2 hlk]; exact k3.fin S3 r3
        | some z =>
          rw [hlk] at k3
          obtain ⟨u, hu', ru⟩ := l1 z hlk
          rw [hu']
          exact k3.fin S3 ru
/-! ### names of the top -/
theorem se_gfn {i : Nat} {x : Str} {a : Addr} {p : Pos} (hg : Gl X x) (hm : X.mg x = some (.ref a)) (hf : G.fa i = some a) (hd : (x == ("__debug__" : Str)) = false) : SE G P X T W (n + 1) (.gfn i x p) :=
  PE.imp (pe_glob hg hm (v := .ref a) rfl hd) fun σ H Q ⟨R, env, s, S, k⟩ => k.fin S (.fn hf)
theorem se_gct {g : Nat} {x : Str} {u : Value} {b : V} {p : Pos} (hg : Gl X x) (hm : X.mg x = some u) (ru : RelV b u) (hc : ∀ v, P.consts[g]? = some v → ∀ R, RelM G R v b) (hd : (x == ("__debug__" : Str)) = false) : SE G P X T W (n + 1) (.gct g x p) :=
  PE.imp (pe_glob hg hm ru hd) fun σ H Q ⟨R, env, s, S, k⟩ => by
    have k' : Aft G X T W R env σ H (RelM G) Q (opt P.consts[g]? s) := k
    cases e : P.consts[g]? with
    | none => rw [e] at k'; exact k'.elim
    | some v => rw [e] at k'; exact Aft.fin k' S (hc v e R)
end
end Dz

set_option maxRecDepth 100000
set_option maxHeartbeats 4000000
/-! Part M: calls: what a caller hands on, what it gets back. -/
namespace Dz
open PySem L2

/-- what the callee may know of the cells of all waiting frames -/
def CellsT (G : GI) (R : RE) (s : MSt) (outer : List Env) (h : Heap) (H : Hp) : Prop := ∀ id, id < R.m →
  H (R.κ id) = none ∧ R.κ id ∉ frs outer ∧ ∃ w, h.IsCell (R.κ id) w ∧ ∀ mv, (s.cells[id]?).join = some mv → ∃ m u, RelM G R mv m ∧ RelV m u ∧ w = some u
/-- what is wanted behind a call -/
def AftF (G : GI) (T : List (Addr × Str)) (R : RE) (H : Hp) (Q : VK) (E : XK) : Res MV → Prop
  | .ok v s => ∀ R1 H1 b, Ext R H R1 H1 → Lies G R1 s H1 → LamX.Tabs T H1 → RelM G R1 v b → Q b H1
  | .exc c fs s => ∀ R1 H1 d us, Ext R H R1 H1 → Lies G R1 s H1 → LamX.Tabs T H1 → RelMs G R1 fs us → H1 d = some (.xd ((G.fld c).zip us).reverse) → E (.ref (G.cls c)) (some d) H1
  | .bad => False
/-- the cells stay -/
def keepsC (s : MSt) : Res MV → Prop
  | .ok _ s1 => s1.cells = s.cells
  | .exc _ _ s1 => s1.cells = s.cells
  | .bad => True

section
variable {G : GI} {P : Prg} {X : Cx} {T : List (Addr × Str)} {W : WX} {R R1 : RE} {env : MEnv} {s s1 : MSt} {σ : St} {H H1 : Hp} {n : Nat} {pins : List (Addr × Obj)} {sh : Shared}
theorem frs_sub (ok : X.Ok) {b : Addr} (h : b ∉ frs X.stack) : b ∉ X.fs := fun hb => h (by
  rcases ok.stk with e | ⟨e, hf⟩
  · rw [e]; exact hb
  · rw [e]
    obtain ⟨v, hv, q⟩ := List.mem_filterMap.mp hb
    exact List.mem_filterMap.mpr ⟨v, List.mem_cons_of_mem _ hv, q⟩)
theorem Sim.cells (S : Sim G X T R env s σ H) (I : Inv X pins σ H sh) : CellsT G R s X.stack sh.heap H := fun id hid => by
  rcases S.out id hid with ⟨i, hi⟩ | ⟨h1, h2, h3, w, hc, hv⟩
  · obtain ⟨_, x, hN, hl, hk⟩ := S.cel i id hi
    refine ⟨I.freeC x _ hl, S.cfr i id hi, ?_⟩
    obtain ⟨w, hw⟩ := I.cell x _ hl
    refine ⟨w, hw, fun mv e => ?_⟩
    have gv : getV env i s = some mv := by unfold getV; rw [hi]; exact e
    obtain ⟨u, hu, ru⟩ := S.loc i mv gv
    obtain ⟨m, hn, hloc⟩ := I.loc
    obtain ⟨u', ru', hlook⟩ := hloc i x u hN hu (hk.elim (fun z => .inr (.inl z)) fun z => .inr (.inr z))
    refine ⟨u, u', ru, ru', ?_⟩
    rcases hlook with ⟨z, _⟩ | ⟨_, c, hc, z⟩
    · have z' : X.env.scope.names.lookup x = some .local := z
      rcases hk with k | k <;> rw [k] at z' <;> cases z'
    · rw [hl] at hc
      cases hc
      obtain ⟨o1, e1, d1⟩ := hw
      obtain ⟨o2, e2, d2⟩ := z
      rw [e1] at e2
      cases e2
      rw [d1] at d2
      exact (Data.cell.inj d2)
  · obtain ⟨o, ho, hd⟩ := hc
    have nf := frs_sub I.ok h2
    exact ⟨I.base.free _ o ho h1 h3, h2, w, ⟨o, I.base.keep _ o ho h1 nf h3, hd⟩, hv⟩
/-- the wish of a callee -/
theorem Aft.call {Q : VK} {r : Res MV} (S : Sim G X T R env s σ H) (h : Aft G X T W R env σ H (RelM G) Q r) (k : keepsC s r) : AftF G T R H Q (fun cls d H1 => W cls d σ H1) r := by
  cases r with
  | ok v s1 => exact fun R1 H1 b e l t r => h R1 H1 b e (S.liftT e l k t) r
  | exc c fs s1 => exact fun R1 H1 d us e l t r q => h R1 H1 d us e (S.liftT e l k t) r q
  | bad => exact h

/-! ### cut -/
mutual
theorem RelM.low {n m : Nat} {v : MV} {u : V} (r : RelM G R v u) (h : below n m v = true) : RelM G { R with n := n, m := m } v u := by
  cases r with
  | non => exact .non
  | bl b => exact .bl b
  | int i => exact .int i
  | str x => exact .str x
  | tup a b => exact .tup a (RelMs.low b h)
  | lst a b => exact .lst a (RelMs.low b h)
  | dic a k b => exact .dic a k (RelMs.low b h)
  | wd a => exact .wd a
  | fn a => exact .fn a
  | clo a b c d => exact .clo a b c fun i hi => of_decide_eq_true (List.all_eq_true.mp h i hi)
  | ref a => exact RelM.ref (R := { R with n := n, m := m }) (of_decide_eq_true h)
theorem RelMs.low {n m : Nat} {vs : List MV} {us : List V} (r : RelMs G R vs us) (h : belowL n m vs = true) : RelMs G { R with n := n, m := m } vs us := by
  cases r with
  | nil => exact .nil
  | cons a b =>
    have h' := Bool.and_eq_true_iff.mp h
    exact .cons (RelM.low a h'.1) (RelMs.low b h'.2)
end
theorem RelO.low {n m : Nat} {o : MO} {u : HO} (r : RelO G R o u) (h : belowO n m o = true) : RelO G { R with n := n, m := m } o u := by
  cases r with
  | lst a => exact .lst (a.low h)
  | dic k a => exact .dic k (a.low h)
  | deadL us => exact .deadL us
  | deadD us => exact .deadD us
theorem cut_ok {n : Nat} {s0 : MSt} {vs : List MV} {us : List V} (l : Lies G R s H) (hn : n ≤ s.refs.length) (f : fits n s0 s vs = true) (r : RelMs G R vs us) :
    Lies G { R with n := n, m := s0.cells.length } (cutTo n s0 s) H ∧ RelMs G { R with n := n, m := s0.cells.length } vs us := by
  have key : RelMs G { R with n := n, m := s0.cells.length } vs us ∧ ∀ (i : Nat) o u, i < n → s.refs[i]? = some o → RelO G R o u → RelO G { R with n := n, m := s0.cells.length } o u := by
    rcases Bool.or_eq_true_iff.mp f with f | f
    · obtain ⟨f1, f2⟩ := Bool.and_eq_true_iff.mp f
      have e1 : R.n = n := by rw [← l.nr]; exact eq_of_beq f1
      have e2 : R.m = s0.cells.length := by rw [← l.nc]; exact eq_of_beq f2
      rw [← e1, ← e2]
      exact ⟨r, fun i o u _ _ q => q⟩
    · obtain ⟨f1, f2⟩ := Bool.and_eq_true_iff.mp f
      refine ⟨r.low f1, fun i o u hi ho q => q.low (List.all_eq_true.mp f2 o ?_)⟩
      exact List.mem_of_getElem? (i := i) (by rw [List.getElem?_take_of_lt hi]; exact ho)
  refine ⟨⟨?_, rfl, l.fz, fun i o h => ?_, fun i j hi hj q => l.inj i j (Nat.lt_of_lt_of_le hi (by rw [← l.nr]; exact hn)) (Nat.lt_of_lt_of_le hj (by rw [← l.nr]; exact hn)) q⟩, key.1⟩
  · show (s.refs.take n).length = n
    rw [List.length_take]; omega
  · have h : (s.refs.take n)[i]? = some o := h
    have hi : i < n := by
      have := (List.getElem?_eq_some_iff.mp h).1
      rw [List.length_take] at this
      omega
    rw [List.getElem?_take_of_lt hi] at h
    obtain ⟨h1, u, h2, h3⟩ := l.rf i o h
    exact ⟨h1, u, h2, key.2 i o u hi h h3⟩
/-- what a ref stands for, forgotten -/
theorem RelO.forget {o : MO} {u : HO} (r : RelO G R o u) : RelO G R .dead u := by
  cases r with
  | lst a => exact .deadL _
  | dic k a => exact .deadD _
  | deadL us => exact .deadL us
  | deadD us => exact .deadD us
theorem Sim.forget (S : Sim G X T R env s σ H) : Sim G X T R env { s with refs := s.refs.map fun _ => MO.dead } σ H := by
  refine ⟨⟨by show (s.refs.map _).length = _; rw [List.length_map]; exact S.lies.nr, S.lies.nc, S.lies.fz, fun i o h => ?_, S.lies.inj⟩, S.loc, S.len, S.nlen, S.cel, S.cinj, S.cfr, S.out, S.tab⟩
  have h : (s.refs.map fun _ => MO.dead)[i]? = some o := h
  rw [List.getElem?_map] at h
  cases e : s.refs[i]? with
  | none => rw [e] at h; cases h
  | some o' =>
    rw [e] at h
    cases h
    obtain ⟨h1, u, h2, h3⟩ := S.lies.rf i o' e
    exact ⟨h1, u, h2, h3.forget⟩
/-- a stretch's end: more cells at its start, cut at its end -/
theorem Ext.cut {R0 : RE} {m' n : Nat} {κ' : Nat → Addr} (e : Ext { R0 with κ := κ', m := m' } H R1 H1) (hκ : ∀ i, i < R0.m → κ' i = R0.κ i) (hm : R0.m ≤ m') (h1 : R0.n ≤ n) (h2 : n ≤ R1.n) : Ext R0 H { R1 with n := n, m := R0.m } H1 :=
  ⟨e.fr, e.st, h1, Nat.le_refl _, e.mu, fun i a b => e.nw i a (Nat.lt_of_lt_of_le b h2), fun i hi => (e.ka i (Nat.lt_of_lt_of_le hi hm)).trans (hκ i hi), e.kp, e.lf⟩
theorem keeps_ite {c : Prop} [Decidable c] {s : MSt} {r : Res MV} (h : keepsC s r) : keepsC s (if c then r else .bad) := by
  by_cases hc : c
  · rw [if_pos hc]; exact h
  · rw [if_neg hc]; trivial
theorem leave_keeps (esc : Bool) (s0 : MSt) (r : Res MV) : keepsC s0 (leave esc s0 r) := by
  cases r with
  | ok v s => exact keeps_ite rfl
  | exc c fs s => exact keeps_ite rfl
  | bad => trivial
theorem stepF_keeps {r : Ev} {f : Nat} {xs : List MV} (s : MSt) : keepsC s (stepF P r f xs s) := by
  unfold stepF
  split
  · split
    · exact leave_keeps _ _ _
    · trivial
  · trivial
end
end Dz

set_option maxRecDepth 100000
set_option maxHeartbeats 4000000
/-! Part N: what the text must keep to, looked at by a program; the context. -/
namespace Dz
open PySem L2

structure WEnv where
  N : List Str
  sc : Scope
  own : Str → Bool
  q : Str
  lam : Bool
structure Dat where
  fnm : List Str
  ctm : List Str
  clm : List Str
  flds : List (List Str)
  lms : List LInfo
def visB (sc : Scope) (x : Str) : Bool := match sc.names.lookup x with
  | some .local => true
  | some .cell => true
  | some .free => true
  | _ => false
def locB (sc : Scope) (x : Str) : Bool := match sc.names.lookup x with
  | some .local => true
  | some .cell => true
  | _ => false
def isK (sc : Scope) (x : Str) (k : NameKind) : Bool := sc.names.lookup x == some k
def glB (sc : Scope) (x : Str) : Bool := isK sc x .globalImplicit && !(x == ("__debug__" : Str))
def atB (N : List Str) (i : Nat) (x : Str) : Bool := N[i]? == some x
def varB (Γ : WEnv) (i : Nat) (x : Str) : Bool := atB Γ.N i x && visB Γ.sc x && !(x == ("__debug__" : Str)) && !(x == ("__classdict__" : Str))
def blkΓ (Γ : WEnv) (sc : Scope) : WEnv := { Γ with sc := relS sc Γ.sc, own := fun x => sc.names.lookup x == some .cell }
mutual
def tgOwn : ME → List (Str × Nat)
  | .var i x _ => [(x, i)]
  | .tup es _ _ => tgOwns es
  | _ => []
def tgOwns : List ME → List (Str × Nat)
  | [] => []
  | e :: r => tgOwn e ++ tgOwns r
end
mutual
def wfG (Γ : WEnv) : ME → Bool
  | .var i x _ => atB Γ.N i x && locB Γ.sc x && (Γ.own x || isK Γ.sc x .local)
  | .tup es _ _ => wfGs Γ es
  | _ => false
def wfGs (Γ : WEnv) : List ME → Bool
  | [] => true
  | e :: r => wfG Γ e && wfGs Γ r
end
def isTupM : ME → Bool
  | .tup _ _ _ => true
  | _ => false
def isPair : ME → Bool
  | .zip _ _ _ _ => true
  | .enm _ _ _ => true
  | _ => false
def lamB (D : Dat) (P : Prg) (Γ : WEnv) (j : Nat) (args : Arguments) (sc : Scope) : Bool :=
  Γ.lam && args.defaults.isEmpty && args.kw_defaults.isEmpty && (match D.lms[j]?, P.lams[j]? with
    | some L, some d => L.qual == Γ.q ++ "<lambda>" && (d.caps.map fun c => Γ.N[c.2]?) == L.fr.map some && ((sc.names.filter fun y => y.2 == .free).reverse.map (·.1)) == L.fr &&
        L.fr.all (fun x => isK Γ.sc x .cell || isK Γ.sc x .free)
    | _, _ => false)
def celB (Γ : WEnv) (sc : Scope) (own : List (Str × Nat)) (cell : Option Nat × List Nat) : Bool :=
  (cell.2.all fun i => match Γ.N[i]? with
    | some x => isK sc x .free
    | none => false) && (match cell.1 with
    | none => own.all fun p => isK sc p.1 .local
    | some i => (own.any fun p => p.2 == i && isK sc p.1 .cell) && own.all fun p => if p.2 = i then isK sc p.1 .cell else isK sc p.1 .local)
def mthN : Mth → Nat
  | .get2 => 2
  | _ => 1
mutual
def wfE (D : Dat) (P : Prg) (Γ : WEnv) : ME → Bool
  | .cst v c _ _ => cstOk v c
  | .var i x _ => varB Γ i x
  | .gfn i x _ => glB Γ.sc x && D.fnm[i]? == some x
  | .gct g x _ => glB Γ.sc x && D.ctm[g]? == some x
  | .bin a _ b _ => wfE D P Γ a && wfE D P Γ b
  | .neg a _ => wfE D P Γ a
  | .notE a _ => wfE D P Γ a
  | .andE as _ => wfL D P Γ as
  | .orE as _ => wfL D P Γ as
  | .cmp a _ b _ => wfE D P Γ a && wfE D P Γ b && reg b
  | .chn a _ b _ c _ => wfE D P Γ a && wfE D P Γ b && wfE D P Γ c && reg b && reg c
  | .isN a _ _ _ _ => wfE D P Γ a
  | .tyS a _ _ _ _ _ => wfE D P Γ a && reg a && glB Γ.sc "type" && glB Γ.sc "str"
  | .isi a ts one _ _ _ _ => wfE D P Γ a && reg a && glB Γ.sc "isinstance" && ts.all (fun q => glB Γ.sc q.2.1) && tysOk ts && !ts.isEmpty && (!one || ts.length == 1) && decide (ts.length ≤ 100)
  | .ife t a b _ => wfE D P Γ t && wfE D P Γ a && wfE D P Γ b
  | .tup es _ _ => wfL D P Γ es && regS es
  | .lst _ es _ => wfL D P Γ es && regS es
  | .star e _ => wfE D P Γ e
  | .dic _ ks vs _ => ks.isEmpty && vs.isEmpty
  | .sub a i _ => wfE D P Γ a && wfE D P Γ i && reg i
  | .slc _ a lo hi _ _ => wfE D P Γ a && wfO D P Γ lo && wfO D P Γ hi
  | .call f x as _ _ => glB Γ.sc x && D.fnm[f]? == some x && wfL D P Γ as && regs as
  | .callk _ _ _ _ _ _ _ _ => false
  | .blt _ b x as _ _ => bltOk b x && glB Γ.sc x && wfL D P Γ as && regs as && !as.isEmpty
  | .mth _ b o m as p1 p => mthOk b m && (p1.endLine == p.line) && wfE D P Γ o && abok o && wfL D P Γ as && regs as && as.length == mthN b
  | .cal i x as _ _ => varB Γ i x && wfL D P Γ as && regs as
  | .lam j args _ sc _ => lamB D P Γ j args sc
  | .lcm _ elt tg src ifs sc cell _ => blkC Γ.N Γ.sc sc (tgOwn tg) && wfE D P Γ src && (!isPair src || isTupM tg) && reg src && wfG (blkΓ Γ sc) tg && wfL D P (blkΓ Γ sc) ifs && decide (ifs.length ≤ 1) && wfE D P (blkΓ Γ sc) elt && celB Γ sc (tgOwn tg) cell
  | .allC elt tg src ifs sc cell _ _ _ => glB Γ.sc "all" && blkC Γ.N Γ.sc sc (tgOwn tg) && wfE D P Γ src && (!isPair src || isTupM tg) && reg src && wfG (blkΓ Γ sc) tg && wfL D P (blkΓ Γ sc) ifs && decide (ifs.length ≤ 1) && wfE D P (blkΓ Γ sc) elt && celB Γ sc (tgOwn tg) cell
  | .itm _ d _ p2 p3 _ => glB Γ.sc "list" && wfE D P Γ d && abok d && (p2.endLine == p3.line)
  | .zip a b _ _ => glB Γ.sc "zip" && wfE D P Γ a && wfE D P Γ b && reg a && reg b
  | .enm a _ _ => glB Γ.sc "enumerate" && wfE D P Γ a && reg a
  | .rng as _ _ => glB Γ.sc "range" && wfL D P Γ as && regs as
  | .xfl _ _ _ _ _ _ => false
  | .nev _ => false
def wfL (D : Dat) (P : Prg) (Γ : WEnv) : List ME → Bool
  | [] => true
  | m :: r => wfE D P Γ m && wfL D P Γ r
def wfO (D : Dat) (P : Prg) (Γ : WEnv) : Option ME → Bool
  | none => true
  | some m => wfE D P Γ m
end

/-! the lambdas in it -/
abbrev LamAt := Nat × Arguments × Expr × Scope
mutual
def lamList : ME → List LamAt
  | .bin a _ b _ => lamList a ++ lamList b
  | .neg a _ => lamList a
  | .notE a _ => lamList a
  | .andE as _ => lamListL as
  | .orE as _ => lamListL as
  | .cmp a _ b _ => lamList a ++ lamList b
  | .chn a _ b _ c _ => lamList a ++ (lamList b ++ lamList c)
  | .isN a _ _ _ _ => lamList a
  | .tyS a _ _ _ _ _ => lamList a
  | .isi a _ _ _ _ _ _ => lamList a
  | .ife t a b _ => lamList t ++ (lamList a ++ lamList b)
  | .tup es _ _ => lamListL es
  | .lst _ es _ => lamListL es
  | .star e _ => lamList e
  | .sub a i _ => lamList a ++ lamList i
  | .slc _ a lo hi _ _ => lamList a ++ (lamListO lo ++ lamListO hi)
  | .call _ _ as _ _ => lamListL as
  | .blt _ _ _ as _ _ => lamListL as
  | .mth _ _ o _ as _ _ => lamList o ++ lamListL as
  | .cal _ _ as _ _ => lamListL as
  | .lam j args body sc _ => [(j, args, un body, sc)]
  | .lcm _ elt tg src ifs _ _ _ => lamList src ++ (lamListL ifs ++ lamList elt)
  | .allC elt tg src ifs _ _ _ _ _ => lamList src ++ (lamListL ifs ++ lamList elt)
  | .itm _ d _ _ _ _ => lamList d
  | .zip a b _ _ => lamList a ++ lamList b
  | .enm a _ _ => lamList a
  | .rng as _ _ => lamListL as
  | _ => []
def lamListL : List ME → List LamAt
  | [] => []
  | m :: r => lamList m ++ lamListL r
def lamListO : Option ME → List LamAt
  | none => []
  | some m => lamList m
end
/-- statements -/
def simTg : ME → Bool
  | .var _ _ _ => true
  | _ => false
def isLcm : ME → Bool
  | .lcm _ _ _ _ _ _ _ _ => true
  | _ => false
/-- name = [..] as the text has it: the name a local, on one line, or a cell -/
def swB (Γ : WEnv) : ME → ME → Pos → Bool
  | .var _ x p, .lcm _ _ _ _ _ sc _ q, pos => isK Γ.sc x .local && (p.line == q.line) && !(sc.names.any fun y => y.1 == x && (y.2 == .local || y.2 == .cell))
  | _, _, _ => false
def isTup (m : ME) : Bool := isTupM m
def tgPair (Γ : WEnv) : ME → ME → Bool
  | .tup [.var i x _, .var j y _] _ _, .tup [a, b] _ _ => atB Γ.N i x && atB Γ.N j y && decide (i ≠ j) && isK Γ.sc x .local && isK Γ.sc y .local && noComp a && noComp b && reg a && reg b
  | _, _ => false
def hdB (D : Dat) (Γ : WEnv) : Nat × Str × Pos × Option Str × ME × Pos × Pos → Bool
  | (c, x, _, n, _, _, _) => glB Γ.sc x && D.clm[c]? == some x && (match n with
    | some n => isK Γ.sc n .local && Γ.N.contains n
    | none => true)
mutual
/-- what a handler tells -/
def hdE (D : Dat) (Γ : WEnv) (c : Nat) : Option Str → ME → Bool
  | n, .cst v k _ _ => cstOk v k
  | n, .xfl i x f k _ _ => n == some x && ((D.flds[c]?).getD [])[k]? == some f && decide ((D.flds[c]?).getD []).Nodup && atB Γ.N i x && isK Γ.sc x .local && !(x == ("__debug__" : Str)) && !(x == ("__classdict__" : Str))
  | n, .tup es _ _ => hdEs D Γ c n es && decide (es.length ≤ 100)
  | _, _ => false
def hdEs (D : Dat) (Γ : WEnv) (c : Nat) : Option Str → List ME → Bool
  | _, [] => true
  | n, e :: r => hdE D Γ c n e && hdEs D Γ c n r
end
mutual
def wfS (D : Dat) (P : Prg) (Γ : WEnv) : MS → Bool
  | .asg tg e p => wfE D P Γ e && reg e && ((wfG Γ tg && simTg tg) || (wfG Γ tg && isTupM tg && !isTupM e && noComp e))
  | .asS o i e _ _ => wfE D P Γ e && wfE D P Γ o && wfE D P Γ i && noComp e && reg e && reg o && reg i
  | .exp e _ => wfE D P Γ e && noComp e && reg e
  | .ret e _ => wfE D P Γ e && reg e
  | .retN _ => true
  | .iff t a b _ => wfE D P Γ t && wfB D P Γ a && wfB D P Γ b
  | .for tg src b _ => wfE D P Γ src && (!isPair src || isTupM tg) && reg src && wfG Γ tg && wfB D P Γ b
  | .whl t b _ => wfE D P Γ t && wfB D P Γ b
  | .brk _ => true
  | .con _ => true
  | .pas _ => true
  | .rai c x as _ _ _ => glB Γ.sc x && D.clm[c]? == some x && wfL D P Γ as && regs as && !as.isEmpty && as.length == ((D.flds[c]?).getD []).length
  | .try1 b hs _ => wfB D P Γ b && !hs.isEmpty && hs.all (fun h => hdB D Γ h && hdE D Γ h.1 h.2.2.2.1 h.2.2.2.2.1)
  | .nev _ => true
def wfB (D : Dat) (P : Prg) (Γ : WEnv) : List MS → Bool
  | [] => true
  | m :: r => wfS D P Γ m && wfB D P Γ r
end
mutual
def lamListS : MS → List LamAt
  | .asg tg e p => lamList e
  | .asS o i e _ _ => lamList e ++ (lamList o ++ lamList i)
  | .exp e _ => lamList e
  | .ret e _ => lamList e
  | .iff t a b _ => lamList t ++ (lamListB a ++ lamListB b)
  | .for tg src b _ => lamList src ++ lamListB b
  | .whl t b _ => lamList t ++ lamListB b
  | .rai c x as _ _ _ => lamListL as
  | .try1 b hs _ => lamListB b
  | _ => []
def lamListB : List MS → List LamAt
  | [] => []
  | m :: r => lamListS m ++ lamListB r
end
def lamHold (D : Dat) (l : List LamAt) : Prop := ∀ p ∈ l, ∃ L, D.lms[p.1]? = some L ∧ L.params = p.2.1 ∧ L.body = p.2.2.1 ∧ L.scope = p.2.2.2
theorem lamHold.nil {D : Dat} : lamHold D [] := fun p hp => by cases hp
theorem lamHold.cons {D : Dat} {l : List LamAt} {j : Nat} {a : Arguments} {e : Expr} {s : Scope} {L : LInfo} (h : D.lms[j]? = some L) (h1 : L.params = a) (h2 : L.body = e) (h3 : L.scope = s) (r : lamHold D l) : lamHold D ((j, a, e, s) :: l) := fun p hp => by
  rcases List.mem_cons.mp hp with rfl | hp
  · exact ⟨L, h, h1, h2, h3⟩
  · exact r p hp
theorem lamHold.left {D : Dat} {a b : List LamAt} (h : lamHold D (a ++ b)) : lamHold D a := fun p hp => h p (List.mem_append_left _ hp)
theorem lamHold.right {D : Dat} {a b : List LamAt} (h : lamHold D (a ++ b)) : lamHold D b := fun p hp => h p (List.mem_append_right _ hp)
def WF (D : Dat) (P : Prg) (Γ : WEnv) (m : ME) : Prop := wfE D P Γ m = true ∧ lamHold D (lamList m)
def WFB (D : Dat) (P : Prg) (Γ : WEnv) (b : List MS) : Prop := wfB D P Γ b = true ∧ lamHold D (lamListB b)
def WFS (D : Dat) (P : Prg) (Γ : WEnv) (b : MS) : Prop := wfS D P Γ b = true ∧ lamHold D (lamListS b)
theorem WF.each {D : Dat} {P : Prg} {Γ : WEnv} : ∀ {ms : List ME}, wfL D P Γ ms = true → lamHold D (lamListL ms) → ∀ m ∈ ms, WF D P Γ m
  | [], _, _, m, hm => by cases hm
  | e :: r, h, hl, m, hm => by
    have h' := Bool.and_eq_true_iff.mp h
    rcases List.mem_cons.mp hm with rfl | hm
    · exact ⟨h'.1, hl.left⟩
    · exact WF.each h'.2 hl.right m hm
theorem WF.inner {D : Dat} {P : Prg} {Γ : WEnv} {m : ME} (h : WF D P Γ m) : WF D P Γ (innerS m) := by
  cases m <;> exact h
theorem WFB.each {D : Dat} {P : Prg} {Γ : WEnv} : ∀ {ms : List MS}, WFB D P Γ ms → ∀ m ∈ ms, WFS D P Γ m
  | [], _, m, hm => by cases hm
  | e :: r, h, m, hm => by
    have h' := Bool.and_eq_true_iff.mp h.1
    rcases List.mem_cons.mp hm with rfl | hm
    · exact ⟨h'.1, h.2.left⟩
    · exact WFB.each ⟨h'.2, h.2.right⟩ m hm

/-- the context of a def's body, a lambda's, a comprehension's -/
structure Ctx (prog0 : Program) (w0 : World) (K0 : PySem.W.Frag) (mg0 : Str → Option Value) (base0 : Heap) (T : List (Addr × Str)) (Γ : WEnv) (k : Nat) (X : Cx) : Prop where
  prog : X.prog = prog0
  w : X.w = w0
  K : X.K = K0
  mg : X.mg = mg0
  base : X.base = base0
  N : X.N = Γ.N
  sc : X.env.scope = Γ.sc
  q : X.env.qual = Γ.q
  nd : Γ.N.Nodup
  room : Room (k + 2) X.A
  calm : X.calm = true
  own : ∀ x, Γ.own x = true → X.fn x = true
  lam : Γ.lam = true → ∃ c Pt, X.env.code = .ref c ∧ LamX.TabB base0 mg0 c Pt ∧ (Pt, Γ.q ++ "<lambda>") ∈ T ∧ ∀ p ∈ T, p.1 = Pt → p.2 = Γ.q ++ "<lambda>"
end Dz

set_option maxRecDepth 100000
set_option maxHeartbeats 4000000
/-! Part O: a def entered and left. -/
namespace Dz
open PySem L2

/-- how a statement ends -/
def EndF (G : GI) (R : RE) (D : Ends) (fe : Fl × MEnv) (env : MEnv) (σ : St) (H : Hp) : Prop := match fe.1 with
  | .nxt => env = fe.2 → D.nx σ H
  | .ret v => ∀ b, RelM G R v b → D.rt b H
  | .brk => env = fe.2 → D.bk σ H
  | .con => env = fe.2 → D.ct σ H
def AftS (G : GI) (X : Cx) (T : List (Addr × Str)) (W : WX) (R : RE) (H : Hp) (D : Ends) : Res (Fl × MEnv) → Prop
  | .ok fe s => ∀ R1 H1 σ1 env1, Ext R H R1 H1 → Sim G X T R1 env1 s σ1 H1 → EndF G R1 D fe env1 σ1 H1
  | .exc c fs s => ∀ R1 H1 σ1 env1 d us, Ext R H R1 H1 → Sim G X T R1 env1 s σ1 H1 → RelMs G R1 fs us → H1 d = some (.xd ((G.fld c).zip us).reverse) → W (.ref (G.cls c)) (some d) σ1 H1
  | .bad => False
def tB (G : GI) (P : Prg) (X : Cx) (T : List (Addr × Str)) (W : WX) (n : Nat) (b : List MS) : TS := fun D σ H => ∃ R env s, Sim G X T R env s σ H ∧ AftS G X T W R H D ((ev P n).s env b s)
def t1 (G : GI) (P : Prg) (X : Cx) (T : List (Addr × Str)) (W : WX) (n : Nat) (m : MS) : TS := fun D σ H => ∃ R env s, Sim G X T R env s σ H ∧ AftS G X T W R H D (stm P.ncls (ev P n) env m s)
def SB (G : GI) (P : Prg) (X : Cx) (T : List (Addr × Str)) (W : WX) (n : Nat) (b : List MS) : Prop := PSs X (unB b) (tB G P X T W n b)
def S1 (G : GI) (P : Prg) (X : Cx) (T : List (Addr × Str)) (W : WX) (n : Nat) (m : MS) : Prop := PS X (unM m) (t1 G P X T W n m)

section
variable (prog0 : Program) (w0 : World) (K0 : PySem.W.Frag) (mg0 : Str → Option Value) (base0 : Heap) (T : List (Addr × Str)) (G : GI) (P : Prg) (D : Dat)
/-- a def's promise at fuel n -/
def FS (n : Nat) : Prop := ∀ (f : Nat) (a : Addr), G.fa f = some a → ∀ (A : Around) (outer : List Env) (sh : Shared) (H : Hp) (us : List Value) (vs : List V) (xs : List MV) (Q : VK) (E : XK) (R : RE) (s : MSt),
  Room (n + 2) A → Env0 prog0 w0 K0 mg0 base0 A outer sh H → Lies G R s H → LamX.Tabs T H → CellsT G R s outer sh.heap H → Vals vs us → RelMs G R xs vs → AftF G T R H Q E ((ev P n).f f xs s) →
  codeAny (model prog0 w0) A (.call (.ref a) ⟨us, []⟩) (CR (L2.CX prog0 w0) outer prog0 w0 H sh Q E) sh
/-- what the defs' text and the top's objects say -/
structure FOk (d : FDef) (a : Addr) (name qual : Str) (params : Arguments) (scope : Scope) (dV kV doc pm cdv ct oc : Value) (an od : Option Addr) (osl : Array (Option Value)) (N ps : List Str) : Prop where
  lk : K0.lookup a = some ⟨oc, od, .func (PySem.W.fnOf name qual params (unB d.body) scope dV kV doc pm an cdv ct), osl⟩
  cd : PySem.W.codeIn K0 cdv qual = true
  sc : FnScope N ps scope
  bind : ∀ us : List Value, us.length = ps.length → bindArgs (PySem.W.fnOf name qual params (unB d.body) scope dV kV doc pm an cdv ct) ⟨us, []⟩ = pure (ps.zip us)
  np : ps.length = d.np
  nsl : N.length = d.nsl
  cels : ∀ i ∈ d.cels, ∃ x, N[i]? = some x ∧ scope.names.lookup x = some .cell
  cnd : d.cels.Nodup
  wf : WFB D P ⟨N, scope, fun _ => true, qual ++ ".<locals>.", d.lam⟩ d.body
  lam : d.lam = true → ∃ c Pt, cdv = .ref c ∧ LamX.TabB base0 mg0 c Pt ∧ (Pt, qual ++ ".<locals>." ++ "<lambda>") ∈ T ∧ ∀ p ∈ T, p.1 = Pt → p.2 = qual ++ ".<locals>." ++ "<lambda>"
  keep : PySem.W.keepIn K0 (.ref a) = true
end
theorem cellsFor_get (cels : List Nat) (m : Nat) : ∀ (k i : Nat), i < k → (cellsFor cels k m)[i]? = some ((cels.findIdx? (· == i)).map (m + ·))
  | 0, i, h => absurd h (Nat.not_lt_zero i)
  | k + 1, i, h => by
    have hl : ∀ k, (cellsFor cels k m).length = k := fun k => by
      induction k with
      | zero => rfl
      | succ k ih => unfold cellsFor; rw [List.length_append, ih]; rfl
    unfold cellsFor
    by_cases q : i < k
    · rw [List.getElem?_append_left (by rw [hl]; exact q)]
      exact cellsFor_get cels m k i q
    · have e : i = k := by omega
      subst e
      rw [List.getElem?_append_right (by rw [hl]; exact Nat.le_refl _), hl, Nat.sub_self]
      rfl
theorem cellsFor_len (cels : List Nat) (m : Nat) : ∀ k, (cellsFor cels k m).length = k
  | 0 => rfl
  | k + 1 => by unfold cellsFor; rw [List.length_append, cellsFor_len cels m k]; rfl
theorem cellsFor_some {cels : List Nat} {m k i id : Nat} (h : (cellsFor cels k m)[i]? = some (some id)) : i < k ∧ ∃ j, id = m + j ∧ cels[j]? = some i := by
  have hi : i < k := by
    have := (List.getElem?_eq_some_iff.mp h).1
    rw [cellsFor_len] at this; exact this
  rw [cellsFor_get cels m k i hi] at h
  have h := Option.some.inj h
  cases q : cels.findIdx? (· == i) with
  | none => rw [q] at h; cases h
  | some j =>
    rw [q] at h
    refine ⟨hi, j, (Option.some.inj h).symm, ?_⟩
    obtain ⟨hj, hb, _⟩ := List.findIdx?_eq_some_iff_getElem.mp q
    rw [List.getElem?_eq_getElem hj]
    exact congrArg some (eq_of_beq hb)
theorem cellsFor_none {cels : List Nat} {m k i : Nat} (hi : i < k) (h : ∀ id, (cellsFor cels k m)[i]? ≠ some (some id)) : (cellsFor cels k m)[i]? = some none := by
  have q := cellsFor_get cels m k i hi
  cases e : (cels.findIdx? (· == i)).map (m + ·) with
  | none => rw [e] at q; exact q
  | some id => rw [e] at q; exact absurd q (h id)
theorem cellsFor_has {cels : List Nat} {m k j i : Nat} (nd : cels.Nodup) (hj : cels[j]? = some i) (hi : i < k) : (cellsFor cels k m)[i]? = some (some (m + j)) := by
  have q := cellsFor_get cels m k i hi
  have e : cels.findIdx? (· == i) = some j := by
    obtain ⟨hl, he⟩ := List.getElem?_eq_some_iff.mp hj
    refine List.findIdx?_eq_some_iff_getElem.mpr ⟨hl, by rw [he]; exact beq_self_eq_true i, fun k hk => ?_⟩
    intro z
    have z' : cels[k] = i := eq_of_beq z
    exact List.pairwise_iff_getElem.mp nd k j (Nat.lt_trans hk hl) hl hk (z'.trans he.symm)
  rw [q, e]; rfl
section
variable {prog0 : Program} {w0 : World} {K0 : PySem.W.Frag} {mg0 : Str → Option Value} {base0 : Heap} {T : List (Addr × Str)} {G : GI} {P : Prg} {D : Dat}
theorem enter_sim {d : FDef} {a : Addr} {qual : Str} {scope : Scope} {cdv : Value} {N ps : List Str} {CX : CXT} {A : Around} {outer : List Env} {sh : Shared} {H : Hp} {vs : List V} {xs : List MV} {E : XK} {R : RE} {s : MSt}
    (S : FnScope N ps scope) (e0 : Env0 prog0 w0 K0 mg0 base0 A outer sh H) (l : Lies G R s H) (t : LamX.Tabs T H) (c : CellsT G R s outer sh.heap H) (rv : RelMs G R xs vs) (hx : xs.length = ps.length) (hn : N.length = d.nsl)
    (hc : ∀ i ∈ d.cels, ∃ x, N[i]? = some x ∧ scope.names.lookup x = some .cell) (cnd : d.cels.Nodup) :
    ∃ κ' : Nat → Addr, (∀ i, i < R.m → κ' i = R.κ i) ∧ Sim G (cxOf CX prog0 w0 K0 mg0 base0 N qual scope a cdv A outer sh H E) T { R with κ := κ', m := R.m + d.cels.length } (enter d xs s).1 (enter d xs s).2 (L2.start N vs) H := by
  have hpl : ps.length ≤ N.length := by
    have q := congrArg List.length S.pre
    rw [List.length_take] at q
    omega
  have hxs : xs.length ≤ d.nsl := by rw [hx, ← hn]; exact hpl
  have hvl : xs.length = vs.length := rv.length
  let at_ : Nat → Addr := fun j => ((cellsFrom (sh.heap.objs.size + 1) scope.names []).lookup (((d.cels[j]?).bind fun i => N[i]?).getD "")).getD 0
  refine ⟨fun id => if id < R.m then R.κ id else at_ (id - R.m), fun i hi => if_pos hi, ?_⟩
  have ext : Ext R H { R with κ := fun id => if id < R.m then R.κ id else at_ (id - R.m), m := R.m + d.cels.length } H :=
    ⟨fun _ _ h => h, fun _ h => h, Nat.le_refl _, Nat.le_add_right _ _, fun _ _ => rfl, fun i h1 h2 => absurd h1 (Nat.not_le.mpr h2), fun i hi => if_pos hi, fun _ _ h _ _ => h, fun _ _ _ _ h => h⟩
  have own : ∀ (j i : Nat), d.cels[j]? = some i → ∃ x c, N[i]? = some x ∧ scope.names.lookup x = some .cell ∧ (cellsFrom (sh.heap.objs.size + 1) scope.names []).lookup x = some c ∧ at_ j = c ∧ sh.heap.objs.size < c := fun j i hj => by
    obtain ⟨x, hN, hk⟩ := hc i (List.mem_of_getElem? hj)
    obtain ⟨c, hl⟩ := cell_has (n := sh.heap.objs.size + 1) hk
    refine ⟨x, c, hN, hk, hl, ?_, ?_⟩
    · show ((cellsFrom (sh.heap.objs.size + 1) scope.names []).lookup (((d.cels[j]?).bind fun i => N[i]?).getD "")).getD 0 = c
      rw [hj]
      show ((cellsFrom (sh.heap.objs.size + 1) scope.names []).lookup ((N[i]?).getD "")).getD 0 = c
      rw [hN]
      show ((cellsFrom (sh.heap.objs.size + 1) scope.names []).lookup x).getD 0 = c
      rw [hl]; rfl
    · have hm := PySem.mem_of_lookup hl
      rw [← Heap.size_push sh.heap { cls := .type "dict", data := .dict #[] }] at hm
      rcases cells_mem hm with z | ⟨_, z, _⟩
      · cases z
      · rw [Heap.size_push] at z; exact z
  have frLt : ∀ b ∈ frs outer, b < sh.heap.objs.size := fun b hb => by
    obtain ⟨_, o, e, _⟩ := e0.funs.mem hb
    exact Heap.lt_size e
  have ncell : (enter d xs s).2.cells.length = R.m + d.cels.length := by
    show (s.cells ++ d.cels.map fun i => xs[i]?).length = _
    rw [List.length_append, List.length_map, l.nc]
  refine ⟨⟨l.nr, ncell, l.fz, fun i o h => ?_, l.inj⟩, fun i v h => ?_, ?_, ?_, fun i id h => ?_, fun i j id h1 h2 => ?_, fun i id h => ?_, fun id hid => ?_, t⟩
  · obtain ⟨h1, u, h2, h3⟩ := l.rf i o h
    exact ⟨h1, u, h2, h3.later ext l.f0⟩
  · -- the values
    have key : ∃ x, xs[i]? = some x ∧ v = x := by
      have h : (match (cellsFor d.cels d.nsl s.cells.length)[i]? with
        | some (some id) => (((s.cells ++ d.cels.map fun i => xs[i]?))[id]?).join
        | _ => ((xs.map some ++ List.replicate (d.nsl - xs.length) none)[i]?).join) = some v := h
      by_cases hq : ∃ id, (cellsFor d.cels d.nsl s.cells.length)[i]? = some (some id)
      · obtain ⟨id, hq⟩ := hq
        rw [hq] at h
        obtain ⟨_, j, rfl, hj⟩ := cellsFor_some hq
        have h : ((s.cells ++ d.cels.map fun i => xs[i]?)[s.cells.length + j]?).join = some v := h
        rw [List.getElem?_append_right (Nat.le_add_right _ _), Nat.add_sub_cancel_left, List.getElem?_map, hj] at h
        have h : xs[i]? = some v := h
        exact ⟨v, h, rfl⟩
      · have h : ((xs.map some ++ List.replicate (d.nsl - xs.length) none)[i]?).join = some v := by
          split at h
          · rename_i id e; exact absurd ⟨id, e⟩ hq
          · exact h
        by_cases hi : i < xs.length
        · rw [List.getElem?_append_left (by rw [List.length_map]; exact hi), List.getElem?_map, List.getElem?_eq_getElem hi] at h
          have h : some xs[i] = some v := h
          exact ⟨xs[i], List.getElem?_eq_getElem hi, (Option.some.inj h).symm⟩
        · rw [List.getElem?_append_right (by rw [List.length_map]; omega), List.getElem?_replicate] at h
          split at h <;> cases h
    obtain ⟨x, hxi, rfl⟩ := key
    obtain ⟨u, hu, ru⟩ := rv.get hxi
    refine ⟨u, ?_, ru.later ext l.f0⟩
    unfold L2.start
    rw [List.getElem?_append_left (by rw [List.length_map]; exact (List.getElem?_eq_some_iff.mp hu).1), List.getElem?_map, hu]
    rfl
  · show (L2.start N vs).length = (xs.map some ++ List.replicate (d.nsl - xs.length) none).length
    unfold L2.start
    simp only [List.length_append, List.length_map, List.length_replicate]
    omega
  · show (L2.start N vs).length = N.length
    unfold L2.start
    simp only [List.length_append, List.length_map, List.length_replicate]
    omega
  · have h : (cellsFor d.cels d.nsl s.cells.length)[i]? = some (some id) := h
    obtain ⟨hi, j, rfl, hj⟩ := cellsFor_some h
    obtain ⟨x, c, hN, hk, hl, ha, _⟩ := own j i hj
    have hjl : j < d.cels.length := (List.getElem?_eq_some_iff.mp hj).1
    refine ⟨by show s.cells.length + j < R.m + d.cels.length; rw [l.nc]; omega, x, hN, ?_, .inl hk⟩
    show (cellsFrom (sh.heap.objs.size + 1) scope.names []).lookup x = some (if s.cells.length + j < R.m then R.κ (s.cells.length + j) else at_ (s.cells.length + j - R.m))
    rw [l.nc, if_neg (by omega), Nat.add_sub_cancel_left, ha]
    exact hl
  · have h1 : (cellsFor d.cels d.nsl s.cells.length)[i]? = some (some id) := h1
    have h2 : (cellsFor d.cels d.nsl s.cells.length)[j]? = some (some id) := h2
    obtain ⟨_, p, e1, hp⟩ := cellsFor_some h1
    obtain ⟨_, q, e2, hq⟩ := cellsFor_some h2
    have : p = q := by omega
    subst this
    rw [hp] at hq
    exact Option.some.inj hq
  · have h : (cellsFor d.cels d.nsl s.cells.length)[i]? = some (some id) := h
    obtain ⟨_, j, rfl, hj⟩ := cellsFor_some h
    obtain ⟨x, c, _, _, _, ha, hlt⟩ := own j i hj
    show (if s.cells.length + j < R.m then R.κ (s.cells.length + j) else at_ (s.cells.length + j - R.m)) ∉ sh.heap.objs.size :: frs outer
    rw [l.nc, if_neg (by omega), Nat.add_sub_cancel_left, ha]
    intro hm
    rcases List.mem_cons.mp hm with z | z
    · exact absurd hlt (by rw [z]; exact Nat.lt_irrefl _)
    · exact absurd (Nat.lt_trans hlt (frLt c z)) (Nat.lt_irrefl _)
  · have hid : id < R.m + d.cels.length := hid
    by_cases hq : id < R.m
    · refine .inr ?_
      obtain ⟨h1, h2, w, hw, hv⟩ := c id hq
      have eκ : (if id < R.m then R.κ id else at_ (id - R.m)) = R.κ id := if_pos hq
      show H (if id < R.m then R.κ id else at_ (id - R.m)) = none ∧ (if id < R.m then R.κ id else at_ (id - R.m)) ∉ sh.heap.objs.size :: frs outer ∧ (if id < R.m then R.κ id else at_ (id - R.m)) ∉ ([] : List Addr) ∧
        ∃ w, sh.heap.IsCell (if id < R.m then R.κ id else at_ (id - R.m)) w ∧ _
      rw [eκ]
      refine ⟨h1, fun hm => ?_, by simp, w, hw, fun mv e => ?_⟩
      · rcases List.mem_cons.mp hm with z | z
        · obtain ⟨o, e, _⟩ := hw
          have q := Heap.lt_size e
          rw [z] at q
          exact absurd q (Nat.lt_irrefl _)
        · exact h2 z
      · have e : ((s.cells ++ d.cels.map fun i => xs[i]?)[id]?).join = some mv := e
        rw [List.getElem?_append_left (by rw [l.nc]; exact hq)] at e
        obtain ⟨m, u, r1, r2, r3⟩ := hv mv e
        exact ⟨m, u, r1.later ext l.f0, r2, r3⟩
    · obtain ⟨j, rfl⟩ : ∃ j, id = R.m + j := ⟨id - R.m, by omega⟩
      have hj : j < d.cels.length := by omega
      have hj' : d.cels[j]? = some d.cels[j] := List.getElem?_eq_getElem hj
      obtain ⟨x, c, hN, _⟩ := own j _ hj'
      have hi : d.cels[j] < d.nsl := by rw [← hn]; exact (List.getElem?_eq_some_iff.mp hN).1
      refine .inl ⟨d.cels[j], ?_⟩
      show (cellsFor d.cels d.nsl s.cells.length)[d.cels[j]]? = _
      rw [cellsFor_has cnd hj' hi, l.nc]
end
end Dz

set_option maxRecDepth 100000
set_option maxHeartbeats 4000000
/-! Part P: a def keeps its promise if its body does; a call of it. -/
namespace Dz
open PySem L2

section
variable {prog0 : Program} {w0 : World} {K0 : PySem.W.Frag} {mg0 : Str → Option Value} {base0 : Heap} {T : List (Addr × Str)} {G : GI} {P : Prg} {D : Dat}
theorem leave_ok {R R1 : RE} {H H1 : Hp} {Q : VK} {E : XK} {esc : Bool} {s s1 : MSt} {v : MV} {b : V} {κ' : Nat → Addr} {m' : Nat} (h : AftF G T R H Q E (leave esc s (.ok v s1))) (l : Lies G R s H) (e : Ext { R with κ := κ', m := m' } H R1 H1) (hκ : ∀ i, i < R.m → κ' i = R.κ i) (hm : R.m ≤ m')
    (l1 : Lies G R1 s1 H1) (t1 : LamX.Tabs T H1) (rv : RelM G R1 v b) : Q b H1 := by
  have en : R.n ≤ R1.n := e.nn
  have h' : AftF G T R H Q E (if s.refs.length ≤ s1.refs.length ∧ fits (if esc then s1.refs.length else s.refs.length) s s1 [v] = true then .ok v (cutTo (if esc then s1.refs.length else s.refs.length) s s1) else .bad) := h
  clear h
  by_cases hc : s.refs.length ≤ s1.refs.length ∧ fits (if esc then s1.refs.length else s.refs.length) s s1 [v] = true
  · rw [if_pos hc] at h'
    obtain ⟨h1, h2⟩ := hc
    have hn : (if esc then s1.refs.length else s.refs.length) ≤ s1.refs.length := by
      cases esc
      · exact h1
      · exact Nat.le_refl _
    have hn0 : R.n ≤ (if esc then s1.refs.length else s.refs.length) := by
      rw [← l.nr]
      cases esc
      · exact Nat.le_refl _
      · exact h1
    obtain ⟨c1, c2⟩ := cut_ok l1 hn h2 (.cons rv .nil)
    rw [l.nc] at c1 c2
    have e2 := e.cut (R0 := R) hκ hm hn0 (by rw [← l1.nr]; exact hn)
    cases c2 with
    | cons c2 _ => exact h' _ H1 b e2 c1 t1 c2
  · rw [if_neg hc] at h'
    exact h'.elim
theorem leave_exc {R R1 : RE} {H H1 : Hp} {Q : VK} {E : XK} {esc : Bool} {s s1 : MSt} {c : Nat} {fs : List MV} {us : List V} {d : Addr} {κ' : Nat → Addr} {m' : Nat} (h : AftF G T R H Q E (leave esc s (.exc c fs s1))) (l : Lies G R s H) (e : Ext { R with κ := κ', m := m' } H R1 H1) (hκ : ∀ i, i < R.m → κ' i = R.κ i) (hm : R.m ≤ m')
    (l1 : Lies G R1 s1 H1) (t1 : LamX.Tabs T H1) (rv : RelMs G R1 fs us) (hd : H1 d = some (.xd ((G.fld c).zip us).reverse)) : E (.ref (G.cls c)) (some d) H1 := by
  have h' : AftF G T R H Q E (if s.refs.length ≤ s1.refs.length ∧ fits s.refs.length s s1 fs = true then .exc c fs (cutTo s.refs.length s s1) else .bad) := h
  clear h
  split at h'
  · rename_i hc
    obtain ⟨h1, h2⟩ := hc
    obtain ⟨c1, c2⟩ := cut_ok l1 h1 h2 rv
    rw [l.nc] at c1 c2
    have e2 := e.cut (R0 := R) (n := s.refs.length) hκ hm (by rw [l.nr]; exact Nat.le_refl _) (by rw [← l1.nr]; exact h1)
    exact h' _ H1 d us e2 c1 t1 c2 hd
  · exact h'.elim
/-- what a statement asks of its context beside -/
structure SCtx (prog0 : Program) (w0 : World) (K0 : PySem.W.Frag) (mg0 : Str → Option Value) (base0 : Heap) (T : List (Addr × Str)) (Γ : WEnv) (k : Nat) (X : Cx) (W : WX) : Prop where
  ctx : Ctx prog0 w0 K0 mg0 base0 T Γ k X
  stk : X.stack = X.env :: X.outer
  frm : X.env.frame = some X.env.locals
  tk : Takes X W
  po : PassesOwn (model X.prog X.w) X.A X.env X.xe
theorem fs_step {n : Nat} (fok : ∀ (i : Nat) d, P.fns[i]? = some d → ∀ a, G.fa i = some a → ∃ name qual params scope dV kV doc pm cdv ct oc an od osl N ps, FOk K0 mg0 base0 T P D d a name qual params scope dV kV doc pm cdv ct oc an od osl N ps)
    (hb : ∀ (X : Cx) (Γ : WEnv) (W : WX), SCtx prog0 w0 K0 mg0 base0 T Γ n X W → ∀ b, WFB D P Γ b → SB G P X T W n b) : FS prog0 w0 K0 mg0 base0 T G P (n + 1) := by
  intro f a hf A outer sh H us vs xs Q E R s hr e0 l t c ru rv h
  have h : AftF G T R H Q E (stepF P (ev P n) f xs s) := h
  unfold stepF at h
  cases hd : P.fns[f]? with
  | none => rw [hd] at h; exact h.elim
  | some d =>
    rw [hd] at h
    dsimp only at h
    split at h
    case isFalse => exact h.elim
    rename_i hnp
    obtain ⟨name, qual, params, scope, dV, kV, doc, pm, cdv, ct, oc, an, od, osl, N, ps, F⟩ := fok f d hd a hf
    have hl : vs.length = ps.length := by rw [← rv.length, hnp, F.np]
    refine LamX.run_ofS (N := N) (ps := ps) (us := us) (vs := vs) F.lk F.cd F.sc hr e0 (.of_eq (F.bind us (by rw [← ru.length]; exact hl))) ru hl fun hr' => ?_
    obtain ⟨κ', hκ, S⟩ := enter_sim (qual := qual) (cdv := cdv) (a := a) (CX := L2.CX prog0 w0) (E := E) (d := d) F.sc e0 l t c rv (by rw [hnp, F.np]) F.nsl F.cels F.cnd
    have sctx : SCtx prog0 w0 K0 mg0 base0 T ⟨N, scope, fun _ => true, qual ++ ".<locals>.", d.lam⟩ n (cxOf (L2.CX prog0 w0) prog0 w0 K0 mg0 base0 N qual scope a cdv A outer sh H E) (fun cls d _ H => E cls d H) := by
      refine ⟨⟨rfl, rfl, rfl, rfl, rfl, rfl, rfl, rfl, F.sc.nd, hr', rfl, fun _ _ => rfl, F.lam⟩, rfl, rfl, takes_of rfl rfl rfl rfl, passes_of rfl⟩
    refine ⟨_, hb _ _ _ sctx d.body F.wf, _, _, _, S, ?_⟩
    have hm : R.m ≤ R.m + d.cels.length := Nat.le_add_right _ _
    cases q : (ev P n).s (enter d xs s).1 d.body (enter d xs s).2 with
    | bad => rw [q] at h; exact h.elim
    | exc c fs s1 =>
      rw [q] at h
      exact fun R1 H1 σ1 env1 d us e S1 r hd => leave_exc h l e hκ hm S1.lies S1.tab r hd
    | ok fe s1 =>
      rw [q] at h
      intro R1 H1 σ1 env2 e S1
      obtain ⟨fl, env1⟩ := fe
      cases fl with
      | nxt => exact fun _ => leave_ok h l e hκ hm S1.lies S1.tab .non
      | ret v => exact fun b r => leave_ok h l e hκ hm S1.lies S1.tab r
      | brk => exact h.elim
      | con => exact h.elim
end
section
variable {G : GI} {P : Prg} {X : Cx} {T : List (Addr × Str)} {W : WX} {R R1 : RE} {env : MEnv} {s s1 : MSt} {σ : St} {H H1 : Hp} {n : Nat} {pins : List (Addr × Obj)} {sh : Shared}
/-- a thing that is called keeps its promise, told of its arguments -/
theorem done_call {Q : VK} {a : Addr} {us : List Value} (tk : Takes X W) (I : Inv X pins σ H sh) (h : codeAny (model X.prog X.w) X.A (.call (.ref a) ⟨us, []⟩) (CR (L2.CX X.prog X.w) X.stack X.prog X.w H sh Q (fun cls d H1 => W cls d σ H1)) sh) :
    wpAny (model X.prog X.w) X.A (call (.ref a) us) (EP X pins σ Q) X.xe sh := by
  refine wpAny_call (codeAny_mono h fun r s2 hq => ?_)
  cases r with
  | error e => exact tk e s2 (XE.of_call I (fun cls d H' z => z) hq)
  | ok fl =>
    cases fl with
    | ret u => exact I.after hq
    | next => exact hq.elim
    | brk => exact hq.elim
    | cont => exact hq.elim
theorem se_call {f : Nat} {x : Str} {as : List ME} {p1 p : Pos} {a : Addr} (fs : FS X.prog X.w X.K X.mg X.base T G P n) (hr : Room (n + 2) X.A) (tk : Takes X W) (hg : Gl X x) (hd : (x == ("__debug__" : Str)) = false) (hm : X.mg x = some (.ref a)) (hf : G.fa f = some a) (hk : PySem.W.keepIn X.K (.ref a) = true)
    (ra : regs as = true) (ha : ∀ m ∈ as, SE G P X T W n m) : SE G P X T W (n + 1) (.call f x as p1 p) := by
  refine ⟨fun pins sh σ H Q I ⟨R, env, s, S, k⟩ => ?_⟩
  have k : Aft G X T W R env σ H (RelM G) Q ((listE ((ev P n).e env) as s).bind fun xs s => (ev P n).f f xs s) := k
  have fin : ∀ {H1 : Hp} {s1 : Shared} {us : List Value} {vs : List V}, Inv X pins σ H1 s1 → Vals vs us → (∃ R1 s1 v, Ext R H R1 H1 ∧ Sim G X T R1 env s1 σ H1 ∧ RelMs G R1 v vs ∧ Aft G X T W R1 env σ H1 (RelM G) Q ((ev P n).f f v s1)) → wpAny (model X.prog X.w) X.A (call (.ref a) us) (EP X pins σ Q) X.xe s1 := fun {H1 s1 us vs} I1 ru ⟨R1, s2, ws, e1, S1, r1, k1⟩ => by
    have kp : keepsC s2 ((ev P n).f f ws s2) := by
      cases n with
      | zero => exact trivial
      | succ n => exact stepF_keeps s2
    exact done_call tk I1 (fs f a hf X.A X.stack s1 H1 us vs ws Q _ R1 s2 hr I1.env0 S1.lies S1.tab (S1.cells I1) ru r1 (k1.call S1 kp))
  refine wpAny_Call_Name_kw (ld_glob I hg hm ?_ hd)
  have pa := sa_list (T := T) (W := W) ra ha
  cases as with
  | nil =>
    refine PySem.W.callWith_K0 (first := []) I.kIn hk ?_
    refine fin I .nil ⟨R, s, [], Ext.refl R H, S, .nil, k⟩
  | cons m r =>
    have ra' := Bool.and_eq_true_iff.mp (show (reg m && regs r) = true from ra)
    refine PySem.W.callWith_K (h₀ := X.base) (first := []) I.ok.mod.kin hk (thn (pa.run p pins sh σ H _ I (tA_seq S k)) fun us s1 ⟨vs, H1, I1, ru, q⟩ => ⟨I1.kIn, fin I1 ru q⟩) (star_reg ra'.1 _ _) (any_reg ra'.2 _ _)
end
end Dz

set_option maxRecDepth 100000
set_option maxHeartbeats 4000000
/-! Part Q: lambdas: made, called. -/
namespace Dz
open PySem L2

section
variable {prog0 : Program} {w0 : World} {K0 : PySem.W.Frag} {mg0 : Str → Option Value} {base0 : Heap} {T : List (Addr × Str)} {G : GI} {P : Prg} {D : Dat}
/-- what the lambdas' text says -/
structure LOk (D : Dat) (P : Prg) (d : LDef) (L : LInfo) : Prop where
  sc : NdefX.NScope L.N L.ps L.fr L.scope
  bind : ∀ (cl : List (Str × Addr)) (pm cv ctv : Value) (us : List Value), us.length = L.ps.length → bindArgs (PySem.W.kla_fn "<lambda>" L.qual L.params L.body L.scope cl pm cv ctv) ⟨us, []⟩ = pure (L.ps.zip us)
  np : L.ps.length = d.np
  nsl : L.N.length = d.nsl
  body : L.body = un d.body
  wf : WF D P ⟨L.N, L.scope, fun _ => false, L.qual ++ ".<locals>.", false⟩ d.body
variable (prog0 w0 K0 mg0 base0 T G P) in
/-- a called value's promise at fuel n -/
def CS (n : Nat) : Prop := ∀ (v : MV) (a : Addr) (A : Around) (outer : List Env) (sh : Shared) (H : Hp) (us : List Value) (vs : List V) (xs : List MV) (Q : VK) (E : XK) (R : RE) (s : MSt), RelM G R v (.ref a) →
  Room (n + 2) A → Env0 prog0 w0 K0 mg0 base0 A outer sh H → Lies G R s H → LamX.Tabs T H → CellsT G R s outer sh.heap H → Vals vs us → RelMs G R xs vs → AftF G T R H Q E ((ev P n).c v xs s) →
  codeAny (model prog0 w0) A (.call (.ref a) ⟨us, []⟩) (CR (L2.CX prog0 w0) outer prog0 w0 H sh Q E) sh
end
end Dz
namespace Dz
open PySem L2
section
variable {prog0 : Program} {w0 : World} {K0 : PySem.W.Frag} {mg0 : Str → Option Value} {base0 : Heap} {T : List (Addr × Str)} {G : GI} {P : Prg} {D : Dat}
theorem caps_ws {R : RE} {s : MSt} {outer : List Env} {h : Heap} {H : Hp} (c : CellsT G R s outer h H) : ∀ (ids : List Nat), (∀ i ∈ ids, i < R.m) → ∃ ws : List (Option V), ws.length = ids.length ∧
    (∀ (k : Nat) mv, (capV s ids)[k]? = some (some mv) → ∃ m, ws[k]? = some (some m) ∧ RelM G R mv m) ∧
    ∀ (k id : Nat), ids[k]? = some id → ∀ v, ws[k]? = some (some v) → ∃ u, RelV v u ∧ h.IsCell (R.κ id) (some u)
  | [], _ => ⟨[], rfl, fun k mv e => by simp [capV] at e, fun k id e => by simp at e⟩
  | id :: r, hi => by
    obtain ⟨ws, h1, h2, h3⟩ := caps_ws c r fun i hm => hi i (List.mem_cons_of_mem _ hm)
    obtain ⟨_, _, w, hw, hv⟩ := c id (hi id List.mem_cons_self)
    cases e : (s.cells[id]?).join with
    | none =>
      refine ⟨none :: ws, by simp [h1], fun k mv q => ?_, fun k i q v z => ?_⟩
      · cases k with
        | zero =>
          have q : some ((s.cells[id]?).join) = some (some mv) := q
          rw [e] at q; cases q
        | succ k => exact h2 k mv q
      · cases k with
        | zero => cases z
        | succ k => exact h3 k i q v z
    | some mv0 =>
      obtain ⟨m, u, r1, r2, r3⟩ := hv mv0 e
      refine ⟨some m :: ws, by simp [h1], fun k mv q => ?_, fun k i q v z => ?_⟩
      · cases k with
        | zero =>
          have q : some ((s.cells[id]?).join) = some (some mv) := q
          rw [e] at q
          cases q
          exact ⟨m, rfl, r1⟩
        | succ k => exact h2 k mv q
      · cases k with
        | zero =>
          have q : some id = some i := q
          cases q
          have z : some (some m) = some (some v) := z
          cases z
          exact ⟨u, r2, by rw [← r3]; exact hw⟩
        | succ k => exact h3 k i q v z
theorem zip_look2 : ∀ {fr : List Str} {as : List Addr} {y : Str} {c : Addr}, (fr.zip as).lookup y = some c → ∃ k : Nat, fr[k]? = some y ∧ as[k]? = some c
  | [], _, _, _, h => by cases h
  | _ :: _, [], _, _, h => by cases h
  | f :: fr, a :: as, y, c, h => by
    rw [List.zip_cons_cons, List.lookup_cons] at h
    split at h
    · rename_i q
      have q : y = f := eq_of_beq q
      cases h
      exact ⟨0, by rw [q]; rfl, rfl⟩
    · obtain ⟨k, h1, h2⟩ := zip_look2 h
      exact ⟨k + 1, h1, h2⟩
theorem look_zip2 : ∀ {fr : List Str} {as : List Addr} {y : Str} {k : Nat}, fr.Nodup → as.length = fr.length → fr[k]? = some y → ∃ c, as[k]? = some c ∧ (fr.zip as).lookup y = some c
  | [], _, _, _, _, _, h => by simp at h
  | f :: fr, [], _, _, _, h, _ => by simp at h
  | f :: fr, a :: as, y, 0, _, _, h => by
    have h : some f = some y := h
    cases h
    exact ⟨a, rfl, by rw [List.zip_cons_cons, List.lookup_cons, beq_self_eq_true]⟩
  | f :: fr, a :: as, y, k + 1, nd, hl, h => by
    have h' : fr[k]? = some y := h
    obtain ⟨c, h1, h2⟩ := look_zip2 (List.nodup_cons.mp nd).2 (by simpa using hl) h'
    refine ⟨c, h1, ?_⟩
    have ne : (y == f) = false := beq_eq_false_iff_ne.mpr fun q => (List.nodup_cons.mp nd).1 (by rw [← q]; exact List.mem_of_getElem? h')
    rw [List.zip_cons_cons, List.lookup_cons, ne]
    exact h2
theorem capV_len (s : MSt) : ∀ ids, (capV s ids).length = ids.length
  | [] => rfl
  | _ :: r => by unfold capV; rw [List.length_cons, List.length_cons, capV_len s r]
theorem capV_get (s : MSt) : ∀ (ids : List Nat) (k : Nat) o, (capV s ids)[k]? = some o → ∃ id, ids[k]? = some id ∧ o = (s.cells[id]?).join
  | [], k, o, h => by simp [capV] at h
  | i :: r, 0, o, h => ⟨i, rfl, by have h : some ((s.cells[i]?).join) = some o := h; exact (Option.some.inj h).symm⟩
  | i :: r, k + 1, o, h => capV_get s r k o h
theorem clo_step {n : Nat} (lok : ∀ (j : Nat) L, G.lam j = some L → ∃ d, P.lams[j]? = some d ∧ LOk D P d L) (fs : FS prog0 w0 K0 mg0 base0 T G P n)
    (hb : ∀ (X : Cx) (Γ : WEnv) (W : WX), Ctx prog0 w0 K0 mg0 base0 T Γ n X → Takes X W → ∀ m, WF D P Γ m → SE G P X T W n m) : CS prog0 w0 K0 mg0 base0 T G P (n + 1) := by
  intro v a A outer sh H us vs xs Q E R s rv hr e0 l t c ru rs h
  have h : AftF G T R H Q E (stepC P (ev P n) v xs s) := h
  cases rv with
  | @fn i _ hf => exact fs i a hf A outer sh H us vs xs Q E R s (hr.mono (by omega)) e0 l t c ru rs h
  | @clo j cs _ c' L hL hF hF2 hcs =>
    obtain ⟨d, hd, F⟩ := lok j L hL
    unfold stepC at h
    dsimp only at h
    rw [hd] at h
    dsimp only at h
    by_cases hnp : xs.length = d.np
    case neg => rw [if_neg hnp] at h; exact h.elim
    rw [if_pos hnp] at h
    have hl : vs.length = L.ps.length := by rw [← rs.length, hnp, F.np]
    have hok : ObjOk prog0 w0 H sh.heap a (CloO L (cs.map R.κ) c' a) := e0.hok a _ (l.fz a _ hF).1
    obtain ⟨⟨hnd, hln, pm, ctv, ho⟩, _, _⟩ := hok
    have lim : sh.heap.NoLimit := e0.mod.nolimit.keeps fun b o e => (e0.bs b o e).1
    have frN : L.fr.Nodup := by
      have q := F.sc.nd.sublist (List.take_sublist (L.ps.length + L.fr.length) L.N)
      rw [F.sc.pre] at q
      exact (List.nodup_append.mp q).2.1
    have hcl : cs.length = L.fr.length := by rw [← hln, List.length_map]
    obtain ⟨ws, w1, w2, w3⟩ := caps_ws c cs hcs
    have hpl : L.ps.length + L.fr.length ≤ L.N.length := by
      have q := congrArg List.length F.sc.pre
      rw [List.length_take, List.length_append] at q
      omega
    -- the cells
    have C : NdefX.CellsAt (L.fr.zip (cs.map R.κ)) L.fr ws sh.heap H := by
      refine ⟨by rw [w1, hcl], fun y b e => ?_, fun x y b e1 e2 => ?_, fun i y e => ?_⟩
      · obtain ⟨k, _, hk⟩ := zip_look2 e
        rw [List.getElem?_map] at hk
        cases q : cs[k]? with
        | none => rw [q] at hk; cases hk
        | some id =>
          rw [q] at hk
          have hk : some (R.κ id) = some b := hk
          cases hk
          obtain ⟨z1, _, w, z2, _⟩ := c id (hcs id (List.mem_of_getElem? q))
          exact ⟨z1, w, z2⟩
      · obtain ⟨k1, f1, g1⟩ := zip_look2 e1
        obtain ⟨k2, f2, g2⟩ := zip_look2 e2
        have : k1 = k2 := by
          have h1 := (List.getElem?_eq_some_iff.mp g1)
          have h2 := (List.getElem?_eq_some_iff.mp g2)
          obtain ⟨b1, q1⟩ := h1
          obtain ⟨b2, q2⟩ := h2
          rcases Nat.lt_trichotomy k1 k2 with z | z | z
          · exact absurd (q1.trans q2.symm) (List.pairwise_iff_getElem.mp hnd k1 k2 b1 b2 z)
          · exact z
          · exact absurd (q2.trans q1.symm) (List.pairwise_iff_getElem.mp hnd k2 k1 b2 b1 z)
        subst this
        rw [f1] at f2
        exact Option.some.inj f2
      · obtain ⟨b, h1, h2⟩ := look_zip2 frN hln e
        refine ⟨b, h2, fun v hv => ?_⟩
        rw [List.getElem?_map] at h1
        cases q : cs[i]? with
        | none => rw [q] at h1; cases h1
        | some id =>
          rw [q] at h1
          have h1 : some (R.κ id) = some b := h1
          cases h1
          exact w3 i id q v hv
    refine PySem.W.kla_callFunE hr.depth ho rfl F.sc.co F.sc.gen rfl (NdefX.codeO_at e0.hok (l.fz c' _ hF2).1) ?_
    rw [F.bind _ _ _ _ us (by rw [← ru.length]; exact hl)]
    refine wpAny_pure (wpAny_newFunctionEnv F.sc.nocell (fun ⟨y, _⟩ hy => F.sc.par y (List.of_mem_zip hy).1) (fun h₁ hns hsb => ⟨lim.fresh _ hsb, ?_⟩) F.sc.kind)
    have kp : ∀ b o, sh.heap.get? b = some o → h₁.get? b = some o := fun b o e => hsb.extBut b o (Nat.ne_of_lt (Heap.lt_size e)) (Heap.get?_push_of_some _ e)
    let NFL : NdefX.NF := ⟨"<lambda>", L.qual, L.params, [], L.scope, L.fr.zip (cs.map R.κ), c'⟩
    show codeAny _ _ (.expr L.body (NdefX.envF NFL a sh.heap.objs.size)) _ _
    have I : Inv (NdefX.ncx (L2.CX prog0 w0) prog0 w0 K0 mg0 base0 L.N NFL a A outer sh H E) [] (NdefX.startF L.N vs ws) H { sh with heap := h₁, toks := sh.toks + (L.ps.zip us).length } :=
      NdefX.inv_startN (F := NFL) F.sc hr.hd e0 hl ru C hns kp
    have S : Sim G (NdefX.ncx (L2.CX prog0 w0) prog0 w0 K0 mg0 base0 L.N NFL a A outer sh H E) T R ⟨xs.map some ++ (capV s cs ++ List.replicate (d.nsl - xs.length - cs.length) none), [], s.refs.length⟩ s (NdefX.startF L.N vs ws) H := by
      refine ⟨l, fun i v h => ?_, ?_, ?_, fun i id h => by simp at h, fun i j id h => by simp at h, fun i id h => by simp at h, fun id hid => .inr ?_, t⟩
      · have h : ((xs.map some ++ (capV s cs ++ List.replicate (d.nsl - xs.length - cs.length) none))[i]?).join = some v := h
        have hxv : xs.length = vs.length := rs.length
        unfold NdefX.startF
        by_cases hi : i < xs.length
        · rw [List.getElem?_append_left (by rw [List.length_map]; exact hi), List.getElem?_map, List.getElem?_eq_getElem hi] at h
          have h : some xs[i] = some v := h
          cases h
          obtain ⟨u, hu, r⟩ := rs.get (List.getElem?_eq_getElem hi)
          refine ⟨u, ?_, r⟩
          rw [List.getElem?_append_left (by rw [List.length_map, ← hxv]; exact hi), List.getElem?_map, hu]
          rfl
        · rw [List.getElem?_append_right (by rw [List.length_map]; omega), List.length_map] at h
          by_cases hi2 : i - xs.length < cs.length
          · rw [List.getElem?_append_left (by rw [capV_len]; exact hi2)] at h
            cases q : (capV s cs)[i - xs.length]? with
            | none => rw [q] at h; cases h
            | some o =>
              rw [q] at h
              have h : o = some v := h
              subst h
              obtain ⟨m, hm, r⟩ := w2 _ v q
              refine ⟨m, ?_, r⟩
              rw [List.getElem?_append_right (by rw [List.length_map, ← hxv]; omega), List.length_map, ← hxv, List.getElem?_append_left (by rw [w1]; exact hi2)]
              exact hm
          · rw [List.getElem?_append_right (by rw [capV_len]; omega), List.getElem?_replicate] at h
            split at h <;> cases h
      · show (NdefX.startF L.N vs ws).length = (xs.map some ++ (capV s cs ++ List.replicate (d.nsl - xs.length - cs.length) none)).length
        have hxv : xs.length = vs.length := rs.length
        have := F.nsl
        unfold NdefX.startF
        simp only [List.length_append, List.length_map, List.length_replicate, capV_len]
        omega
      · show (NdefX.startF L.N vs ws).length = L.N.length
        unfold NdefX.startF
        simp only [List.length_append, List.length_map, List.length_replicate]
        omega
      · obtain ⟨h1, h2, w, hw, hv⟩ := c id hid
        refine ⟨h1, fun hm => ?_, by show R.κ id ∉ ([] : List Addr); simp, w, hw, hv⟩
        have hm : R.κ id ∈ sh.heap.objs.size :: frs outer := hm
        rcases List.mem_cons.mp hm with z | z
        · obtain ⟨o, e, _⟩ := hw
          have q := Heap.lt_size e
          rw [z] at q
          exact absurd q (Nat.lt_irrefl _)
        · exact h2 z
    have ctx : Ctx prog0 w0 K0 mg0 base0 T ⟨L.N, L.scope, fun _ => false, L.qual ++ ".<locals>.", false⟩ n (NdefX.ncx (L2.CX prog0 w0) prog0 w0 K0 mg0 base0 L.N NFL a A outer sh H E) :=
      ⟨rfl, rfl, rfl, rfl, rfl, rfl, rfl, rfl, F.sc.nd, hr.deeper _, rfl, fun _ z => Bool.noConfusion z, fun z => Bool.noConfusion z⟩
    have tk : Takes (NdefX.ncx (L2.CX prog0 w0) prog0 w0 K0 mg0 base0 L.N NFL a A outer sh H E) (fun cls d _ H => E cls d H) := takes_of rfl rfl rfl rfl
    have se := hb _ _ _ ctx tk d.body F.wf
    rw [F.body]
    refine PySem.W.kla_codeExpr (wpAny_mono (se.run [] _ (NdefX.startF L.N vs ws) H Q I ⟨R, _, s, S, ?_⟩) (fun v' s' hq => ?_) fun e s' hq => hq)
    · cases q : (ev P n).e ⟨xs.map some ++ (capV s cs ++ List.replicate (d.nsl - xs.length - cs.length) none), [], s.refs.length⟩ d.body s with
      | bad => rw [q] at h; exact h.elim
      | ok v s1 =>
        rw [q] at h
        exact fun R1 H1 b e S1 r => leave_ok (κ' := R.κ) (m' := R.m) h l e (fun _ _ => rfl) (Nat.le_refl _) S1.lies S1.tab r
      | exc c fs s1 =>
        rw [q] at h
        exact fun R1 H1 d us e S1 r hd => leave_exc (κ' := R.κ) (m' := R.m) h l e (fun _ _ => rfl) (Nat.le_refl _) S1.lies S1.tab r hd
    · obtain ⟨w', H', J', rv, q⟩ := hq
      exact ⟨w', H', J'.os, J'.bare, J'.base, J'.hok, rv, q⟩
  | _ => exact h.elim
end
end Dz

set_option maxRecDepth 100000
set_option maxHeartbeats 4000000
/-! Part R: a lambda made; what a name holds, called. -/
namespace Dz
open PySem L2

section
variable {X : Cx} {pins : List (Addr × Obj)} {τ : St} {Y : Hp} {sh : Shared}
/-- a closure's object just made is known from now on -/
theorem inv_clo {L : LInfo} {as : List Addr} {c' : Addr} {pm ctv : Value} {tk : Nat} (J : Inv X pins τ Y sh) (nd : as.Nodup) (ln : as.length = L.fr.length) :
    Inv X pins τ (upd Y sh.heap.objs.size (CloO L as c' sh.heap.objs.size)) { sh with heap := sh.heap.push (PySem.W.kla_obj "<lambda>" L.qual L.params L.body L.scope (L.fr.zip as) pm c' ctv), toks := tk } := by
  have e : (sh.heap.push (PySem.W.kla_obj "<lambda>" L.qual L.params L.body L.scope (L.fr.zip as) pm c' ctv)).get? sh.heap.objs.size = some (PySem.W.kla_obj "<lambda>" L.qual L.params L.body L.scope (L.fr.zip as) pm c' ctv) := Heap.get?_push_size _ rfl
  refine J.laid (a := sh.heap.objs.size) (fun b u z => Heap.get?_push_of_some _ z) (Nat.le_refl _) ⟨⟨nd, ln, pm, ctv, e⟩, ⟨_, e⟩, fun g1 g2 ⟨q1, q2, p, t, z⟩ st => ⟨q1, q2, p, t, st _ z⟩⟩
theorem upd_there {a b : Addr} {o : HO} (h : Y b ≠ none) : upd Y a o b ≠ none := by
  unfold upd
  split
  · simp
  · exact h
/-- the lambda's object is made: its code object is new, or the table has it -/
theorem lam_made {T : List (Addr × Str)} {c Pt : Addr} {L : LInfo} {as : List Addr} {pos : Pos} {E : Value → Shared → Prop} {Q : Value → Shared → Prop} (J : Inv X pins τ Y sh) (TB : LamX.TabB X.base X.mg c Pt) (hcode : X.env.code = .ref c)
    (hm : (Pt, L.qual) ∈ T) (hu : ∀ p ∈ T, p.1 = Pt → p.2 = L.qual) (hT : LamX.Tabs T Y) (hq : X.env.qual ++ "<lambda>" = L.qual) (hdef : defaultsOf L.params X.env = ([], [])) (hfree : ∀ y ∈ L.scope.names, y.2 = .free → ∃ b, X.env.cells.lookup y.1 = some b)
    (hcl : cloFrom X.env.cells L.scope.names [] = L.fr.zip as) (nd : as.Nodup) (ln : as.length = L.fr.length)
    (h : ∀ (f c' : Addr) (Y1 : Hp) (s' : Shared), Inv X pins τ Y1 s' → LamX.ExtN Y Y1 → (∀ b, Y b ≠ none → Y1 b ≠ none) → LamX.Tabs T Y1 → Y f = none → Y1 f = some (CloO L as c' f) → Y1 c' = some (LamX.CodeO c' L.qual) → (Y c' = none ∨ Y c' = some (LamX.CodeO c' L.qual)) → f ≠ c' → Q (.ref f) s') :
    wpAny (model X.prog X.w) X.A (eval (.Lambda L.params L.body L.scope pos) X.env) Q E sh := by
  obtain ⟨ps, hP, ht, ha⟩ := hT _ hm
  refine PySem.W.kla_eval hdef ?_
  rw [hq]
  have bP : sh.heap.BuiltinsAt X.mg Pt := TB.bm.keeps J.bk
  have hP' : sh.heap.get? Pt = some { cls := .none, data := .fields ps } := J.hok Pt _ hP
  have hclo : closureFor L.scope X.env = pure (L.fr.zip as) := by rw [closure_ok hfree, hcl]
  cases hc : codeAmong pos ps.toList with
  | none =>
    refine PySem.W.kla_makeFunction (mg := X.mg) (c := c) (P := Pt) (ps := ps) hclo J.ok.glob (J.mod.glob.keeps J.bk) hcode (TB.code.keeps J.bk) hP' ht hc TB.gP bP fun c' ctv g' tk hx hge hlt hrec htb => ?_
    obtain ⟨c2, oc, us, t, e2, hoc, hd, hv⟩ := hrec
    cases e2
    have nC : Y c' = none := J.hok.fresh hge
    have J1 := LamX.inv_table (t' := tk) (more := #[rawInt pos.line, rawInt pos.col, .ref c']) (h' := g') J hP (fun b o hb z => hx b o hb z) htb hge ⟨oc, us, t, hoc, hd, hv⟩
    have hE : LamX.ExtN Y (upd (upd Y Pt (.tbl (ps ++ #[rawInt pos.line, rawInt pos.col, .ref c']))) c' (LamX.CodeO c' L.qual)) := fun b o z nt => by
      rw [upd_ne (ne_of_none z nC), upd_ne (fun y => nt ps (Option.some.inj (z.symm.trans (by rw [y]; exact hP))))]
      exact z
    have eL : (ps ++ #[rawInt pos.line, rawInt pos.col, .ref c']).toList = ps.toList ++ [rawInt pos.line, rawInt pos.col, .ref c'] := by simp
    have T1 : LamX.Tabs T (upd (upd Y Pt (.tbl (ps ++ #[rawInt pos.line, rawInt pos.col, .ref c']))) c' (LamX.CodeO c' L.qual)) := fun p hp => by
      by_cases hb : p.1 = Pt
      · rw [hu p hp hb, hb]
        refine ⟨_, by rw [upd_ne (ne_of_none hP nC), upd_same], by rw [eL]; exact PySem.TriplesOk_snoc _ _ _ _ ht, fun p' cv hcv => ?_⟩
        rw [eL] at hcv
        rcases LamX.among_app _ ht hcv with z | z
        · obtain ⟨c0, y1, y2⟩ := ha p' cv z
          exact ⟨c0, y1, hE _ _ y2 LamX.codeO_ne⟩
        · exact ⟨c', z, upd_same⟩
      · obtain ⟨ps', a1, a2, a3⟩ := hT p hp
        refine ⟨ps', by rw [upd_ne (ne_of_none a1 nC), upd_ne hb]; exact a1, a2, fun p' cv hcv => ?_⟩
        obtain ⟨c0, y1, y2⟩ := a3 p' cv hcv
        exact ⟨c0, y1, hE _ _ y2 LamX.codeO_ne⟩
    have nF := J1.hok.fresh (Nat.le_refl _)
    have J2 := inv_clo (c' := c') (pm := (X.mg "__name__").getD .none) (ctv := ctv) (tk := tk) J1 nd ln
    refine h g'.objs.size c' _ _ J2 (fun b o z nt => ?_) (fun b z => upd_there (upd_there (upd_there z))) (T1.ext fun b o z => ?_) (J.hok.fresh (Nat.le_trans hge (Nat.le_of_lt hlt))) upd_same ?_ (.inl nC) (Nat.ne_of_gt hlt)
    · have e1 := hE b o z nt
      exact (upd_ne (ne_of_none e1 nF)).trans e1
    · exact (upd_ne (ne_of_none z nF)).trans z
    · exact (upd_ne (Nat.ne_of_lt hlt)).trans upd_same
  | some cv =>
    obtain ⟨c', e, hco⟩ := ha pos cv hc
    subst e
    refine PySem.W.kla_makeFunctionHit (mg := X.mg) (c := c) (P := Pt) (ps := ps) hclo J.ok.glob (J.mod.glob.keeps J.bk) hcode (TB.code.keeps J.bk) hP' ht hc bP fun ctv g' tk hx hsz => ?_
    have J1 : Inv X pins τ Y { sh with heap := g', toks := tk } := J.kept hx
    have nF : Y g'.objs.size = none := J1.hok.fresh (Nat.le_refl _)
    have J2 := inv_clo (c' := c') (pm := (X.mg "__name__").getD .none) (ctv := ctv) (tk := tk) J1 nd ln
    refine h g'.objs.size c' _ _ J2 (fun b o z nt => ?_) (fun b z => upd_there z) (hT.ext fun b o z => ?_) nF upd_same ?_ (.inr hco) (fun q => by rw [q] at nF; rw [nF] at hco; cases hco)
    · exact (upd_ne (ne_of_none z nF)).trans z
    · exact (upd_ne (ne_of_none z nF)).trans z
    · exact (upd_ne (ne_of_none hco nF)).trans hco
theorem cloFrom_eq {cells : List (Str × Addr)} : ∀ (names : List (Str × NameKind)) (acc : List (Str × Addr)), cloFrom cells names acc = ((names.filter fun y => y.2 == .free).reverse.map fun y => (y.1, (cells.lookup y.1).getD 0)) ++ acc
  | [], acc => rfl
  | (n, k) :: r, acc => by
    unfold cloFrom
    by_cases hk : (k == NameKind.free) = true
    · rw [if_pos hk, cloFrom_eq r, List.filter_cons_of_pos (by exact hk), List.reverse_cons, List.map_append, List.append_assoc]
      rfl
    · rw [if_neg hk, cloFrom_eq r, List.filter_cons_of_neg (by simpa using hk)]
end
section
variable {G : GI} {P : Prg} {X : Cx} {T : List (Addr × Str)} {W : WX} {R R1 : RE} {env : MEnv} {s s1 : MSt} {σ : St} {H H1 : Hp} {n : Nat} {D : Dat}
theorem caps_ids (S : Sim G X T R env s σ H) : ∀ {caps : List (Nat × Nat)} {ids : List Nat} {fr : List Str}, capsOf env caps = some ids → (caps.map fun c => X.N[c.2]?) = fr.map some →
    (∀ i ∈ ids, i < R.m) ∧ ids.map R.κ = fr.map fun x => (X.env.cells.lookup x).getD 0
  | [], ids, fr, h, e => by
    cases h
    cases fr with
    | nil => exact ⟨fun i hi => absurd hi (by simp), rfl⟩
    | cons _ _ => cases e
  | (k, j) :: r, ids, fr, h, e => by
    cases fr with
    | nil => cases e
    | cons x fr =>
      have e1 : X.N[j]? = some x := (List.cons.inj e).1
      have e2 := (List.cons.inj e).2
      unfold capsOf at h
      split at h
      · rename_i id rest h1 h2
        cases h
        obtain ⟨q1, q2⟩ := caps_ids S h2 e2
        obtain ⟨z1, y, z2, z3, _⟩ := S.cel j id h1
        rw [e1] at z2
        cases z2
        refine ⟨fun i hi => ?_, ?_⟩
        · rcases List.mem_cons.mp hi with rfl | hi
          · exact z1
          · exact q1 i hi
        · rw [List.map_cons, List.map_cons, q2, z3]
          rfl
      · cases h
theorem Lies.fzc {f c' : Addr} {as : List Addr} {L : LInfo} (l : Lies G R s H) (eN : LamX.ExtN H H1) (st : ∀ b, H b ≠ none → H1 b ≠ none) (hf : H f = none) (h1 : H1 f = some (CloO L as c' f)) (h2 : H1 c' = some (LamX.CodeO c' L.qual)) (hc : H c' = none ∨ H c' = some (LamX.CodeO c' L.qual)) (ne : f ≠ c') :
    ∃ F' : Hp, F' f = some (CloO L as c' f) ∧ F' c' = some (LamX.CodeO c' L.qual) ∧ Ext R H { R with F := F' } H1 ∧ Lies G { R with F := F' } s H1 := by
  have e2 : upd (upd R.F c' (LamX.CodeO c' L.qual)) f (CloO L as c' f) c' = some (LamX.CodeO c' L.qual) := by rw [upd_ne (Ne.symm ne), upd_same]
  have old : ∀ a o, R.F a = some o → upd (upd R.F c' (LamX.CodeO c' L.qual)) f (CloO L as c' f) a = some o := fun a o h => by
    obtain ⟨z, _⟩ := l.fz a o h
    have n1 : a ≠ f := ne_of_none z hf
    rw [upd_ne n1]
    by_cases q : a = c'
    · subst q
      rw [upd_same]
      rcases hc with y | y
      · rw [y] at z; cases z
      · rw [y] at z; exact z
    · rw [upd_ne q]; exact h
  have ext : Ext R H { R with F := upd (upd R.F c' (LamX.CodeO c' L.qual)) f (CloO L as c' f) } H1 :=
    ⟨old, st, Nat.le_refl _, Nat.le_refl _, fun _ _ => rfl, fun i q1 q2 => absurd q1 (Nat.not_le.mpr q2), fun _ _ => rfl, fun b o h _ nt => eN b o h nt, fun b us h _ h2 => by
      show upd (upd R.F c' (LamX.CodeO c' L.qual)) f (CloO L as c' f) b = none
      rw [upd_ne (ne_of_none h hf), upd_ne (fun q => by
        rw [q] at h
        rcases hc with y | y
        · rw [y] at h; cases h
        · rw [y] at h; unfold LamX.CodeO at h; cases h)]
      exact h2⟩
  refine ⟨_, upd_same, e2, ext, ⟨l.nr, l.nc, fun a o h => ?_, fun i o h => ?_, l.inj⟩⟩
  · have h : upd (upd R.F c' (LamX.CodeO c' L.qual)) f (CloO L as c' f) a = some o := h
    by_cases q : a = f
    · subst q
      rw [upd_same] at h
      cases h
      exact ⟨h1, fun ps z => by unfold CloO at z; cases z⟩
    · rw [upd_ne q] at h
      by_cases q2 : a = c'
      · subst q2
        rw [upd_same] at h
        cases h
        exact ⟨h2, LamX.codeO_ne⟩
      · rw [upd_ne q2] at h
        obtain ⟨z1, z2⟩ := l.fz a o h
        exact ⟨eN a o z1 z2, z2⟩
  · obtain ⟨z1, u, z2, z3⟩ := l.rf i o h
    have hi : i < R.n := by rw [← l.nr]; exact (List.getElem?_eq_some_iff.mp h).1
    have n1 : R.μ i ≠ f := ne_of_none z2 hf
    have n2 : R.μ i ≠ c' := fun q => by
      rcases hc with y | y
      · rw [q, y] at z2; cases z2
      · exact l.apart y i hi q.symm
    exact ⟨by show upd (upd R.F c' (LamX.CodeO c' L.qual)) f (CloO L as c' f) (R.μ i) = none; rw [upd_ne n1, upd_ne n2]; exact z1, u, eN _ u z2 z3.notbl, z3.later ext l.f0⟩
theorem defaults_nil {a : Arguments} {env : Env} (h1 : a.defaults = []) (h2 : a.kw_defaults = []) : defaultsOf a env = ([], []) := by
  rw [defaultsOf_eq, h1, h2] <;> rfl
theorem se_lam {prog0 : Program} {w0 : World} {K0 : PySem.W.Frag} {mg0 : Str → Option Value} {base0 : Heap} {Γ : WEnv} {k : Nat} {j : Nat} {args : Arguments} {body : ME} {sc : Scope} {p : Pos} (C : Ctx prog0 w0 K0 mg0 base0 T Γ k X)
    (lok : ∀ (j : Nat) L, G.lam j = some L → ∃ d, P.lams[j]? = some d ∧ LOk D P d L) (hG : ∀ j, G.lam j = D.lms[j]?) (hw : lamB D P Γ j args sc = true) (hl : lamHold D [(j, args, un body, sc)]) : SE G P X T W (n + 1) (.lam j args body sc p) := by
  obtain ⟨L, hL, rfl, hb, rfl⟩ := hl _ List.mem_cons_self
  dsimp only at hL hb
  refine ⟨fun pins sh σ H Q I ⟨R, env, s, S, kk⟩ => ?_⟩
  obtain ⟨d, hd, F⟩ := lok j L ((hG j).trans hL)
  unfold lamB at hw
  rw [hL, hd] at hw
  simp only [Bool.and_eq_true] at hw
  obtain ⟨⟨⟨w1, w2⟩, w3⟩, ⟨⟨⟨w4, w5⟩, w6⟩, w7⟩⟩ := hw
  have kk : Aft G X T W R env σ H (RelM G) Q (match P.lams[j]? with
    | some d => match capsOf env d.caps with
      | some ids => .ok (.clo j ids) s
      | none => .bad
    | none => .bad) := kk
  rw [hd] at kk
  dsimp only at kk
  cases hids : capsOf env d.caps with
  | none => rw [hids] at kk; exact kk.elim
  | some ids =>
    rw [hids] at kk
    dsimp only at kk
    obtain ⟨c, Pt, hcode, TB, hm, hu⟩ := C.lam w1
    have e4 : L.qual = Γ.q ++ "<lambda>" := eq_of_beq w4
    have e5 : (d.caps.map fun c => Γ.N[c.2]?) = L.fr.map some := eq_of_beq w5
    have e6 : (L.scope.names.filter fun y => y.2 == .free).reverse.map (·.1) = L.fr := eq_of_beq w6
    obtain ⟨q1, q2⟩ := caps_ids S hids (by rw [C.N]; exact e5)
    have hfree : ∀ y ∈ L.scope.names, y.2 = .free → ∃ b, X.env.cells.lookup y.1 = some b := fun y hy e => by
      have hy' : y.1 ∈ L.fr := by
        rw [← e6]
        exact List.mem_map.mpr ⟨y, List.mem_reverse.mpr (List.mem_filter.mpr ⟨hy, by rw [e]; rfl⟩), rfl⟩
      have := List.all_eq_true.mp w7 _ hy'
      rcases Bool.or_eq_true_iff.mp this with z | z
      · exact I.ok.has _ (.inl (by have := eq_of_beq z; rw [← C.sc] at this; exact this))
      · exact I.ok.has _ (.inr (by have := eq_of_beq z; rw [← C.sc] at this; exact this))
    have hfr : ∀ x ∈ L.fr, ∃ b, X.env.cells.lookup x = some b := fun x hx => by
      rw [← e6] at hx
      obtain ⟨y, hy, rfl⟩ := List.mem_map.mp hx
      obtain ⟨h1, h2⟩ := List.mem_filter.mp (List.mem_reverse.mp hy)
      exact hfree y h1 (eq_of_beq h2)
    have frN : L.fr.Nodup := by
      have q := F.sc.nd.sublist (List.take_sublist (L.ps.length + L.fr.length) L.N)
      rw [F.sc.pre] at q
      exact (List.nodup_append.mp q).2.1
    have hcl : cloFrom X.env.cells L.scope.names [] = L.fr.zip (ids.map R.κ) := by
      rw [cloFrom_eq, List.append_nil, q2]
      have e : ∀ l : List Str, l.zip (l.map fun x => (X.env.cells.lookup x).getD 0) = l.map fun x => (x, (X.env.cells.lookup x).getD 0) := fun l => by
        induction l with
        | nil => rfl
        | cons a r ih => rw [List.map_cons, List.zip_cons_cons, ih]; rfl
      rw [e, ← e6, List.map_map]
      rfl
    have hnd : (ids.map R.κ).Nodup := by
      rw [q2]
      have key : ∀ l : List Str, l.Nodup → (∀ x ∈ l, ∃ b, X.env.cells.lookup x = some b) → (l.map fun x => (X.env.cells.lookup x).getD 0).Nodup := fun l => by
        induction l with
        | nil => intro _ _; exact List.nodup_nil
        | cons a r ih =>
          intro h1 h2
          obtain ⟨n1, n2⟩ := List.nodup_cons.mp h1
          refine List.nodup_cons.mpr ⟨fun hm => ?_, ih n2 fun x hx => h2 x (List.mem_cons_of_mem _ hx)⟩
          obtain ⟨x, hx, hxe⟩ := List.mem_map.mp hm
          obtain ⟨b1, z1⟩ := h2 a List.mem_cons_self
          obtain ⟨b2, z2⟩ := h2 x (List.mem_cons_of_mem _ hx)
          have hxe : (X.env.cells.lookup x).getD 0 = (X.env.cells.lookup a).getD 0 := hxe
          rw [z1, z2] at hxe
          have hxe : b2 = b1 := hxe
          rw [hxe] at z2
          exact n1 (by rw [I.ok.inj a x b1 z1 z2]; exact hx)
      exact key _ frN hfr
    have hln : (ids.map R.κ).length = L.fr.length := by rw [q2, List.length_map]
    show wpAny _ _ (eval (.Lambda L.params (un body) L.scope p) X.env) _ _ _
    rw [← hb]
    refine lam_made (T := T) I (by rw [C.base, C.mg]; exact TB) hcode (by rw [e4]; exact hm) (fun p hp e => by rw [e4]; exact hu p hp e) S.tab (by rw [e4, C.q]) (defaults_nil (List.isEmpty_iff.mp w2) (List.isEmpty_iff.mp w3)) hfree hcl hnd hln fun f c' H1 s' I1 eN st T1 hf h1 h2 hc ne => ?_
    obtain ⟨F', f1, f2, ext, l1⟩ := S.lies.fzc eN st hf h1 h2 hc ne
    refine ⟨.ref f, H1, I1, rfl, kk _ H1 _ ext (S.liftT ext l1 rfl T1) ?_⟩
    exact .clo ((hG j).trans hL) f1 f2 q1
theorem stepC_keeps {r : Ev} {v : MV} {xs : List MV} (s : MSt) (hf : ∀ f, keepsC s (r.f f xs s)) : keepsC s (stepC P r v xs s) := by
  cases v with
  | fn i => exact hf i
  | clo j ids =>
    unfold stepC
    dsimp only
    split
    · split
      · exact leave_keeps _ _ _
      · trivial
    · trivial
  | _ => trivial
theorem fn_at {v : MV} {a : Addr} {K0 : PySem.W.Frag} {sh : Shared} {prog0 : Program} {w0 : World} (r : RelM G R v (.ref a)) (l : Lies G R s H) (hok : HOk prog0 w0 H sh.heap) (kin : K0.In sh.heap) (hfn : ∀ i a, G.fa i = some a → ∃ oc od fd sl, K0.lookup a = some ⟨oc, od, .func fd, sl⟩) (hv : (∃ i, v = .fn i) ∨ ∃ j cs, v = .clo j cs) : PySem.W.FnAt a sh.heap := by
  rcases hv with ⟨i, rfl⟩ | ⟨j, cs, rfl⟩
  · cases r with
    | fn h =>
      obtain ⟨oc, od, fd, sl, e⟩ := hfn _ _ h
      exact ⟨oc, od, fd, sl, kin _ _ e⟩
  · cases r with
    | clo h1 h2 h3 h4 =>
      obtain ⟨⟨_, _, pm, ctv, e⟩, _, _⟩ := hok a _ (l.fz a _ h2).1
      exact ⟨_, _, _, _, e⟩
theorem isFn_of {n : Nat} {v : MV} {xs : List MV} (h : (ev P n).c v xs s ≠ .bad) : (∃ i, v = .fn i) ∨ ∃ j cs, v = .clo j cs := by
  cases n with
  | zero => exact absurd rfl h
  | succ n =>
    cases v with
    | fn i => exact .inl ⟨i, rfl⟩
    | clo j cs => exact .inr ⟨j, cs, rfl⟩
    | _ => exact absurd rfl h
end
end Dz

set_option maxRecDepth 100000
set_option maxHeartbeats 4000000
/-! Part S: a name's value called; {}; list(d.items()); a if t else b as a test. -/
namespace Dz
open PySem L2
section
variable {G : GI} {P : Prg} {X : Cx} {T : List (Addr × Str)} {W : WX} {R R1 : RE} {env : MEnv} {s s1 : MSt} {σ : St} {H H1 : Hp} {n : Nat} {D : Dat}
theorem evF_keeps {n f : Nat} {xs : List MV} (s : MSt) : keepsC s ((ev P n).f f xs s) := by
  cases n with
  | zero => exact trivial
  | succ n => exact stepF_keeps s
theorem evC_keeps {n : Nat} {v : MV} {xs : List MV} (s : MSt) : keepsC s ((ev P n).c v xs s) := by
  cases n with
  | zero => exact trivial
  | succ n => exact stepC_keeps s fun f => evF_keeps s
theorem se_cal {i : Nat} {x : Str} {as : List ME} {p1 p : Pos} (cs : CS X.prog X.w X.K X.mg X.base T G P n) (hr : Room (n + 2) X.A) (tk : Takes X W) (hfn : ∀ i a, G.fa i = some a → ∃ oc od fd sl, X.K.lookup a = some ⟨oc, od, .func fd, sl⟩)
    (hN : X.N[i]? = some x) (hv : Vis X.env.scope x) (hd : (x == ("__debug__" : Str)) = false) (hc : (x == ("__classdict__" : Str)) = false) (ra : regs as = true) (ha : ∀ m ∈ as, SE G P X T W n m) : SE G P X T W (n + 1) (.cal i x as p1 p) := by
  refine ⟨fun pins sh σ H Q I ⟨R, env, s, S, k⟩ => ?_⟩
  have k : Aft G X T W R env σ H (RelM G) Q (match getV env i s with
    | some f => if isFn f then (listE ((ev P n).e env) as s).bind fun xs s => (ev P n).c f xs s else .bad
    | none => .bad) := k
  cases hg : getV env i s with
  | none => rw [hg] at k; exact k.elim
  | some v =>
    rw [hg] at k
    dsimp only at k
    by_cases hf : isFn v = true
    case neg => rw [if_neg hf] at k; exact k.elim
    rw [if_pos hf] at k
    obtain ⟨u0, hu, ru⟩ := S.loc i v hg
    have hv2 : (∃ i, v = .fn i) ∨ ∃ j cs, v = .clo j cs := by
      cases v with
      | fn i => exact .inl ⟨i, rfl⟩
      | clo j cs => exact .inr ⟨j, cs, rfl⟩
      | _ => cases hf
    obtain ⟨a, rfl⟩ : ∃ a, u0 = .ref a := by
      rcases hv2 with ⟨i, rfl⟩ | ⟨j, cs, rfl⟩
      · cases ru; exact ⟨_, rfl⟩
      · cases ru; exact ⟨_, rfl⟩
    have fin : ∀ {H1 : Hp} {s1 : Shared} {us : List Value} {vs : List V}, Inv X pins σ H1 s1 → Vals vs us → (∃ R1 s1 ws, Ext R H R1 H1 ∧ Sim G X T R1 env s1 σ H1 ∧ RelMs G R1 ws vs ∧ Aft G X T W R1 env σ H1 (RelM G) Q ((ev P n).c v ws s1)) →
        PySem.W.FnAt a s1.heap ∧ wpAny (model X.prog X.w) X.A (call (.ref a) us) (EP X pins σ Q) X.xe s1 := fun {H1 s1 us vs} I1 rv ⟨R1, s2, ws, e1, S1, r1, k1⟩ => by
      have ru1 := ru.later e1 S.lies.f0
      refine ⟨fn_at ru1 S1.lies I1.hok I1.kIn hfn hv2, ?_⟩
      exact done_call tk I1 (cs v a X.A X.stack s1 H1 us vs ws Q _ R1 s2 ru1 hr I1.env0 S1.lies S1.tab (S1.cells I1) rv r1 (k1.call S1 (evC_keeps s2)))
    show wpAny _ _ (eval (.Call (.Name x p1) (unL as) [] p) X.env) _ _ _
    refine wpAny_Call_Name_kw (thn ((pe_var (pos := p1) hN hv hd hc).run pins sh σ H (fun v H1 => v = .ref a ∧ H1 = H) I ⟨.ref a, hu, rfl, rfl⟩) fun u s1 ⟨v', H1, I1, r1, q1⟩ => ?_)
    obtain ⟨ev', eH⟩ := q1
    subst ev'
    rw [eH] at I1
    obtain rfl : u = Value.ref a := r1
    have pa := sa_list (T := T) (W := W) ra ha
    cases as with
    | nil =>
      obtain ⟨f1, f2⟩ := fin I1 .nil ⟨R, s, [], Ext.refl R H, S, .nil, k⟩
      exact PySem.W.callWith_F0 (first := []) f1 f2
    | cons m r =>
      have ra' := Bool.and_eq_true_iff.mp (show (reg m && regs r) = true from ra)
      exact PySem.W.callWith_F (first := []) (fn_at ru S.lies I1.hok I1.kIn hfn hv2) (thn (pa.run p pins s1 σ H _ I1 (tA_seq S k)) fun us s2 ⟨vs, H2, I2, r2, q⟩ => fin I2 r2 q) (star_reg ra'.1 _ _) (any_reg ra'.2 _ _)
/-! ### {} -/
theorem se_dic0 {fl : Bool} {p : Pos} : SE G P X T W (n + 1) (.dic fl [] [] p) := by
  refine PE.imp (pe_dnewK (X := X) (pos := p)) fun σ H Q ⟨R, env, s, S, k⟩ p hp => ?_
  have k : Aft G X T W R env σ H (RelM G) Q (if fl then newRef (.dic [] []) s else .ok (.dic [] []) s) := k
  have hF : R.F p = none := by
    cases q : R.F p with
    | none => rfl
    | some x => have := (S.lies.fz p x q).1; rw [hp] at this; cases this
  cases fl with
  | false =>
    have v := Aft.vq S rfl (show Aft G X T W R env σ H (RelM G) Q (.ok (.dic [] []) s) from k)
    exact v _ _ _ (Ext.fzS S.lies hp) (S.lies.fz1 hp fun ps z => by cases z) (.dic (kvs := []) upd_same rfl .nil)
  | true =>
    have v := Aft.vq (z := .ref s.refs.length) (s1 := { s with refs := s.refs ++ [MO.dic [] []] }) S rfl (show Aft G X T W R env σ H (RelM G) Q (newRef (.dic [] []) s) from k)
    have := v (R.rf p) _ (.ref p) (Ext.rfS S.lies hp) (S.lies.rf1 hp (.dic (kvs := []) rfl .nil))
    refine this ?_
    have q : (R.rf p).μ s.refs.length = p := if_pos S.lies.nr
    have q2 := RelM.ref (G := G) (R := R.rf p) (i := s.refs.length) (by rw [S.lies.nr]; exact Nat.lt_succ_self _)
    rw [q] at q2; exact q2
/-! ### list(d.items()) -/
theorem items_rel {F' : Hp} {R' : RE} (hF : R'.F = F') : ∀ {kvs : List (Key × V)} {ts : List Addr} {vs : List MV}, Paired (fun (t : Addr) (q : Key × V) => F' t = some (.tup [kV q.1, q.2])) ts kvs → RelMs G R' vs (kvs.map (·.2)) →
    RelMs G R' (itemsV (kvs.map fun p => kM p.1) vs) (ts.map V.ref)
  | [], [], _, _, _ => .nil
  | q :: kvs, t :: ts, v :: vs, h, r => by
    cases h with
    | cons h1 h2 =>
      cases r with
      | cons r1 r2 =>
        refine .cons (.tup (by rw [hF]; exact h1) (.cons ?_ (.cons r1 .nil))) (items_rel hF h2 r2)
        cases q with
        | mk k w =>
          cases k with
          | inl i => exact .int i
          | inr x => have := RelM.str (G := G) (R := R') x.cps.toList; rw [toA] at this; exact this
  | [], _ :: _, _, h, _ => by cases h
  | _ :: _, [], _, h, _ => by cases h
theorem se_itm {fl : Bool} {d : ME} {p1 p2 p3 p : Pos} (hc : X.calm = true) (hm : X.mg "list" = none) (hg : Gl X "list") (hd : SE G P X T W n d) (ab : abok d = true) (hl : (p2.endLine == p3.line) = true) : SE G P X T W (n + 1) (.itm fl d p1 p2 p3 p) := by
  refine PE.imp (LiI.pe_listItems hc hd hg hm (by decide +kernel) (ab_reg ab _ _) hl (by rfl)) fun σ H Q ⟨R, env, s, S, k⟩ => ?_
  refine tE.mono (tE_seq S k) fun x H1 ⟨R1, s1, v, e1, S1, r1, k1⟩ => ?_
  cases e : viewD s1 v with
  | none => simp only [e] at k1; exact k1.elim
  | some kv =>
    obtain ⟨ks, vs⟩ := kv
    simp only [e] at k1
    cases fl with
    | true => exact k1.elim
    | false =>
      obtain ⟨a, kvs, rfl, ha, rfl, rs⟩ := viewD_rel S1.lies r1 e
      refine ⟨a, kvs, rfl, ha, fun H' p ts kp hp hts hpt hl ht => ?_⟩
      let F' : Hp := fun b => if b = p ∨ b ∈ ts then H' b else R1.F b
      have hF : ∀ b o, R1.F b = some o → F' b = some o := fun b o h => by
        have z := (S1.lies.fz b o h).1
        have n1 : b ≠ p := ne_of_none z hp
        have n2 : b ∉ ts := fun q => by rw [hts b q] at z; cases z
        show (if b = p ∨ b ∈ ts then H' b else R1.F b) = some o
        rw [if_neg (fun q => q.elim n1 n2)]; exact h
      have ext : ExtS R1 H1 { R1 with F := F' } H' := ⟨⟨hF, fun b h => by
          obtain ⟨o, ho⟩ := Option.ne_none_iff_exists'.mp h
          rw [kp b o ho]; simp, Nat.le_refl _, Nat.le_refl _, fun _ _ => rfl, fun i q1 q2 => absurd q1 (Nat.not_le.mpr q2), fun _ _ => rfl, fun b o h _ _ => kp b o h, fun b us h _ h2 => by
          show (if b = p ∨ b ∈ ts then H' b else R1.F b) = none
          rw [if_neg (fun q => q.elim (ne_of_none h hp) fun q => by rw [hts b q] at h; cases h)]; exact h2⟩, fun b ps h => kp b _ h, rfl, rfl⟩
      have tsT : ∀ t ∈ ts, ∃ xs, H' t = some (.tup xs) := fun t hm => by
        obtain ⟨j, q, _, _, e3⟩ := LiI.paired_ix ht hm
        exact ⟨_, e3⟩
      have l' : Lies G { R1 with F := F' } s1 H' := by
        refine ⟨S1.lies.nr, S1.lies.nc, fun b o h => ?_, fun i o h => ?_, S1.lies.inj⟩
        · have h : (if b = p ∨ b ∈ ts then H' b else R1.F b) = some o := h
          split at h
          · rename_i q
            refine ⟨h, fun ps z => ?_⟩
            rcases q with q | q
            · rw [q, hl] at h; cases h; cases z
            · obtain ⟨xs, hx⟩ := tsT b q
              rw [hx] at h; cases h; cases z
          · obtain ⟨z1, z2⟩ := S1.lies.fz b o h
            exact ⟨kp b o z1, z2⟩
        · obtain ⟨z1, u, z2, z3⟩ := S1.lies.rf i o h
          refine ⟨?_, u, kp _ _ z2, z3.later ext.ext S1.lies.f0⟩
          have n1 : R1.μ i ≠ p := ne_of_none z2 hp
          have n2 : R1.μ i ∉ ts := fun q => by rw [hts _ q] at z2; cases z2
          show (if R1.μ i = p ∨ R1.μ i ∈ ts then H' (R1.μ i) else R1.F (R1.μ i)) = none
          rw [if_neg (fun q => q.elim n1 n2)]; exact z1
      have fts : Paired (fun (t : Addr) (q : Key × V) => F' t = some (.tup [kV q.1, q.2])) ts kvs := by
        have key : ∀ {l : List Addr} {m : List (Key × V)}, (∀ t ∈ l, t ∈ ts) → Paired (fun (t : Addr) (q : Key × V) => H' t = some (.tup [kV q.1, q.2])) l m → Paired (fun (t : Addr) (q : Key × V) => F' t = some (.tup [kV q.1, q.2])) l m := fun {l m} hs h => by
          induction h with
          | nil => exact .nil
          | cons h1 h2 ih => exact .cons (by show (if _ ∨ _ then _ else _) = _; rw [if_pos (.inr (hs _ List.mem_cons_self))]; exact h1) (ih fun t ht => hs t (List.mem_cons_of_mem _ ht))
        exact key (fun _ h => h) ht
      have k2 : VQ G R1 H1 (.lst (itemsV (kvs.map fun p => kM p.1) vs)) s1 Q := Aft.vq S1 rfl k1
      refine k2 _ H' (.ref p) ext l' (.lst (us := ts.map V.ref) ?_ (items_rel rfl fts (rs.later ext.ext S1.lies.f0)))
      show (if p = p ∨ p ∈ ts then H' p else R1.F p) = _
      rw [if_pos (.inl rfl)]; exact hl
/-! ### tests -/
theorem st_ife {t a b : ME} {p : Pos} (ht : ST G P X T W n t) (ha : ST G P X T W n a) (hb : ST G P X T W n b) : ST G P X T W (n + 1) (.ife t a b p) := by
  refine ⟨fun pins sh σ H Q I ⟨R, env, s, S, k⟩ => ?_⟩
  have k : Aft G X T W R env σ H (fun _ a b => a = b) Q (((ev P n).t env t s).bind fun c s => if c then (ev P n).t env a s else (ev P n).t env b s) := k
  refine PyProof.Rows.isTrue_IfExp (thn (ht.run pins sh σ H _ I (tT_seq S k)) fun c s1 ⟨H1, I1, R1, s2, e1, S1, k1⟩ => ?_)
  cases c with
  | true => exact ha.run pins s1 σ H1 Q I1 ⟨R1, env, s2, S1, k1⟩
  | false => exact hb.run pins s1 σ H1 Q I1 ⟨R1, env, s2, S1, k1⟩
end
end Dz

set_option maxRecDepth 100000
set_option maxHeartbeats 4000000
/-! Part T: zip of lists, tuples and texts in any mix. -/
namespace Dz
open PySem L2

inductive SK where
  | lst (a : Addr) | tup (a : Addr) | str (x : Str)
def SK.val : SK → V
  | .lst a => .ref a
  | .tup a => .ref a
  | .str x => .str x
def SK.at (K : PySem.W.Frag) (H : Hp) : SK → List V → Prop
  | .lst a, xs => SqL K H a xs
  | .tup a, xs => SqT K H a xs
  | .str x, xs => xs = x.cps.toList.map fun c => V.str ⟨#[c]⟩
def SK.fp (i : Addr) : SK → List Addr
  | .lst a => [i, a]
  | .tup a => [i, a]
  | .str _ => [i]
def SK.off (i : Addr) : SK → Prop
  | .lst a => a ≠ i
  | .tup a => a ≠ i
  | .str _ => True
def SK.it (t : Tok) (h : Heap) (i n : Nat) : SK → Prop
  | .lst a => h.IsListIter i a n
  | .tup a => h.IsTupleIter i a n
  | .str x => h.IsStrIter i (strIterType x) x t n
def ItG (K : PySem.W.Frag) (k1 k2 : SK) : It :=
  ⟨fun i H => ∃ (xs ys : List V) (x y : V), k1.at K H xs ∧ k2.at K H ys ∧ xs[i]? = some x ∧ ys[i]? = some y,
    fun i H v H' => ∃ b x y, v = .ref b ∧ H b = none ∧ H' = upd H b (.tup [x, y]) ∧ (∀ xs, k1.at K H xs → xs[i]? = some x) ∧ ∀ ys, k2.at K H ys → ys[i]? = some y,
    fun i H => ∃ xs ys : List V, k1.at K H xs ∧ k2.at K H ys ∧ i ≤ xs.length ∧ i ≤ ys.length ∧ (i = xs.length ∨ i = ys.length)⟩
section
variable {X : Cx} {pins : List (Addr × Obj)} {σ : St} {H : Hp} {sh : Shared}
theorem SK.inj {k : SK} {xs ys : List V} (I : Inv X pins σ H sh) (h1 : k.at X.K H xs) (h2 : k.at X.K H ys) : xs = ys := by
  cases k with
  | lst a => exact I.list_inj h1 h2
  | tup a => exact I.tuple_inj h1 h2
  | str x => exact (show xs = _ from h1).trans (show ys = _ from h2).symm
/-- what its iterator draws -/
theorem SK.draws {k : SK} {i : Addr} {t : Tok} {xs : List V} {n : Nat} (I : Inv X pins σ H sh) (hc : X.calm = true) (hx : k.at X.K H xs) (ho : k.off i) (st : k.it t sh.heap i n) :
    ∃ (P : Nat → Value → Prop) (St : Nat → Heap → Prop), Draws X.prog X.w X.A.in1 i (k.fp i) xs.length P St ∧ St n sh.heap ∧ (∀ m h, St m h → k.it t h i m) ∧ ∀ m v, P m v → ∀ x, xs[m]? = some x → RelV x v := by
  cases k with
  | lst a =>
    obtain ⟨its, rv, p, _⟩ := I.list hx
    have d := Draws.list (prog := X.prog) (w := X.w) (A := X.A.in1) (I.ok.hd hc) i a ho its.toArray
    rw [List.size_toArray, ← rv.length] at d
    refine ⟨_, _, d, ⟨st, p.isList⟩, fun m h z => z.1, fun m v hv x hx => ?_⟩
    obtain ⟨u, hu, r⟩ := rv.get hx
    have hv : its.toArray[m]? = some v := hv
    have hv : its[m]? = some v := by simpa using hv
    rw [hu] at hv
    cases hv
    exact r
  | tup a =>
    obtain ⟨its, rv, p, _⟩ := I.tuple hx
    have d := Draws.tuple (prog := X.prog) (w := X.w) (A := X.A.in1) (I.ok.hd hc) i a ho its.toArray
    rw [List.size_toArray, ← rv.length] at d
    refine ⟨_, _, d, ⟨st, show sh.heap.IsTuple a its.toArray from p⟩, fun m h z => z.1, fun m v hv x hx => ?_⟩
    obtain ⟨u, hu, r⟩ := rv.get hx
    have hv : its.toArray[m]? = some v := hv
    have hv : its[m]? = some v := by simpa using hv
    rw [hu] at hv
    cases hv
    exact r
  | str x =>
    have hx : xs = x.cps.toList.map fun c => V.str ⟨#[c]⟩ := hx
    subst hx
    have d := Draws.text (prog := X.prog) (w := X.w) (A := X.A.in1) (I.ok.hd hc) i x t
    have e : x.cps.size = (x.cps.toList.map fun c => V.str ⟨#[c]⟩).length := by rw [List.length_map, Array.length_toList]
    rw [e] at d
    refine ⟨_, _, d, st, fun m h z => z, fun m v hv y hy => ?_⟩
    obtain ⟨c, u, hcx, rfl⟩ := hv
    rw [List.getElem?_map, Array.getElem?_toList, hcx] at hy
    cases hy
    exact ⟨u, rfl⟩
/-- how its iterator begins -/
theorem SK.begins {k : SK} {xs : List V} {u : Value} (I : Inv X pins σ H sh) (hx : k.at X.K H xs) (r : RelV k.val u) :
    ∃ (o : Obj) (Hk : Heap → Prop) (t : Tok), Begins u o Hk ∧ Hk sh.heap ∧ ∀ h' i, h'.get? i = some o → k.it t h' i 0 := by
  cases k with
  | lst a =>
    obtain ⟨its, rv, p, _⟩ := I.list hx
    obtain rfl : u = Value.ref a := r
    exact ⟨_, _, 0, begins_list a its.toArray, p.isList, fun h' i e => ⟨_, e, rfl, rfl⟩⟩
  | tup a =>
    obtain ⟨its, rv, p, _⟩ := I.tuple hx
    obtain rfl : u = Value.ref a := r
    exact ⟨_, _, 0, begins_tuple a its.toArray, show sh.heap.IsTuple a its.toArray from p, fun h' i e => ⟨_, e, rfl, rfl⟩⟩
  | str x =>
    obtain ⟨t, rfl⟩ := r
    exact ⟨_, _, t, begins_text x t, trivial, fun h' i e => ⟨_, e, rfl, rfl⟩⟩
theorem SK.lt {k : SK} {xs : List V} (I : Inv X pins σ H sh) (hx : k.at X.K H xs) {i : Addr} (hi : sh.heap.objs.size ≤ i) : k.off i ∧ ∀ b ∈ k.fp i, b = i ∨ b < sh.heap.objs.size := by
  cases k with
  | lst a =>
    obtain ⟨its, rv, p, _⟩ := I.list hx
    refine ⟨Nat.ne_of_lt (Nat.lt_of_lt_of_le p.lt hi), fun b hb => ?_⟩
    rcases List.mem_cons.mp hb with z | z
    · exact .inl z
    · rw [List.mem_singleton.mp z]; exact .inr p.lt
  | tup a =>
    obtain ⟨its, rv, p, _⟩ := I.tuple hx
    obtain ⟨o, ho, _⟩ := id p
    refine ⟨Nat.ne_of_lt (Nat.lt_of_lt_of_le (Heap.lt_size ho) hi), fun b hb => ?_⟩
    rcases List.mem_cons.mp hb with z | z
    · exact .inl z
    · rw [List.mem_singleton.mp z]; exact .inr (Heap.lt_size ho)
  | str x => exact ⟨trivial, fun b hb => .inl (List.mem_singleton.mp hb)⟩
theorem SK.live {k : SK} {t : Tok} {h : Heap} {i n : Nat} (z : k.it t h i n) : ∃ o, h.get? i = some o ∧ ∀ v, o.data ≠ .cell v := by
  cases k with
  | lst a => obtain ⟨o, e, _, d⟩ := z; exact ⟨o, e, fun v q => by rw [d] at q; cases q⟩
  | tup a => obtain ⟨o, e, _, d⟩ := z; exact ⟨o, e, fun v q => by rw [d] at q; cases q⟩
  | str x => obtain ⟨o, e, _, d⟩ := z; exact ⟨o, e, fun v q => by rw [d] at q; cases q⟩
theorem SK.keep {k : SK} {t : Tok} {h h' : Heap} {i n : Nat} (z : k.it t h i n) (hk : ∀ o, h.get? i = some o → h'.get? i = some o) : k.it t h' i n := by
  cases k with
  | lst a => exact Heap.IsListIter.at z hk
  | tup a => exact Heap.IsTupleIter.at z hk
  | str x => obtain ⟨o, e, r⟩ := z; exact ⟨o, hk o e, r⟩
end
theorem SK.memfp (i : Addr) : ∀ k : SK, i ∈ k.fp i
  | .lst _ => List.mem_cons_self
  | .tup _ => List.mem_cons_self
  | .str _ => List.mem_cons_self
theorem turn_zipG {P : Program} {w : World} {K : PySem.W.Frag} {elts : List Expr} {kk : Nat} {tpos : Pos} {z TI TO i1 i2 : Addr} {k1 k2 : SK} {t1 t2 : Tok} (S : ZipSep2 z TI TO i1 i2 (k1.fp i1) (k2.fp i2)) (o1 : k1.off i1) (o2 : k2.off i2) :
    Turn P w K (.Tuple elts kk tpos) (ItG K k1 k2) [z, TI, TO, i1, i2] z (fun i h => IsZip h z TI TO .none ∧ IsTupOf2 h TI (.ref i1) (.ref i2) ∧ (∃ x y, IsTupOf2 h TO x y) ∧ k1.it t1 h i1 i ∧ k2.it t2 h i2 i) where
  mem := List.mem_cons_self
  obj := fun i h st c hc => by
    obtain ⟨hz, hTI, ⟨x, y, hTO⟩, h1, h2⟩ := st
    have hc' : c = z ∨ c = TI ∨ c = TO ∨ c = i1 ∨ c = i2 := by simpa using hc
    rcases hc' with q | q | q | q | q
    · rw [q]; exact ⟨_, hz, fun v q => nomatch q⟩
    · rw [q]; exact ⟨_, hTI, fun v q => nomatch q⟩
    · rw [q]; exact ⟨_, hTO, fun v q => nomatch q⟩
    · rw [q]; exact SK.live h1
    · rw [q]; exact SK.live h2
  keep := fun i h h' st k => by
    obtain ⟨hz, hTI, ⟨x, y, hTO⟩, h1, h2⟩ := st
    exact ⟨k z (by simp) _ hz, k TI (by simp) _ hTI, ⟨x, y, k TO (by simp) _ hTO⟩, SK.keep h1 fun o q => k i1 (by simp) o q, SK.keep h2 fun o q => k i2 (by simp) o q⟩
  item := by
    intro X hP hw hK hc i pins sh σ H E I hf st hg
    subst hP hw hK
    obtain ⟨hz, hTI, ⟨x0, y0, hTO⟩, h1, h2⟩ := st
    obtain ⟨xs, ys, x, y, qx, qy, hx, hy⟩ := hg
    obtain ⟨P1, St1, D1, b1, c1, r1⟩ := SK.draws I hc qx o1 h1
    obtain ⟨P2, St2, D2, b2, c2, r2⟩ := SK.draws I hc qy o2 h2
    have zl : z < sh.heap.objs.size := Heap.lt_size hz
    refine wpAny_pyNext_zipD2_item S D1 D2 hz hTI hTO b1 b2 (List.getElem?_eq_some_iff.mp hx).1 (List.getElem?_eq_some_iff.mp hy).1 fun u1 u2 h' tk p1 p2 z' TO' st1 st2 hT hsz hk => ?_
    refine ⟨_, rfl, wpAny_letOwnedTupleGo_zip (s := { sh with heap := h', toks := tk }) z' fun h'' z'' sb => ?_⟩
    have hT2 : h''.get? sh.heap.objs.size = some { cls := .type "tuple", data := .seq #[u1, u2] } := (sb.2 _ (Nat.ne_of_gt zl)).trans hT
    have new : ObjOk X.prog X.w (upd H sh.heap.objs.size (.tup [x, y])) h'' sh.heap.objs.size (.tup [x, y]) :=
      ⟨by show 2 ≤ sizeLine; decide, [u1, u2], .cons (r1 _ _ p1 _ hx) (.cons (r2 _ _ p2 _ hy) .nil), ⟨_, hT2, rfl, _, rfl⟩⟩
    have J : Inv X pins σ (upd H sh.heap.objs.size (.tup [x, y])) { sh with heap := h'', toks := tk } :=
      I.turnedNew (t' := tk) (ch := [z, TI, TO, i1, i2]) (fun c o hb q => (sb.2 c (fun e => hb (by simp [e]))).trans (hk c o (fun e => hb (by simp [e])) (fun e => hb (by simp [e])) (fun e => hb (by simp [e])) (fun e => hb (by simp [e])) q)) hf (Nat.le_refl _) new
    refine ⟨.ref sh.heap.objs.size, _, J, rfl, ⟨_, x, y, rfl, I.hok.fresh (Nat.le_refl _), rfl, fun l hl => by rw [SK.inj I hl qx]; exact hx, fun l hl => by rw [SK.inj I hl qy]; exact hy⟩, ⟨z'', ?_, ⟨u1, u2, ?_⟩, ?_, ?_⟩, fun c hcm => ?_⟩
    · exact (sb.2 _ S.TIz).trans (hk _ _ S.TIz S.TITO S.TIi1 S.TIi2 hTI)
    · exact (sb.2 _ S.TOz).trans TO'
    · exact SK.keep (c1 _ _ st1) fun o q => (sb.2 _ (Ne.symm S.zi1)).trans q
    · exact SK.keep (c2 _ _ st2) fun o q => (sb.2 _ (Ne.symm S.zi2)).trans q
    · have hlt : c < sh.heap.objs.size := by
        have hc' : c = z ∨ c = TI ∨ c = TO ∨ c = i1 ∨ c = i2 := by simpa using hcm
        rcases hc' with q | q | q | q | q
        · rw [q]; exact zl
        · rw [q]; exact Heap.lt_size hTI
        · rw [q]; exact Heap.lt_size hTO
        · rw [q]; obtain ⟨_, e1, _⟩ := SK.live h1; exact Heap.lt_size e1
        · rw [q]; obtain ⟨_, e2, _⟩ := SK.live h2; exact Heap.lt_size e2
      rw [upd_ne (Nat.ne_of_lt hlt)]
      exact (hf c hcm).1
  done := by
    intro X hP hw hK hc i pins sh σ H E I hf st hg
    subst hP hw hK
    obtain ⟨hz, hTI, ⟨x0, y0, hTO⟩, h1, h2⟩ := st
    obtain ⟨xs, ys, qx, qy, l1, l2, hend⟩ := hg
    obtain ⟨P1, St1, D1, b1, _, _⟩ := SK.draws I hc qx o1 h1
    obtain ⟨P2, St2, D2, b2, _, _⟩ := SK.draws I hc qy o2 h2
    exact wpAny_pyNext_zipD2_end S D1 D2 hz hTI hTO b1 b2 l1 l2 hend fun h' tk hk => ⟨rfl, I.turnedL (t' := tk) (ch := [z, TI, TO, i1, i2]) (fun c o hb q =>
      hk c o (fun e => hb (by simp [e])) (fun e => hb (by simp [e])) (fun e => hb (by simp [e])) (fun e => hb (by simp [e])) q) hf⟩
  self := fun A i s Q E st h => wpAny_pyIter_zip st.1 h
def iZipG (K : PySem.W.Frag) (ta : TA) : TI := fun σ H Rc => ta σ H fun vs H1 => ∃ k1 k2 xs ys, vs = [SK.val k1, SK.val k2] ∧ k1.at K H1 xs ∧ k2.at K H1 ys ∧ Rc (ItG K k1 k2) H1
theorem pi_zipG {X : Cx} {e e2 : Expr} {ta : TA} {p pos tpos : Pos} {elts : List Expr} {kk : Nat} (hg : Gl X "zip") (hm : X.mg "zip" = none) (ha : PA X [e, e2] ta)
    (hs : starEach [e, e2] X.env = (false, eval e X.env) :: starEach [e2] X.env) (hpl : (backTo pos (starEach [e2] X.env)).any (·.1) = false) :
    PI X (.Tuple elts kk tpos) (.Call (.Name "zip" p) [e, e2] [] pos) (iZipG X.K ta) := by
  refine ⟨fun pins sh σ H Rc I h => ?_⟩
  refine PyProof.Rows.Call_ (ld_blt I hg hm PyProof.Rows.boot_zip (PyProof.Rows.callWith_type1 (thn (ha.run pos pins sh σ H _ I h) fun us s1 ⟨vs, H1, I1, r1, q1⟩ => ?_) hs hpl))
  obtain ⟨k1, k2, xs, ys, rfl, hx, hy, q⟩ := q1
  cases r1 with
  | cons ra r1 =>
    cases r1 with
    | cons rb r1 =>
      cases r1
      obtain ⟨o1, Hk1, t1, B1, b1, c1⟩ := SK.begins I1 hx ra
      obtain ⟨o2, Hk2, t2, B2, b2, c2⟩ := SK.begins I1 hy rb
      refine zip_begins2 B1 B2 b1 b2 fun h' hz hTI hTO h1 h2 hsz hk => wpAny_pyIter_zip hz ?_
      have J : Inv X pins σ H1 { s1 with heap := h' } := I1.kept (t' := s1.toks) hk
      obtain ⟨f1, g1⟩ := SK.lt I1 hx (Nat.le_refl _)
      obtain ⟨f2, g2⟩ := SK.lt I1 hy (i := s1.heap.objs.size + 1) (Nat.le_succ _)
      have no1 : ∀ {b : Addr}, s1.heap.objs.size + 1 ≤ b → b ∉ k1.fp s1.heap.objs.size := fun {b} hb hm => by
        have hb : s1.heap.objs.size < b := hb
        rcases g1 b hm with z | z
        · exact absurd hb (by rw [z]; exact Nat.lt_irrefl _)
        · exact absurd (Nat.lt_trans hb z) (Nat.lt_irrefl _)
      have no2 : ∀ {b : Addr}, s1.heap.objs.size + 2 ≤ b → b ∉ k2.fp (s1.heap.objs.size + 1) := fun {b} hb hm => by
        have hb : s1.heap.objs.size + 1 < b := hb
        rcases g2 b hm with z | z
        · exact absurd hb (by rw [z]; exact Nat.lt_irrefl _)
        · exact absurd (Nat.lt_trans (Nat.lt_trans (Nat.lt_succ_self _) hb) z) (Nat.lt_irrefl _)
      have no3 : s1.heap.objs.size ∉ k2.fp (s1.heap.objs.size + 1) := fun hm => by
        rcases g2 _ hm with z | z
        · exact absurd z (Nat.ne_of_lt (Nat.lt_succ_self _))
        · exact absurd z (Nat.lt_irrefl _)
      have ap : ZipSep2 (s1.heap.objs.size + 4) (s1.heap.objs.size + 2) (s1.heap.objs.size + 3) s1.heap.objs.size (s1.heap.objs.size + 1) (k1.fp s1.heap.objs.size) (k2.fp (s1.heap.objs.size + 1)) := by
        have ne : ∀ {a b : Nat}, a ≠ b → s1.heap.objs.size + a ≠ s1.heap.objs.size + b := fun h e => h (Nat.add_left_cancel e)
        exact ⟨ne (by decide), ne (by decide), ne (by decide), ne (a := 2) (b := 0) (by decide), SK.memfp _ _, no1 (Nat.add_le_add_left (by decide) _), no1 (Nat.add_le_add_left (by decide) _), ne (by decide), SK.memfp _ _,
          no2 (Nat.add_le_add_left (by decide) _), no2 (Nat.add_le_add_left (by decide) _), no3, no1 (Nat.le_refl _)⟩
      refine ⟨s1.heap.objs.size + 4, [s1.heap.objs.size + 4, s1.heap.objs.size + 2, s1.heap.objs.size + 3, s1.heap.objs.size, s1.heap.objs.size + 1], _, _, H1, rfl, J, turn_zipG (t1 := t1) (t2 := t2) ap f1 f2, ⟨hz, hTI, ⟨_, _, hTO⟩, c1 _ _ h1, c2 _ _ h2⟩, fun c hcm => ?_, q⟩
      have hc' : c = s1.heap.objs.size + 4 ∨ c = s1.heap.objs.size + 2 ∨ c = s1.heap.objs.size + 3 ∨ c = s1.heap.objs.size ∨ c = s1.heap.objs.size + 1 := by simpa using hcm
      have hle : s1.heap.objs.size ≤ c := by
        rcases hc' with z | z | z | z | z
        · rw [z]; exact Nat.le_add_right _ _
        · rw [z]; exact Nat.le_add_right _ _
        · rw [z]; exact Nat.le_add_right _ _
        · rw [z]; exact Nat.le_refl _
        · rw [z]; exact Nat.le_add_right _ _
      exact I1.fpOk hle (I1.hok.fresh hle)
end Dz

set_option maxRecDepth 100000
set_option maxHeartbeats 4000000
/-! Part U: what is walked. -/
namespace Dz
open PySem L2

inductive KR (G : GI) (R : RE) : MV → SK → Prop
  | lst {v : MV} {a : Addr} : RelM G R v (.ref a) → (∀ xs, v ≠ .tup xs) → KR G R v (.lst a)
  | tup {xs : List MV} {a : Addr} : RelM G R (.tup xs) (.ref a) → KR G R (.tup xs) (.tup a)
  | str (x : List Nat) : KR G R (.str x) (.str ⟨x.toArray⟩)
def SK.It (K : PySem.W.Frag) : SK → L2.It
  | .lst a => Itl K a
  | .tup a => Itt K a
  | .str x => Its x
inductive SrcI (G : GI) (K : PySem.W.Frag) (R : RE) : Src → It → Prop
  | live {v : MV} {k : SK} : KR G R v k → SrcI G K R (.live v) (k.It K)
  | rng (lo : Int) (n : Nat) : SrcI G K R (.rng lo n) (Itr lo n)
  | enm {v : MV} {a : Addr} : RelM G R v (.ref a) → (∀ xs, v ≠ .tup xs) → SrcI G K R (.enm v) (Ite K a)
  | zip {v w : MV} {k1 k2 : SK} : KR G R v k1 → KR G R w k2 → SrcI G K R (.zip v w) (ItG K k1 k2)
section
variable {G : GI} {P : Prg} {X : Cx} {T : List (Addr × Str)} {W : WX} {R R1 : RE} {env : MEnv} {s s1 : MSt} {σ : St} {H H1 : Hp} {n : Nat} {K : PySem.W.Frag}
theorem KR.later {v : MV} {k : SK} (r : KR G R v k) (e : Ext R H R1 H1) (fz : ∀ a o, R.F a = some o → H a = some o) : KR G R1 v k := by
  cases r with
  | lst h n => exact .lst (h.later e fz) n
  | tup h => exact .tup (h.later e fz)
  | str x => exact .str x
theorem SrcI.later {src : Src} {J : It} (r : SrcI G K R src J) (e : Ext R H R1 H1) (fz : ∀ a o, R.F a = some o → H a = some o) : SrcI G K R1 src J := by
  cases r with
  | live h => exact .live (h.later e fz)
  | rng lo n => exact .rng lo n
  | enm h n => exact .enm (h.later e fz) n
  | zip h1 h2 => exact .zip (h1.later e fz) (h2.later e fz)
theorem viewQ_not {v : MV} (h : ∀ xs, v ≠ .tup xs) : viewQ s v = viewL s v := by
  cases v <;> first | rfl | exact absurd rfl (h _)
/-- what a walked thing holds now -/
theorem KR.now {v : MV} {k : SK} {xs : List MV} (r : KR G R v k) (l : Lies G R s H) (h : seqV s v = some xs) : ∃ us, k.at K H us ∧ RelMs G R xs us := by
  cases r with
  | lst r n =>
    have h : viewQ s v = some xs := by
      cases v <;> first | exact h | (cases r)
    rw [viewQ_not n] at h
    obtain ⟨a, us, e, ha, rs⟩ := viewL_rel l r h
    cases e
    exact ⟨us, SqL.of ha, rs⟩
  | tup r =>
    cases h
    cases r with
    | tup h1 h2 => exact ⟨_, SqT.of (l.fz _ _ h1).1, h2⟩
  | str x =>
    cases h
    refine ⟨_, rfl, ?_⟩
    show RelMs G R (x.map fun c => .str [c]) (x.toArray.toList.map fun c => V.str ⟨#[c]⟩)
    have e : x.toArray.toList = x := by simp
    rw [e]
    clear e
    induction x with
    | nil => exact .nil
    | cons c r ih => exact .cons (by have := RelM.str (G := G) (R := R) [c]; simpa using this) ih
theorem seqAt_eq {v : MV} {i : Nat} : seqAt s v i = (seqV s v).map fun xs => xs[i]? := by
  cases v with
  | str x =>
    show some ((x[i]?).map fun c => MV.str [c]) = some ((x.map fun c => MV.str [c])[i]?)
    rw [List.getElem?_map]
  | _ => rfl
theorem KR.at_some {v : MV} {k : SK} {x : MV} {i : Nat} (r : KR G R v k) (l : Lies G R s H) (h : seqAt s v i = some (some x)) : ∃ us u, k.at K H us ∧ us[i]? = some u ∧ RelM G R x u := by
  rw [seqAt_eq] at h
  cases e : seqV s v with
  | none => rw [e] at h; cases h
  | some xs =>
    rw [e] at h
    have h : xs[i]? = some x := Option.some.inj h
    obtain ⟨us, h1, h2⟩ := r.now (K := K) l e
    obtain ⟨u, h3, h4⟩ := h2.get h
    exact ⟨us, u, h1, h3, h4⟩
theorem KR.at_none {v : MV} {k : SK} {i : Nat} (r : KR G R v k) (l : Lies G R s H) (h : seqAt s v i = some none) : ∃ us, k.at K H us ∧ us.length ≤ i := by
  rw [seqAt_eq] at h
  cases e : seqV s v with
  | none => rw [e] at h; cases h
  | some xs =>
    rw [e] at h
    have h : xs[i]? = none := Option.some.inj h
    obtain ⟨us, h1, h2⟩ := r.now (K := K) l e
    exact ⟨us, h1, by rw [← h2.length]; exact List.getElem?_eq_none_iff.mp h⟩
/-- a new pair -/
theorem pair_ok {x y : MV} {u v : V} {p : Addr} (l : Lies G R s H) (hp : H p = none) (r1 : RelM G R x u) (r2 : RelM G R y v) :
    ∃ R', ExtS R H R' (upd H p (.tup [u, v])) ∧ Lies G R' s (upd H p (.tup [u, v])) ∧ RelM G R' (.tup [x, y]) (.ref p) := by
  have hF : R.F p = none := by
    cases q : R.F p with
    | none => rfl
    | some x => have := (l.fz p x q).1; rw [hp] at this; cases this
  exact ⟨_, Ext.fzS l hp, l.fz1 hp fun ps z => (by cases z), .tup upd_same ((RelMs.cons r1 (.cons r2 .nil)).fz hF)⟩
theorem next_stop {src : Src} {J : It} {i : Nat} (r : SrcI G K R src J) (l : Lies G R s H) (h : src.next s i = some none) : J.stop i H := by
  cases r with
  | live r =>
    obtain ⟨us, h1, h2⟩ := r.at_none (K := K) l h
    cases r with
    | lst _ _ => exact ⟨us, h1, h2⟩
    | tup _ => exact ⟨us, h1, h2⟩
    | str x =>
      have h1 : us = (Str.mk x.toArray).cps.toList.map fun c => V.str ⟨#[c]⟩ := h1
      subst h1
      rw [List.length_map, Array.length_toList] at h2
      exact h2
  | rng lo n =>
    have h : some (if i < n then some (MV.int (lo + i)) else none) = some none := h
    have h := Option.some.inj h
    split at h
    · cases h
    · show n ≤ i
      omega
  | @enm v a r nt =>
    have h : (viewL s v).map (fun xs => (xs[i]?).map fun x => MV.tup [.int i, x]) = some none := h
    cases e : viewL s v with
    | none => rw [e] at h; cases h
    | some xs =>
      rw [e] at h
      have h : (xs[i]?).map (fun x => MV.tup [.int i, x]) = none := Option.some.inj h
      obtain ⟨b, us, eb, hb, rs⟩ := viewL_rel l r e
      cases eb
      refine ⟨us, SqL.of hb, ?_⟩
      rw [← rs.length]
      exact List.getElem?_eq_none_iff.mp (Option.map_eq_none_iff.mp h)
  | @zip v w k1 k2 r1 r2 =>
    have h : (match seqV s v, seqV s w with
      | some xs, some ys => match xs[i]?, ys[i]? with
        | some x, some y => some (some (MV.tup [x, y]))
        | _, _ => if i ≤ xs.length ∧ i ≤ ys.length then some none else none
      | _, _ => none) = some none := h
    cases e1 : seqV s v with
    | none => rw [e1] at h; cases h
    | some xs =>
      cases e2 : seqV s w with
      | none => rw [e1, e2] at h; cases h
      | some ys =>
        rw [e1, e2] at h
        dsimp only at h
        obtain ⟨us, h1, h2⟩ := r1.now (K := K) l e1
        obtain ⟨ws, g1, g2⟩ := r2.now (K := K) l e2
        have key : (xs[i]? = none ∨ ys[i]? = none) ∧ i ≤ xs.length ∧ i ≤ ys.length := by
          split at h
          · cases h
          · rename_i nn
            split at h
            · rename_i q
              refine ⟨?_, q⟩
              cases z1 : xs[i]? with
              | none => exact .inl rfl
              | some x =>
                cases z2 : ys[i]? with
                | none => exact .inr rfl
                | some y => exact absurd z2 (nn x y z1)
            · cases h
        obtain ⟨z, q1, q2⟩ := key
        refine ⟨us, ws, h1, g1, by rw [← h2.length]; exact q1, by rw [← g2.length]; exact q2, ?_⟩
        rcases z with z | z
        · have := List.getElem?_eq_none_iff.mp z
          exact .inl (by rw [← h2.length]; omega)
        · have := List.getElem?_eq_none_iff.mp z
          exact .inr (by rw [← g2.length]; omega)
theorem next_go {src : Src} {J : It} {i : Nat} {x : MV} (r : SrcI G K R src J) (l : Lies G R s H) (h : src.next s i = some (some x)) :
    J.go i H ∧ ∀ v H', J.yld i H v H' → ∃ R', ExtS R H R' H' ∧ Lies G R' s H' ∧ RelM G R' x v := by
  cases r with
  | live r =>
    obtain ⟨us, u, h1, h2, h3⟩ := r.at_some (K := K) l h
    cases r with
    | lst _ _ =>
      refine ⟨⟨us, u, h1, h2⟩, fun v H' y => ?_⟩
      obtain ⟨rfl, y⟩ := y
      have := y us h1
      rw [h2] at this
      cases this
      exact ⟨R, ExtS.refl _ _, l, h3⟩
    | tup _ =>
      refine ⟨⟨us, u, h1, h2⟩, fun v H' y => ?_⟩
      obtain ⟨rfl, y⟩ := y
      have := y us h1
      rw [h2] at this
      cases this
      exact ⟨R, ExtS.refl _ _, l, h3⟩
    | str z =>
      have h1 : us = (Str.mk z.toArray).cps.toList.map fun c => V.str ⟨#[c]⟩ := h1
      subst h1
      have hl := (List.getElem?_eq_some_iff.mp h2).1
      rw [List.length_map, Array.length_toList] at hl
      refine ⟨hl, fun v H' y => ?_⟩
      obtain ⟨rfl, c, hc, rfl⟩ := y
      rw [List.getElem?_map, Array.getElem?_toList, hc] at h2
      cases h2
      exact ⟨R, ExtS.refl _ _, l, h3⟩
  | rng lo n =>
    have h : some (if i < n then some (MV.int (lo + i)) else none) = some (some x) := h
    have h := Option.some.inj h
    split at h
    · rename_i hi
      cases h
      refine ⟨hi, fun v H' y => ?_⟩
      obtain ⟨rfl, rfl⟩ := y
      exact ⟨R, ExtS.refl _ _, l, .int _⟩
    · cases h
  | @enm v a r nt =>
    have h : (viewL s v).map (fun xs => (xs[i]?).map fun x => MV.tup [.int i, x]) = some (some x) := h
    cases e : viewL s v with
    | none => rw [e] at h; cases h
    | some xs =>
      rw [e] at h
      have h : (xs[i]?).map (fun x => MV.tup [.int i, x]) = some x := Option.some.inj h
      obtain ⟨b, us, eb, hb, rs⟩ := viewL_rel l r e
      cases eb
      cases q : xs[i]? with
      | none => rw [q] at h; cases h
      | some z =>
        rw [q] at h
        cases h
        obtain ⟨u, hu, ru⟩ := rs.get q
        refine ⟨⟨us, u, SqL.of hb, hu⟩, fun v H' y => ?_⟩
        obtain ⟨p, x', rfl, hp, rfl, y⟩ := y
        have := y us (SqL.of hb)
        rw [hu] at this
        cases this
        exact pair_ok l hp (.int _) ru
  | @zip v w k1 k2 r1 r2 =>
    have h : (match seqV s v, seqV s w with
      | some xs, some ys => match xs[i]?, ys[i]? with
        | some x, some y => some (some (MV.tup [x, y]))
        | _, _ => if i ≤ xs.length ∧ i ≤ ys.length then some none else none
      | _, _ => none) = some (some x) := h
    cases e1 : seqV s v with
    | none => rw [e1] at h; cases h
    | some xs =>
      cases e2 : seqV s w with
      | none => rw [e1, e2] at h; cases h
      | some ys =>
        rw [e1, e2] at h
        dsimp only at h
        obtain ⟨us, h1, h2⟩ := r1.now (K := K) l e1
        obtain ⟨ws, g1, g2⟩ := r2.now (K := K) l e2
        split at h
        · rename_i a b z1 z2
          cases h
          obtain ⟨u, hu, ru⟩ := h2.get z1
          obtain ⟨y, hy, ry⟩ := g2.get z2
          refine ⟨⟨us, ws, u, y, h1, g1, hu, hy⟩, fun v H' yy => ?_⟩
          obtain ⟨p, x', y', rfl, hp, rfl, f1, f2⟩ := yy
          have q1 := f1 us h1
          have q2 := f2 ws g1
          rw [hu] at q1
          rw [hy] at q2
          cases q1
          cases q2
          exact pair_ok l hp ru ry
        · split at h <;> cases h
/-! ### the walk of a value -/
def iLive (K : PySem.W.Frag) (te : TE) : TI := fun σ H Rc => te σ H fun x H1 => ∃ k us, x = SK.val k ∧ k.at K H1 us ∧ Rc (k.It K) H1
theorem pi_live {tg e : Expr} {te : TE} (he : PE X e te) : PI X tg e (iLive X.K te) := by
  refine ⟨fun pins sh σ H Rc I h => ?_⟩
  refine thn (he.run pins sh σ H _ I h) fun u s1 ⟨x, H1, I1, r1, k, us, ex, hk, q⟩ => ?_
  subst ex
  cases k with
  | lst a =>
    obtain rfl : u = Value.ref a := r1
    obtain ⟨its, rv, p, hz⟩ := I1.list hk
    refine wpAny_pyIter_list p.isList ?_
    refine ⟨s1.heap.objs.size, [s1.heap.objs.size], _, _, H1, rfl, I1.kept (t' := s1.toks) fun b o e => Heap.get?_push_of_some _ e, turn_list a _, ⟨_, Heap.get?_push_size _ rfl, rfl, rfl⟩, fun b hb => ?_, q⟩
    rw [List.mem_singleton.mp hb]
    exact I1.fpOk (Nat.le_refl _) (I1.hok.fresh (Nat.le_refl _))
  | tup a =>
    obtain rfl : u = Value.ref a := r1
    obtain ⟨its, rv, p, hz⟩ := I1.tuple hk
    refine wpAny_pyIter_tuple (show s1.heap.IsTuple a its.toArray from p) ?_
    refine ⟨s1.heap.objs.size, [s1.heap.objs.size], _, _, H1, rfl, I1.kept (t' := s1.toks) fun b o e => Heap.get?_push_of_some _ e, turn_tuple a _, ⟨_, Heap.get?_push_size _ rfl, rfl, rfl⟩, fun b hb => ?_, q⟩
    rw [List.mem_singleton.mp hb]
    exact I1.fpOk (Nat.le_refl _) (I1.hok.fresh (Nat.le_refl _))
  | str x =>
    obtain ⟨t, rfl⟩ := r1
    cases ha : x.cps.all (· < 128)
    · exact wpAny_pyIter_wide ha (pi_one (tk := s1.toks) I1 _ (turn_str _ x t "str_iterator" (.inr rfl)) ⟨_, Heap.get?_push_size _ rfl, rfl, rfl⟩ q)
    · exact wpAny_pyIter_ascii ha (pi_one (tk := s1.toks) I1 _ (turn_str _ x t "str_ascii_iterator" (.inl rfl)) ⟨_, Heap.get?_push_size _ rfl, rfl, rfl⟩ q)
theorem PI.imp {tg e : Expr} {t t' : TI} (h : PI X tg e t) (q : ∀ σ H Rc, t' σ H Rc → t σ H Rc) : PI X tg e t' := ⟨fun pins s σ H Rc I w => h.run pins s σ H Rc I (q σ H Rc w)⟩
/-- the reading of a source -/
def tSrc (G : GI) (P : Prg) (X : Cx) (T : List (Addr × Str)) (W : WX) (n : Nat) (m : ME) : TI := fun σ H Rc => ∃ R env s, Sim G X T R env s σ H ∧ Aft G X T W R env σ H (fun R1 src J => SrcI G X.K R1 src J) Rc (srcOf (ev P n) env m s)
theorem kr_of {v : MV} {u : V} {xs : List MV} (r : RelM G R v u) (h : seqV s v = some xs) : ∃ k, u = SK.val k ∧ KR G R v k := by
  cases r with
  | str x => exact ⟨_, rfl, .str x⟩
  | tup a b => exact ⟨.tup _, rfl, .tup (.tup a b)⟩
  | lst a b => exact ⟨.lst _, rfl, .lst (.lst a b) fun xs q => by cases q⟩
  | ref hi => exact ⟨.lst _, rfl, .lst (.ref hi) fun xs q => by cases q⟩
  | _ => cases h
theorem isSome_ex {α : Type} {o : Option α} (h : o.isSome = true) : ∃ x, o = some x := Option.isSome_iff_exists.mp h
theorem pi_src {m tg : ME} (fr : Free X) (ht : isPair m = false ∨ isTupM tg = true) (hr : reg m = true) (hz : ∀ a b p1 p, m = .zip a b p1 p → Gl X "zip" ∧ reg a = true ∧ reg b = true ∧ SE G P X T W n a ∧ SE G P X T W n b)
    (he : ∀ a p1 p, m = .enm a p1 p → Gl X "enumerate" ∧ reg a = true ∧ SE G P X T W n a) (hg : ∀ as p1 p, m = .rng as p1 p → Gl X "range" ∧ regs as = true ∧ ∀ a ∈ as, SE G P X T W n a) (hm : isPair m = false → (∀ as p1 p, m ≠ .rng as p1 p) → SE G P X T W n m) :
    PI X (un tg) (un m) (tSrc G P X T W n m) := by
  have two : ∀ {es : List ME} {k : Nat} {p : Pos}, tg = .tup es k p → un tg = .Tuple (unL es) k p := fun h => by rw [h]; rfl
  have live : isPair m = false → (∀ as p1 p, m ≠ .rng as p1 p) → (∀ env s, srcOf (ev P n) env m s = ((ev P n).e env m s).bind fun x s => if (seqV s x).isSome then .ok (.live x) s else .bad) → PI X (un tg) (un m) (tSrc G P X T W n m) := fun h1 h2 h3 => by
    refine PI.imp (pi_live (hm h1 h2)) fun σ H Rc ⟨R, env, s, S, k⟩ => ?_
    rw [h3] at k
    refine tE.mono (tE_seq S k) fun x H1 ⟨R1, s1, v, e1, S1, r1, k1⟩ => ?_
    split at k1
    · rename_i q
      obtain ⟨xs, hx⟩ := isSome_ex q
      obtain ⟨kk, rfl, kr⟩ := kr_of r1 hx
      obtain ⟨us, h4, h5⟩ := kr.now (K := X.K) S1.lies hx
      exact ⟨kk, us, rfl, h4, Aft.fin (rel := fun R1 src J => SrcI G X.K R1 src J) k1 S1 (.live kr)⟩
    · exact k1.elim
  cases m with
  | zip a b p1 p =>
    obtain ⟨g1, ra, rb, sa, sb⟩ := hz _ _ _ _ rfl
    rcases ht with ht | ht
    · cases ht
    cases tg <;> (try cases ht)
    rename_i es kk tp
    have pa : PA X [un a, un b] (tA G P X T W n [a, b]) := sa_list (ms := [a, b]) (by show (reg a && (reg b && true)) = true; rw [ra, rb]; rfl) fun m' hm' => by
      rcases List.mem_cons.mp hm' with rfl | h
      · exact sa
      · rw [List.mem_singleton.mp h]; exact sb
    refine PI.imp (pi_zipG (X := X) g1 (fr _ (by simp)) pa (star_reg ra _ _) ?_) fun σ H Rc ⟨R, env, s, S, k⟩ => ?_
    · exact any_reg (ms := [b]) (by show (reg b && true) = true; rw [rb]; rfl) _ _
    · refine tA.mono (tA_seq S (show Aft G X T W R env σ H (fun R1 src J => SrcI G X.K R1 src J) Rc ((listE ((ev P n).e env) [a, b] s).bind fun xs s => match xs with
        | [x, y] => if (seqV s x).isSome && (seqV s y).isSome then Res.ok (Src.zip x y) s else Res.bad
        | _ => Res.bad) from k)) fun us H1 ⟨R1, s1, vs, e1, S1, r1, k1⟩ => ?_
      split at k1
      · rename_i x y
        obtain ⟨ux, uy, rfl, rx, ry⟩ := r1.two
        split at k1
        · rename_i q
          obtain ⟨q1, q2⟩ := Bool.and_eq_true_iff.mp q
          obtain ⟨xs, hx⟩ := isSome_ex q1
          obtain ⟨ys, hy⟩ := isSome_ex q2
          obtain ⟨k1', rfl, kr1⟩ := kr_of rx hx
          obtain ⟨k2', rfl, kr2⟩ := kr_of ry hy
          obtain ⟨u1, z1, _⟩ := kr1.now (K := X.K) S1.lies hx
          obtain ⟨u2, z2, _⟩ := kr2.now (K := X.K) S1.lies hy
          exact ⟨k1', k2', u1, u2, rfl, z1, z2, Aft.fin (rel := fun R1 src J => SrcI G X.K R1 src J) k1 S1 (.zip kr1 kr2)⟩
        · exact k1.elim
      · exact k1.elim
  | enm a p1 p =>
    obtain ⟨g1, ra, sa⟩ := he _ _ _ rfl
    rcases ht with ht | ht
    · cases ht
    cases tg <;> (try cases ht)
    rename_i es kk tp
    have pa : PA X [un a] (tA G P X T W n [a]) := sa_list (ms := [a]) (by show (reg a && true) = true; rw [ra]; rfl) fun m' hm' => by
      rw [List.mem_singleton.mp hm']; exact sa
    refine PI.imp (pi_enum (X := X) g1 (fr _ (by simp)) pa (star_reg ra _ _)) fun σ H Rc ⟨R, env, s, S, k⟩ => ?_
    refine tA.mono (tA_seq S (show Aft G X T W R env σ H (fun R1 src J => SrcI G X.K R1 src J) Rc ((listE ((ev P n).e env) [a] s).bind fun xs s => match xs with
        | [x] => if (viewL s x).isSome then Res.ok (Src.enm x) s else Res.bad
        | _ => Res.bad) from k)) fun us H1 ⟨R1, s1, vs, e1, S1, r1, k1⟩ => ?_
    split at k1
    · rename_i x
      obtain ⟨ux, rfl, rx⟩ := r1.one
      split at k1
      · rename_i q
        obtain ⟨xs, hx⟩ := isSome_ex q
        obtain ⟨b, ys, rfl, hb, rs⟩ := viewL_rel S1.lies rx hx
        refine ⟨b, ys, rfl, SqL.of hb, Aft.fin (rel := fun R1 src J => SrcI G X.K R1 src J) k1 S1 (.enm rx fun zs z => ?_)⟩
        subst z
        cases hx
      · exact k1.elim
    · exact k1.elim
  | rng as p1 p =>
    obtain ⟨g1, ra, sa⟩ := hg _ _ _ rfl
    match as, ra, sa with
    | [a], ra, sa =>
      have r1 := (Bool.and_eq_true_iff.mp (show (reg a && true) = true from ra)).1
      refine PI.imp (pi_range1 (X := X) g1 (fr _ (by simp)) (pa_cons (sa a List.mem_cons_self) pa_nil (star_reg r1 _ _)) (star_reg r1 _ _)) fun σ H Rc ⟨R, env, s, S, k⟩ => ?_
      have k : Aft G X T W R env σ H (fun R1 src J => SrcI G X.K R1 src J) Rc (((ev P n).e env a s).bind fun x s => match x with
        | .int n => if -16777216 < n ∧ n < 16777216 then Res.ok (Src.rng 0 n.toNat) s else Res.bad
        | _ => Res.bad) := k
      refine tE.mono (tE_seq S k) fun u H1 ⟨R1, s1, v, e1, S1, r1, k1⟩ => ?_
      cases r1 <;> (try exact k1.elim)
      dsimp only at k1
      split at k1
      · rename_i q
        exact ⟨_, rfl, by omega, by omega, Aft.fin (rel := fun R1 src J => SrcI G X.K R1 src J) k1 S1 (.rng 0 _)⟩
      · exact k1.elim
    | [a, b], ra, sa =>
      have ra' := Bool.and_eq_true_iff.mp (show (reg a && (reg b && true)) = true from ra)
      have rb' := (Bool.and_eq_true_iff.mp ra'.2).1
      refine PI.imp (pi_range2 (X := X) g1 (fr _ (by simp)) (pa_cons (sa a List.mem_cons_self) (pa_cons (sa b (List.mem_cons_of_mem _ List.mem_cons_self)) pa_nil (star_reg rb' _ _)) (star_reg ra'.1 _ _)) (by rw [star_reg ra'.1, star_reg rb']; rfl) (star_reg rb' _ _)) fun σ H Rc ⟨R, env, s, S, k⟩ => ?_
      have k : Aft G X T W R env σ H (fun R1 src J => SrcI G X.K R1 src J) Rc (((ev P n).e env a s).bind fun x s => ((ev P n).e env b s).bind fun y s => match x, y with
        | .int i, .int j => if -16777216 < i ∧ i < 16777216 ∧ -16777216 < j ∧ j < 16777216 then Res.ok (Src.rng i (j - i).toNat) s else Res.bad
        | _, _ => Res.bad) := k
      refine tE.mono (tE_seq S k) fun u H1 ⟨R1, s1, v, e1, S1, r1, k1⟩ => ?_
      refine tE.mono (tE_seq S1 k1) fun u2 H2 ⟨R2, s2, v2, e2, S2, r2, k2⟩ => ?_
      cases r1 <;> cases r2 <;> (try exact k2.elim)
      dsimp only at k2
      split at k2
      · rename_i q
        exact ⟨_, _, rfl, ⟨by omega, by omega, by omega, by omega⟩, Aft.fin (rel := fun R1 src J => SrcI G X.K R1 src J) k2 S2 (.rng _ _)⟩
      · exact k2.elim
    | [], _, _ => exact ⟨fun pins sh σ H Rc I ⟨R, env, s, S, k⟩ => k.elim⟩
    | _ :: _ :: _ :: _, _, _ => exact ⟨fun pins sh σ H Rc I ⟨R, env, s, S, k⟩ => k.elim⟩
  | _ => exact live rfl (fun _ _ _ q => by cases q) fun _ _ => rfl
end
end Dz

set_option maxRecDepth 100000
set_option maxHeartbeats 4000000
/-! Part V: a comprehension's block, its readings told of the very block. -/
namespace Dz
open PySem L2
/-- the block's context -/
abbrev blkX (X : Cx) (z : Shared) (Y : Hp) (scope : Scope) (fp : List Addr) : Cx :=
  X.blk z Y scope (compEnvC scope (cellsFrom (z.heap.objs.size + 1) scope.names (cloFrom X.env.cells scope.names [])) z.heap.objs.size X.env) fp
/-- what a block must do, told where it starts -/
def BlkDoes (X : Cx) (pins : List (Addr × Obj)) (τ : St) (scope : Scope) (own : List (Str × Nat)) (elt tg : Expr) (ifs : List Expr) (It : It) (Y1 : Hp) (Q : VK) : Prop :=
  ∀ (D : Addr) (z : Shared) (fp : List Addr), Y1 D = none → Inv X pins τ (upd Y1 D (.lst [])) z → (∀ b ∈ fp, FpOk X pins (upd Y1 D (.lst [])) b ∧ b < z.heap.objs.size) →
    ∃ (g : TG) (tt : TT) (te : TE), PG (blkX X z (upd Y1 D (.lst [])) scope fp) tg g ∧ PTs (blkX X z (upd Y1 D (.lst [])) scope fp) ifs tt ∧ PE (blkX X z (upd Y1 D (.lst [])) scope fp) elt te ∧
      ∃ W : Nat → Nat → Hp → Prop, (∃ m, W 0 m (upd Y1 D (.lst []))) ∧ ∀ i m Y, W i m Y →
        (It.stop i Y ∧ Q (.ref D) Y) ∨ (It.go i Y ∧ ∃ Nx : Hp → Prop, (∀ Y', Nx Y' → ∃ m', m' < m ∧ W (i + 1) m' Y') ∧ ∀ x Y', It.yld i Y x Y' → g x (wipe τ (own.map (·.2))) Y' fun τ2 Y2 => wipe τ2 (own.map (·.2)) = wipe τ (own.map (·.2)) ∧ tt τ2 Y2 fun b Y3 =>
          if b = true then te τ2 Y3 fun y Y4 => ∃ acc, Y4 D = some (.lst acc) ∧ acc.length < sizeLine ∧ Nx (upd Y4 D (.lst (acc ++ [y]))) else Nx Y3)
section
variable {X : Cx}
theorem lc_blk {pins : List (Addr × Obj)} {sh : Shared} {τ : St} {Y : Hp} {Q : VK} {elt tg iter : Expr} {ifs : List Expr} {scope : Scope} {own : List (Str × Nat)} {pos pos' : Pos} {wi : TI} {use : Option (Value → Sem Unit)} {Qf : Value → Shared → Prop}
    (hc : X.calm = true) (hN : X.N.Nodup) (J : Inv X pins τ Y sh) (hi : PI X tg iter wi) (ok : BlkOk X.N X.env.scope scope own) (hs : ∀ x, foldedSetIterable iter X.env x = pure x)
    (h : wi τ Y fun It Y1 => BlkDoes X pins τ scope own elt tg ifs It Y1 Q)
    (hend : ∀ D C z m Y', Inv X pins τ Y' z → Q (.ref D) Y' → z.heap.Ns C m → FpOk X pins Y' C → compPost (model X.prog X.w) X.A X.xe use Qf (.ref D) C (.ok .next) z) :
    wpAny (model X.prog X.w) X.A (comprehension (.ListComp elt [⟨tg, iter, ifs, 0⟩] scope pos) scope X.env pos' (newList []) false (eval iter X.env) use) Qf X.xe sh := by
  have caught : ∀ y ∈ scope.names, y.2 = .free → ∃ c, X.env.cells.lookup y.1 = some c := fun y hy e => (ok.free y hy e).elim (fun k => J.ok.has _ (.inl k)) fun k => J.ok.has _ (.inr k)
  refine wpAny_comprehension_free (use := use) rfl hs (closure_ok caught) ok.kind (fun y hy e => by rw [ok.uniq y hy, e]) (thn (hi.run pins sh τ Y _ J h) fun xv z1 hx => thn hx fun itv z2 hit => ?_)
  obtain ⟨it, fp, tn, K, Y2, rfl, J2, Tn, st2, fok2, does⟩ := hit
  refine wpAny_newObj_type (newEnv_comp ?_) (by show 0 ≤ sizeLine; decide)
  generalize eD : z2.heap.objs.size = D
  have noD : Y2 D = none := J2.hok.fresh (Nat.le_of_eq eD)
  generalize ez3 : ({ z2 with heap := z2.heap.push { cls := .type "list", data := .seq ([] : List Value).toArray } } : Shared) = z3
  have J3 : Inv X pins τ (upd Y2 D (.lst [])) z3 := by
    rw [← ez3]
    refine J2.laid (t' := z2.toks) (fun b o e => Heap.get?_push_of_some _ e) (Nat.le_of_eq eD) ⟨Nat.zero_le _, [], 0, .nil, ?_⟩
    rw [← eD]; exact Heap.get?_push_size _ rfl
  have eh3 : z3.heap = z2.heap.push { cls := .type "list", data := .seq ([] : List Value).toArray } := by rw [← ez3]
  have below : ∀ b ∈ fp, b < z2.heap.objs.size := fun b hb => by
    obtain ⟨o, e, _⟩ := Tn.obj _ _ st2 b hb
    exact Heap.lt_size e
  have fok3 : ∀ b ∈ fp, FpOk X pins (upd Y2 D (.lst [])) b ∧ b < z3.heap.objs.size := fun b hb => by
    have lt := below b hb
    refine ⟨⟨?_, (fok2 b hb).2⟩, by rw [eh3, Heap.size_push]; exact Nat.lt_succ_of_lt lt⟩
    rw [upd_ne (by rw [← eD]; exact Nat.ne_of_lt lt)]; exact (fok2 b hb).1
  have st3 : tn 0 z3.heap := Tn.keep _ _ _ st2 fun b _ o e => by rw [eh3]; exact Heap.get?_push_of_some _ e
  obtain ⟨g, tt, te, pg, pt, pe, W, ⟨m0, w0⟩, turn⟩ := does D z3 fp noD J3 fok3
  unfold blkX at pg pt pe
  have J4 := block_start J3 ok hN fok3
  show codeAny _ _ (.compStart (.ListComp elt [⟨tg, iter, ifs, 0⟩] scope pos) 0 (.ref it) (.ref D) (compEnvC scope (cellsFrom (z3.heap.objs.size + 1) scope.names (cloFrom X.env.cells scope.names [])) z3.heap.objs.size X.env)) (compPost (model X.prog X.w) X.A X.xe use Qf (.ref D) z3.heap.objs.size) { z3 with heap := pushCells (z3.heap.push { cls := .type "dict", data := .dict #[] }) scope.names }
  have nofp : ∀ b ∈ fp, (upd Y2 D (.lst [])) b = none := fun b hb => (fok3 b hb).1.1
  generalize ece : compEnvC scope (cellsFrom (z3.heap.objs.size + 1) scope.names (cloFrom X.env.cells scope.names [])) z3.heap.objs.size X.env = ce at J4 pg pt pe ⊢
  have eL : ce.locals = z3.heap.objs.size := by subst ece; rfl
  generalize eY3 : upd Y2 D (.lst []) = Y3 at J3 J4 pg pt pe w0 nofp fok3
  generalize ez4 : ({ z3 with heap := pushCells (z3.heap.push { cls := .type "dict", data := .dict #[] }) scope.names } : Shared) = z4 at J4 ⊢
  have st4 : tn 0 z4.heap := Tn.keep _ _ _ st3 fun b _ o e => by rw [← ez4]; exact pushCells_keeps _ _ _ _ (Heap.get?_push_of_some _ e)
  have stays : ∀ {τ' : St} {Y' : Hp} {z : Shared}, Inv (X.blk z3 Y3 scope ce fp) [] τ' Y' z → (∀ b ∈ fp, Y' b = none) → ∀ b ∈ fp, FpOk (X.blk z3 Y3 scope ce fp) [] Y' b := fun {τ' Y' z} JJ hn b hb =>
    ⟨hn b hb, (JJ.ok.exf b hb).1, JJ.ok.exfs b hb, .inl hb, fun x c e => (JJ.ok.exf b hb).2 x c e, fun p hp => absurd (show p ∈ ([] : List (Addr × Obj)) ++ [] from hp) (by simp)⟩
  have loop : codeAny (model X.prog X.w) X.A (.compLoop (.ListComp elt [⟨tg, iter, ifs, 0⟩] scope pos) 0 (.ref it) (.ref D) ce) (compPost (model X.prog X.w) X.A X.xe use Qf (.ref D) z3.heap.objs.size) z4 := by
    refine compLoop_any (fun n z => ∃ i Y', Inv (X.blk z3 Y3 scope ce fp) [] (wipe τ (own.map (·.2))) Y' z ∧ tn i z.heap ∧ (∀ b ∈ fp, Y' b = none) ∧ W i n Y') ?_ m0 ⟨0, Y3, J4, st4, nofp, w0⟩
    rintro n z5 ⟨i, Y5, J5, st5, n5, w5⟩
    rcases turn i n Y5 w5 with ⟨stop, done⟩ | ⟨go, Nx, hNx, step⟩
    · refine thnF (Tn.done (X.blk z3 Y3 scope ce fp) rfl rfl rfl hc i [] z5 _ Y5 (fun _ _ => False) J5 (stays J5 n5) st5 stop) fun r z6 ⟨hr, J6⟩ => ?_
      subst hr
      have J7 : Inv X pins τ Y5 z6 := J3.call' (ch := fp) J6.os J6.base J6.hok J6.bare fun b hb => ⟨(fok3 b hb).1.2.2.2.1, (fok3 b hb).1.2.1, (fok3 b hb).1.2.2.2.2.1, (fok3 b hb).1.2.2.2.2.2⟩
      have noC : Y5 z3.heap.objs.size = none := by
        have q : Y5 ce.locals = none := J6.free
        rw [eL] at q; exact q
      obtain ⟨m, hn, _⟩ := J6.loc
      have hn : z6.heap.Ns ce.locals m := hn
      rw [eL] at hn
      exact hend D z3.heap.objs.size z6 m Y5 J7 done hn (J3.fpOk (Nat.le_refl _) noC)
    · refine thnF (Tn.item (X.blk z3 Y3 scope ce fp) rfl rfl rfl hc i [] z5 _ Y5 (fun _ _ => False) J5 (stays J5 n5) st5 go) fun r z6 ⟨u, hr, h6⟩ => ?_
      subst hr
      refine thnF h6 fun _ z7 ⟨x, Y7, J7, r7, y7, st7, n7⟩ => ?_
      have J7' := J7.pinned (stays J7 n7) (Tn.obj _ _ st7)
      refine thnF (pg.run _ z7 _ Y7 x u _ J7' r7 (step x Y7 y7)) fun _ z8 ⟨τ8, Y8, J8, hw8, q8⟩ => ?_
      refine thnF (pt.run _ z8 τ8 Y8 _ J8 q8) fun b z9 ⟨Y9, J9, q9⟩ => ?_
      have fin : ∀ {z : Shared} {Y' : Hp}, Inv (X.blk z3 Y3 scope ce fp) ([] ++ pinsAt fp z7.heap) τ8 Y' z → Nx Y' → ∃ m, m < n ∧ ∃ i Y', Inv (X.blk z3 Y3 scope ce fp) [] (wipe τ (own.map (·.2))) Y' z ∧ tn i z.heap ∧ (∀ b ∈ fp, Y' b = none) ∧ W i m Y' := fun {z Y'} JJ nx => by
        obtain ⟨m', hm, w'⟩ := hNx Y' nx
        have pinned : ∀ b ∈ fp, ∀ o, z7.heap.get? b = some o → z.heap.get? b = some o ∧ Y' b = none := fun b hb o e =>
          let q := JJ.pin (b, o) (List.mem_append_right _ (List.mem_append_right _ (mem_pinsAt hb e)))
          ⟨q.1, q.2.1⟩
        refine ⟨m', hm, i + 1, Y', (JJ.unpinned (pins := [])).weak (by rw [← hw8, wipe_length]) (fun j v e => ?_), Tn.keep _ _ _ st7 fun b hb o e => (pinned b hb o e).1, fun b hb => ?_, w'⟩
        · rw [← hw8] at e
          exact (wipe_some e).1
        · obtain ⟨o, e, _⟩ := Tn.obj _ _ st7 b hb
          exact (pinned b hb o e).2
      cases b with
      | false =>
        simp only [Bool.false_eq_true, if_false] at q9 ⊢
        exact fin J9 q9
      | true =>
        simp only [if_true] at q9 ⊢
        refine thnF (pe.run _ z9 τ8 Y9 _ J9 q9) fun w z10 ⟨yv, Y10, J10, r10, acc, hD10, hz10, nx⟩ => ?_
        exact app_ok (X := X.blk z3 Y3 scope ce fp) J10 hD10 hz10 r10 fun z11 J11 => fin J11 nx
  exact codeAny_compStart_list loop (Tn.self X.A 0 _ _ _ st4 loop)
def tBlk (X : Cx) (scope : Scope) (own : List (Str × Nat)) (elt tg : Expr) (ifs : List Expr) (wi : TI) : TE := fun τ Y Q => wi τ Y fun It Y1 => ∀ pins, BlkDoes X pins τ scope own elt tg ifs It Y1 Q
theorem PI.mono {tg e : Expr} {wi : TI} (h : PI X tg e wi) : PI X tg e wi := h
theorem pe_blk {elt tg iter : Expr} {ifs : List Expr} {scope : Scope} {own : List (Str × Nat)} {pos : Pos} {wi : TI} (hc : X.calm = true) (hN : X.N.Nodup) (hi : PI X tg iter wi) (ok : BlkOk X.N X.env.scope scope own) (hs : ∀ x, foldedSetIterable iter X.env x = pure x)
    (hm : ∀ τ Y (R1 R2 : It → Hp → Prop), (∀ I H, R1 I H → R2 I H) → wi τ Y R1 → wi τ Y R2) : PE X (.ListComp elt [⟨tg, iter, ifs, 0⟩] scope pos) (tBlk X scope own elt tg ifs wi) := by
  refine ⟨fun pins sh τ Y Q J h => ?_⟩
  rw [eval_ListComp]
  refine lc_blk hc hN J hi ok hs (hm _ _ _ _ (fun I H q => q pins) h) fun D C z m Y' J' q hn f => ⟨m, hn, fun h'' sb => ?_⟩
  obtain ⟨f0, f1, f2, f3, f4, f5⟩ := f
  exact ⟨.ref D, Y', J'.turned (t' := z.toks) (fun b o hb e => (sb.2 b hb).trans e) f0 f1 f3 f4 f5, rfl, q⟩
theorem ps_setBlk {i : Nat} {y : Str} {py : Pos} {elt tg iter : Expr} {ifs : List Expr} {scope : Scope} {own : List (Str × Nat)} {pos spos : Pos} {wi : TI} (hc : X.calm = true) (hN : X.N.Nodup) (hy : X.N[i]? = some y) (hyl : X.env.scope.names.lookup y = some .local)
    (hsw : swapsWith (.ListComp elt [⟨tg, iter, ifs, 0⟩] scope pos) (some (.Name y py)) spos.line X.env = pure true) (hi : PI X tg iter wi) (ok : BlkOk X.N X.env.scope scope own) (hs : ∀ x, foldedSetIterable iter X.env x = pure x)
    (hm : ∀ τ Y (R1 R2 : It → Hp → Prop), (∀ I H, R1 I H → R2 I H) → wi τ Y R1 → wi τ Y R2) : PS X (.Assign [.Name y py] (.ListComp elt [⟨tg, iter, ifs, 0⟩] scope pos) spos) (tAsg (tBlk X scope own elt tg ifs wi) (gName i)) := by
  refine ⟨fun pins sh τ Y D J h => ?_⟩
  rw [exec_Assign_Name_used _ _ _ _ hsw]
  refine wpAny_bind (wpAny_standAt (wpAny_bind ?_))
  show wpAny _ X.A (do let _ ← comprehension (.ListComp elt [⟨tg, iter, ifs, 0⟩] scope pos) scope X.env (firstIterPos [⟨tg, iter, ifs, 0⟩] pos) (newList []) false (eval iter X.env) (some (assign (.Name y py) X.env))) _ _ sh
  have h : tBlk X scope own elt tg ifs wi τ Y (fun x Y1 => gName i x τ Y1 D.nx) := h
  refine wpAny_bind (thn (lc_blk (Qf := fun _ z => SP X pins D .next z) hc hN J hi ok hs (hm _ _ _ _ (fun I H q => q pins) h) fun L C z m Y' J' q hn f => ?_) fun _ z hq => wpAny_pure (wpAny_pure hq))
  show wpAny _ _ (assign (.Name y py) X.env (.ref L)) _ _ _
  refine wpAny_assign_Name (store_ok2 (v := V.ref L) J' hN hy (.inl hyl) rfl (fun z2 J2 ⟨a, sb, ha⟩ => ?_) (.inr hyl))
  obtain ⟨f0, f1, f2, f3, f4, f5⟩ := f
  have apart : C ≠ a := by
    rcases ha with q | q
    · rw [q]; exact f1
    · exact fun e => f4 y a q e.symm
  refine ⟨m, hn.sameBut sb apart, fun h3 sb3 => ?_⟩
  exact ⟨_, Y', J2.turned (t' := z2.toks) (fun b o hb e => (sb3.2 b hb).trans e) f0 f1 f3 f4 f5, q⟩
end
end Dz

set_option maxRecDepth 100000
set_option maxHeartbeats 4000000
/-! Part W: targets. -/
namespace Dz
open PySem L2
section
variable {G : GI} {P : Prg} {X : Cx} {T : List (Addr × Str)} {W : WX} {R R1 : RE} {env env1 : MEnv} {s s1 : MSt} {σ : St} {H H1 : Hp} {n : Nat}
/-- what a store changes -/
structure Stored (env env1 : MEnv) (slots : List Nat) : Prop where
  cel : env1.cel = env.cel
  len : env1.loc.length = env.loc.length
  off : ∀ j, j ∉ slots → env1.loc[j]? = env.loc[j]?
theorem Stored.refl (env : MEnv) (slots : List Nat) : Stored env env slots := ⟨rfl, rfl, fun _ _ => rfl⟩
theorem Stored.trans {env2 : MEnv} {a b : List Nat} (h : Stored env env1 a) (q : Stored env1 env2 b) : Stored env env2 (a ++ b) :=
  ⟨q.cel.trans h.cel, q.len.trans h.len, fun j hj => (q.off j fun z => hj (List.mem_append_right _ z)).trans (h.off j fun z => hj (List.mem_append_left _ z))⟩
theorem setV_stored {i : Nat} {v : MV} (h : setV env i v s = some (env1, s1)) : Stored env env1 [i] := by
  unfold setV at h
  split at h
  · cases h; exact Stored.refl _ _
  · cases h
    refine ⟨rfl, List.length_set .., fun j hj => ?_⟩
    exact List.getElem?_set_ne fun q => hj (by rw [q]; exact List.mem_singleton.mpr rfl)
mutual
theorem asgV_stored : ∀ (tg : ME) {v : MV} {env env1 : MEnv} {s s1 : MSt}, asgV tg v env s = some (env1, s1) → Stored env env1 (tgSlots tg)
  | .var i _ _, v, env, env1, s, s1, h => setV_stored h
  | .tup es _ _, v, env, env1, s, s1, h => by
    unfold asgV at h
    split at h
    · exact asgVs_stored es h
    · cases h
  | .cst .., _, _, _, _, _, h | .gfn .., _, _, _, _, _, h | .gct .., _, _, _, _, _, h | .bin .., _, _, _, _, _, h | .neg .., _, _, _, _, _, h | .notE .., _, _, _, _, _, h | .andE .., _, _, _, _, _, h | .orE .., _, _, _, _, _, h
  | .cmp .., _, _, _, _, _, h | .chn .., _, _, _, _, _, h | .isN .., _, _, _, _, _, h | .tyS .., _, _, _, _, _, h | .isi .., _, _, _, _, _, h | .ife .., _, _, _, _, _, h | .lst .., _, _, _, _, _, h | .star .., _, _, _, _, _, h
  | .dic .., _, _, _, _, _, h | .sub .., _, _, _, _, _, h | .slc .., _, _, _, _, _, h | .call .., _, _, _, _, _, h | .callk .., _, _, _, _, _, h | .blt .., _, _, _, _, _, h | .mth .., _, _, _, _, _, h | .cal .., _, _, _, _, _, h
  | .lam .., _, _, _, _, _, h | .lcm .., _, _, _, _, _, h | .allC .., _, _, _, _, _, h | .itm .., _, _, _, _, _, h | .zip .., _, _, _, _, _, h | .enm .., _, _, _, _, _, h | .rng .., _, _, _, _, _, h | .xfl .., _, _, _, _, _, h | .nev .., _, _, _, _, _, h => by cases h
theorem asgVs_stored : ∀ (tgs : List ME) {vs : List MV} {env env1 : MEnv} {s s1 : MSt}, asgVs tgs vs env s = some (env1, s1) → Stored env env1 (tgSlots.go tgs)
  | [], vs, env, env1, s, s1, h => by
    cases vs with
    | nil => cases h; exact Stored.refl _ _
    | cons _ _ => cases h
  | e :: r, vs, env, env1, s, s1, h => by
    cases vs with
    | nil => cases h
    | cons x q =>
      unfold asgVs at h
      split at h
      · rename_i env2 s2 h2
        exact (asgV_stored e h2).trans (asgVs_stored r h)
      · cases h
end
theorem getV_cel {i id : Nat} (h : env.cel[i]? = some (some id)) : getV env i s = (s.cells[id]?).join := by unfold getV; rw [h]
theorem getV_loc {i : Nat} (h : ∀ id, env.cel[i]? ≠ some (some id)) : getV env i s = (env.loc[i]?).join := by
  unfold getV
  split
  · rename_i id e; exact absurd e (h id)
  · rfl
/-- a slot takes a value -/
theorem Sim.set {i : Nat} {v : MV} {u : V} (S : Sim G X T R env s σ H) (h : setV env i v s = some (env1, s1)) (r : RelM G R v u) (hi : i < σ.length) : Sim G X T R env1 s1 (σ.set i (some u)) H := by
  unfold setV at h
  split at h
  · rename_i id hid
    cases h
    have hm : id < s.cells.length := by rw [S.lies.nc]; exact (S.cel i id hid).1
    refine ⟨⟨S.lies.nr, by show (s.cells.set id _).length = _; rw [List.length_set]; exact S.lies.nc, S.lies.fz, S.lies.rf, S.lies.inj⟩, fun j w e => ?_, by rw [List.length_set]; exact S.len, by rw [List.length_set]; exact S.nlen, S.cel, S.cinj, S.cfr, fun k hk => ?_, S.tab⟩
    · by_cases q : j = i
      · subst q
        rw [getV_cel hid] at e
        have e : ((s.cells.set id (some v))[id]?).join = some w := e
        rw [List.getElem?_set_self hm] at e
        cases e
        exact ⟨u, List.getElem?_set_self hi, r⟩
      · have e2 : getV env j s = some w := by
          by_cases hc : ∃ id2, env.cel[j]? = some (some id2)
          · obtain ⟨id2, h2⟩ := hc
            have ne : id ≠ id2 := fun z => q (S.cinj j i id2 h2 (by rw [← z]; exact hid))
            rw [getV_cel h2] at e ⊢
            have e : ((s.cells.set id (some v))[id2]?).join = some w := e
            rw [List.getElem?_set_ne ne] at e
            exact e
          · rw [getV_loc fun id z => hc ⟨id, z⟩] at e ⊢
            exact e
        obtain ⟨u', h1, h2⟩ := S.loc j w e2
        exact ⟨u', by rw [List.getElem?_set_ne (Ne.symm q)]; exact h1, h2⟩
    · rcases S.out k hk with z | z
      · exact .inl z
      · by_cases q : k = id
        · subst q; exact .inl ⟨i, hid⟩
        · refine .inr ?_
          show OutC G X R k (((s.cells.set id (some v))[k]?).join)
          rw [List.getElem?_set_ne (Ne.symm q)]
          exact z
  · rename_i hnid
    cases h
    refine ⟨S.lies, fun j w e => ?_, by show _ = (env.loc.set i _).length; rw [List.length_set, List.length_set]; exact S.len, by rw [List.length_set]; exact S.nlen, S.cel, S.cinj, S.cfr, S.out, S.tab⟩
    by_cases q : j = i
    · subst q
      rw [getV_loc (env := { env with loc := env.loc.set j (some v) }) fun id z => hnid id z] at e
      have e : ((env.loc.set j (some v))[j]?).join = some w := e
      rw [List.getElem?_set_self (by rw [← S.len]; exact hi)] at e
      cases e
      exact ⟨u, List.getElem?_set_self hi, r⟩
    · have e2 : getV env j s = some w := by
        by_cases hc : ∃ id2, env.cel[j]? = some (some id2)
        · obtain ⟨id2, h2⟩ := hc
          rw [getV_cel (env := { env with loc := env.loc.set i (some v) }) h2] at e
          rw [getV_cel h2]
          exact e
        · rw [getV_loc (env := { env with loc := env.loc.set i (some v) }) fun id z => hc ⟨id, z⟩] at e
          rw [getV_loc fun id z => hc ⟨id, z⟩]
          have e : ((env.loc.set i (some v))[j]?).join = some w := e
          rw [List.getElem?_set_ne (Ne.symm q)] at e
          exact e
      obtain ⟨u', h1, h2⟩ := S.loc j w e2
      exact ⟨u', by rw [List.getElem?_set_ne (Ne.symm q)]; exact h1, h2⟩
/-- the reading of a target -/
def tGt (G : GI) (X : Cx) (T : List (Addr × Str)) (tg : ME) : TG := fun v σ H Q => ∃ R env s x, Sim G X T R env s σ H ∧ RelM G R x v ∧ match asgV tg x env s with
  | none => False
  | some es => ∀ σ', Sim G X T R es.1 es.2 σ' H → σ'.length = σ.length → (∀ j, j ∉ tgSlots tg → σ'[j]? = σ[j]?) → Q σ' H
def tGs (G : GI) (X : Cx) (T : List (Addr × Str)) (tgs : List ME) : TGs := fun vs σ H Q => ∃ R env s xs, Sim G X T R env s σ H ∧ RelMs G R xs vs ∧ match asgVs tgs xs env s with
  | none => False
  | some es => ∀ σ', Sim G X T R es.1 es.2 σ' H → σ'.length = σ.length → (∀ j, j ∉ tgSlots.go tgs → σ'[j]? = σ[j]?) → Q σ' H
variable {prog0 : Program} {w0 : World} {K0 : PySem.W.Frag} {mg0 : Str → Option Value} {base0 : Heap} {Γ : WEnv} {k : Nat}
theorem loc_of {sc : Scope} {x : Str} (h : locB sc x = true) : Loc sc x := by
  unfold locB at h
  split at h
  · rename_i e; exact .inl e
  · rename_i e; exact .inr e
  · cases h
theorem vis_of {sc : Scope} {x : Str} (h : visB sc x = true) : Vis sc x := by
  unfold visB at h
  split at h
  · rename_i e; exact .inl e
  · rename_i e; exact .inr (.inl e)
  · rename_i e; exact .inr (.inr e)
  · cases h
theorem isK_of {sc : Scope} {x : Str} {k : NameKind} (h : isK sc x k = true) : sc.names.lookup x = some k := eq_of_beq h
theorem gl_of {x : Str} (C : Ctx prog0 w0 K0 mg0 base0 T Γ k X) (h : glB Γ.sc x = true) : Gl X x ∧ (x == ("__debug__" : Str)) = false := by
  obtain ⟨h1, h2⟩ := Bool.and_eq_true_iff.mp h
  refine ⟨?_, by simpa using h2⟩
  have := isK_of h1
  rw [← C.sc] at this
  exact this
theorem assign_each {m : ME} (h : wfG Γ m = true) (r : List Expr) (env : Env) : assignEach (un m :: r) env = (false, assign (un m) env) :: assignEach r env := by
  cases m <;> first | (cases h; done) | rfl
mutual
theorem pg_tg (C : Ctx prog0 w0 K0 mg0 base0 T Γ k X) : ∀ (m : ME), wfG Γ m = true → PG X (un m) (tGt G X T m)
  | .var i x p, h => by
    unfold wfG at h
    simp only [Bool.and_eq_true, Bool.or_eq_true] at h
    obtain ⟨⟨h1, h2⟩, h3⟩ := h
    have hN : X.N[i]? = some x := by rw [C.N]; exact eq_of_beq h1
    have hloc : Loc X.env.scope x := by rw [C.sc]; exact loc_of h2
    have hf : X.fn x = true ∨ X.env.scope.names.lookup x = some .local := by
      rcases h3 with z | z
      · exact .inl (C.own x z)
      · exact .inr (by rw [C.sc]; exact isK_of z)
    refine ⟨fun pins sh σ H v u Q I r ⟨R, env, s, y, S, ry, q⟩ => ?_⟩
    have hi : i < σ.length := by rw [I.len]; exact (List.getElem?_eq_some_iff.mp hN).1
    have q : (match setV env i y s with
      | none => False
      | some es => ∀ σ', Sim G X T R es.1 es.2 σ' H → σ'.length = σ.length → (∀ j, j ∉ tgSlots (.var i x p) → σ'[j]? = σ[j]?) → Q σ' H) := q
    cases e : setV env i y s with
    | none => rw [e] at q; exact q.elim
    | some es =>
      rw [e] at q
      refine (pg_name (pos := p) (by rw [C.N]; exact C.nd) hN hloc hf).run pins sh σ H v u Q I r ?_
      exact q _ (S.set e ry hi) (List.length_set ..) fun j hj => List.getElem?_set_ne fun z => hj (by rw [← z]; exact List.mem_singleton.mpr rfl)
  | .tup es kk p, h => by
    have h' : wfGs Γ es = true := h
    have hl : ∀ (es : List ME), wfGs Γ es = true → (assignEach (unL es) X.env).length = es.length ∧ (assignEach (unL es) X.env).findIdx? (·.1) = none := fun es => by
      induction es with
      | nil => intro _; exact ⟨rfl, rfl⟩
      | cons e r ih =>
        intro h
        obtain ⟨a, b⟩ := Bool.and_eq_true_iff.mp (show (wfG Γ e && wfGs Γ r) = true from h)
        obtain ⟨i1, i2⟩ := ih b
        have e1 : assignEach (unL (e :: r)) X.env = (false, assign (un e) X.env) :: assignEach (unL r) X.env := assign_each a _ _
        rw [e1]
        refine ⟨by rw [List.length_cons, i1]; rfl, ?_⟩
        rw [List.findIdx?_cons, i2]
        rfl
    obtain ⟨l1, l2⟩ := hl es h'
    refine ⟨fun pins sh σ H v u Q I r ⟨R, env, s, y, S, ry, q⟩ => ?_⟩
    refine (pg_tup (k := kk) (pos := p) (n := es.length) C.calm (pgs_tg C es h') l1 l2).run pins sh σ H v u Q I r ?_
    obtain ⟨xs, rfl⟩ : ∃ xs, y = .tup xs := by
      cases y <;> first
        | exact ⟨_, rfl⟩
        | exact q.elim
    obtain ⟨a, us, rfl, hF, rs⟩ : ∃ a us, v = .ref a ∧ R.F a = some (.tup us) ∧ RelMs G R xs us := by
      cases ry with
      | tup a b => exact ⟨_, _, rfl, a, b⟩
    have q : (match asgVs es xs env s with
      | none => False
      | some e => ∀ σ', Sim G X T R e.1 e.2 σ' H → σ'.length = σ.length → (∀ j, j ∉ tgSlots.go es → σ'[j]? = σ[j]?) → Q σ' H) := q
    have hlen : ∀ (es : List ME) (xs : List MV) env s e, asgVs es xs env s = some e → xs.length = es.length := fun es => by
      induction es with
      | nil => intro xs env s e h; cases xs with
        | nil => rfl
        | cons _ _ => cases h
      | cons m r ih =>
        intro xs env s e h
        cases xs with
        | nil => cases h
        | cons x q =>
          unfold asgVs at h
          split at h
          · rw [List.length_cons, List.length_cons, ih _ _ _ _ h]
          · cases h
    refine ⟨a, us, rfl, SqT.of (S.lies.fz _ _ hF).1, ?_, R, env, s, xs, S, rs, q⟩
    cases e : asgVs es xs env s with
    | none => rw [e] at q; exact q.elim
    | some es' => rw [← rs.length]; exact hlen _ _ _ _ _ e
  | .cst .., h | .gfn .., h | .gct .., h | .bin .., h | .neg .., h | .notE .., h | .andE .., h | .orE .., h | .cmp .., h | .chn .., h | .isN .., h | .tyS .., h | .isi .., h | .ife .., h | .lst .., h | .star .., h
  | .dic .., h | .sub .., h | .slc .., h | .call .., h | .callk .., h | .blt .., h | .mth .., h | .cal .., h | .lam .., h | .lcm .., h | .allC .., h | .itm .., h | .zip .., h | .enm .., h | .rng .., h | .xfl .., h | .nev .., h => by cases h
theorem pgs_tg (C : Ctx prog0 w0 K0 mg0 base0 T Γ k X) : ∀ (ms : List ME), wfGs Γ ms = true → PGs X (unL ms) (tGs G X T ms)
  | [], _ => by
    refine ⟨fun pins sh σ H vs us Q I r ⟨R, env, s, xs, S, rs, q⟩ => pgs_nil.run pins sh σ H vs us Q I r ?_⟩
    cases rs with
    | nil => exact ⟨rfl, q σ S rfl fun _ _ => rfl⟩
    | cons _ _ => exact q.elim
  | m :: ms, h => by
    obtain ⟨a, b⟩ := Bool.and_eq_true_iff.mp (show (wfG Γ m && wfGs Γ ms) = true from h)
    refine ⟨fun pins sh σ H vs us Q I r ⟨R, env, s, xs, S, rs, q⟩ => (pgs_cons (pg_tg C m a) (pgs_tg C ms b) (by rw [assign_each a]; rfl)).run pins sh σ H vs us Q I r ?_⟩
    cases rs with
    | nil => exact q.elim
    | @cons x u xs us r1 r2 =>
      refine ⟨_, _, rfl, R, env, s, x, S, r1, ?_⟩
      unfold asgVs at q
      cases e : asgV m x env s with
      | none => rw [e] at q; exact q.elim
      | some es =>
        obtain ⟨env1, s1⟩ := es
        rw [e] at q
        dsimp only at q ⊢
        intro σ1 S1 l1 o1
        refine ⟨R, env1, s1, xs, S1, r2, ?_⟩
        cases e2 : asgVs ms xs env1 s1 with
        | none => rw [e2] at q; exact q.elim
        | some es2 =>
          rw [e2] at q
          dsimp only at q ⊢
          intro σ2 S2 l2 o2
          exact q σ2 S2 (l2.trans l1) fun j hj => (o2 j fun z => hj (List.mem_append_right _ z)).trans (o1 j fun z => hj (List.mem_append_left _ z))
end
/-! ### what is forgotten -/
theorem wipe_get (σ : St) : ∀ (vs : List Nat) (j : Nat), (wipe σ vs)[j]? = if j ∈ vs ∧ j < σ.length then some none else σ[j]?
  | [], j => by simp [wipe]
  | v :: vs, j => by
    unfold wipe
    by_cases q : v = j
    · subst q
      by_cases hv : v < σ.length
      · rw [List.getElem?_set_self (by rw [wipe_length]; exact hv), if_pos ⟨List.mem_cons_self, hv⟩]
      · rw [if_neg (fun z => hv z.2), List.getElem?_eq_none (by rw [List.length_set, wipe_length]; omega), List.getElem?_eq_none (by omega)]
    · rw [List.getElem?_set_ne q, wipe_get σ vs j]
      have e : (j ∈ v :: vs ∧ j < σ.length) ↔ (j ∈ vs ∧ j < σ.length) := by
        rw [List.mem_cons]
        exact ⟨fun ⟨a, b⟩ => ⟨a.resolve_left (Ne.symm q), b⟩, fun ⟨a, b⟩ => ⟨.inr a, b⟩⟩
      simp only [e]
theorem wipe_back {σ τ : St} {vs : List Nat} (hl : τ.length = σ.length) (ho : ∀ j, j ∉ vs → τ[j]? = (wipe σ vs)[j]?) : wipe τ vs = wipe σ vs := by
  refine List.ext_getElem? fun j => ?_
  rw [wipe_get τ]
  by_cases q : j ∈ vs
  · rw [wipe_get σ, hl]
    by_cases h : j < σ.length
    · rw [if_pos ⟨q, h⟩, if_pos ⟨q, h⟩]
    · rw [if_neg (fun z => h z.2), if_neg (fun z => h z.2), List.getElem?_eq_none (by omega), List.getElem?_eq_none (by omega)]
  · rw [if_neg (fun z => q z.1)]
    exact ho j q
end
end Dz

set_option maxRecDepth 100000
set_option maxHeartbeats 4000000
/-! Part X: a comprehension's block begins. -/
namespace Dz
open PySem L2
section
variable {G : GI} {P : Prg} {X : Cx} {T : List (Addr × Str)} {W : WX} {R R1 : RE} {env env1 : MEnv} {s s1 : MSt} {σ : St} {H H1 : Hp} {n : Nat}
variable {prog0 : Program} {w0 : World} {K0 : PySem.W.Frag} {mg0 : Str → Option Value} {base0 : Heap} {Γ : WEnv} {k : Nat}
theorem blkLoc_get (own : List Nat) : ∀ (l : List (Option MV)) (k i : Nat), (blkLoc env own s k l)[i]? = if i < l.length then some (if own.contains (k + i) then none else getV env (k + i) s) else none
  | [], k, i => by simp [blkLoc]
  | c :: r, k, 0 => by simp [blkLoc]
  | c :: r, k, i + 1 => by
    have ih := blkLoc_get own r (k + 1) i
    show (blkLoc env own s (k + 1) r)[i]? = _
    rw [ih]
    have e : k + 1 + i = k + (i + 1) := by omega
    rw [e, List.length_cons]
    simp only [Nat.add_lt_add_iff_right]
def celF (own cps : List Nat) (cell : Option (Nat × Nat)) (j : Nat) (c : Option Nat) : Option Nat := match cell with
  | some (j0, id) => if j = j0 then some id else if cps.contains j && !own.contains j then c else none
  | none => if cps.contains j && !own.contains j then c else none
theorem blkCel_get (own cps : List Nat) (cell : Option (Nat × Nat)) : ∀ (l : List (Option Nat)) (k i : Nat), (blkCel own cps cell k l)[i]? = (l[i]?).map (celF own cps cell (k + i))
  | [], k, i => by simp [blkCel]
  | c :: r, k, 0 => rfl
  | c :: r, k, i + 1 => by
    have ih := blkCel_get own cps cell r (k + 1) i
    show (blkCel own cps cell (k + 1) r)[i]? = _
    rw [ih]
    have e : k + 1 + i = k + (i + 1) := by omega
    rw [e]
    rfl
theorem blkLoc_len (own : List Nat) : ∀ (l : List (Option MV)) (k : Nat), (blkLoc env own s k l).length = l.length
  | [], _ => rfl
  | c :: r, k => by show (blkLoc env own s (k + 1) r).length + 1 = _; rw [blkLoc_len own r]; rfl
mutual
theorem tgOwn_slots : ∀ tg : ME, (tgOwn tg).map (·.2) = tgSlots tg
  | .var _ _ _ => rfl
  | .tup es _ _ => tgOwns_slots es
  | .cst .. | .gfn .. | .gct .. | .bin .. | .neg .. | .notE .. | .andE .. | .orE .. | .cmp .. | .chn .. | .isN .. | .tyS .. | .isi .. | .ife .. | .lst .. | .star ..
  | .dic .. | .sub .. | .slc .. | .call .. | .callk .. | .blt .. | .mth .. | .cal .. | .lam .. | .lcm .. | .allC .. | .itm .. | .zip .. | .enm .. | .rng .. | .xfl .. | .nev .. => rfl
theorem tgOwns_slots : ∀ tgs : List ME, (tgOwns tgs).map (·.2) = tgSlots.go tgs
  | [] => rfl
  | e :: r => by
    show (tgOwn e ++ tgOwns r).map (·.2) = tgSlots e ++ tgSlots.go r
    rw [List.map_append, tgOwn_slots e, tgOwns_slots r]
end
/-- the cells in a block -/
theorem blk_cells {z : Shared} {scope : Scope} {own : List (Str × Nat)} {pins : List (Addr × Obj)} (I : Inv X pins σ H z) (ok : BlkOk X.N X.env.scope scope own) :
    (∀ x, scope.names.lookup x = some .free → ∃ c, (cellsFrom (z.heap.objs.size + 1) scope.names (cloFrom X.env.cells scope.names [])).lookup x = some c ∧ X.env.cells.lookup x = some c) ∧
    ∀ x, scope.names.lookup x = some .cell → ∃ c, (cellsFrom (z.heap.objs.size + 1) scope.names (cloFrom X.env.cells scope.names [])).lookup x = some c ∧ z.heap.objs.size < c := by
  have hfree : ∀ y ∈ scope.names, y.2 = .free → ∃ c, X.env.cells.lookup y.1 = some c := fun y hy e => (ok.free y hy e).elim (fun k => I.ok.has _ (.inl k)) fun k => I.ok.has _ (.inr k)
  have clo : ∀ {y c}, (y, c) ∈ cloFrom X.env.cells scope.names [] → (y, NameKind.free) ∈ scope.names ∧ X.env.cells.lookup y = some c := fun {y c} hm => by
    rcases cloFrom_mem hm with hm | ⟨h1, rfl⟩
    · cases hm
    · obtain ⟨c, hc⟩ := hfree _ h1 rfl
      exact ⟨h1, by rw [hc]; rfl⟩
  have e : z.heap.objs.size + 1 = (z.heap.push { cls := .type "dict", data := .dict #[] }).objs.size := (Heap.size_push ..).symm
  refine ⟨fun x hx => ?_, fun x hx => ?_⟩
  · have hm := PySem.mem_of_lookup hx
    obtain ⟨c', e'⟩ := mem_lookup (cells_acc (names := scope.names) (n := z.heap.objs.size + 1) (cloFrom_has (cells := X.env.cells) (acc := []) hm))
    refine ⟨c', e', ?_⟩
    rw [e] at e'
    rcases cells_mem (PySem.mem_of_lookup e') with q | ⟨h1, _, _⟩
    · exact (clo q).2
    · have := ok.uniq _ h1
      rw [hx] at this; cases this
  · obtain ⟨c, hm⟩ := cells_has (n := z.heap.objs.size + 1) (acc := cloFrom X.env.cells scope.names []) (PySem.mem_of_lookup hx)
    obtain ⟨c', e'⟩ := mem_lookup hm
    refine ⟨c', e', ?_⟩
    rw [e] at e'
    rcases cells_mem (PySem.mem_of_lookup e') with q | ⟨_, h2, _⟩
    · have := ok.uniq _ (clo q).1
      rw [hx] at this; cases this
    · rw [Heap.size_push] at h2; exact h2
/-- the names in a block -/
theorem relS_free {sc scope : Scope} {x : Str} (h : scope.names.lookup x = some .free) : (relS scope sc).names.lookup x = some .cell ∨ (relS scope sc).names.lookup x = some .free := by
  have hm := PySem.mem_of_lookup h
  obtain ⟨k, hk⟩ := mem_lookup (l := (relS scope sc).names) (n := x) (List.mem_map.mpr ⟨(x, .free), hm, (by
    show (if _ then (x, NameKind.cell) else (x, NameKind.free)) = (x, if (NameKind.free == .free && sc.kind == .function && sc.names.lookup x == some .cell) then NameKind.cell else NameKind.free)
    split <;> rfl)⟩)
  obtain ⟨k', e, r⟩ := lookup_relS hk
  rw [h] at e
  cases e
  rcases r with rfl | ⟨_, rfl⟩
  · exact .inr hk
  · exact .inl hk
theorem blk_sim0 {z : Shared} {scope : Scope} {tg : ME} {cps : List Nat} {pins : List (Addr × Obj)} {D : Addr} {fp : List Addr} {κ' : Nat → Addr} {m' : Nat} {envB : MEnv} {sB : MSt} {own : List (Str × Nat)} (S : Sim G X T R env s σ H) (hD : H D = none)
    (J : Inv X pins σ (upd H D (.lst [])) z) (fok : ∀ b ∈ fp, FpOk X pins (upd H D (.lst [])) b) (ok : BlkOk X.N X.env.scope scope own) (hκ : ∀ i, i < R.m → κ' i = R.κ i) (hm : R.m ≤ m')
    (hcps : ∀ i ∈ cps, ∃ x, X.N[i]? = some x ∧ scope.names.lookup x = some .free) (hloc : ∀ (i : Nat) v, envB.loc[i]? = some (some v) → i ∉ own.map (·.2) ∧ getV env i s = some v) (hlen : envB.loc.length = env.loc.length)
    (h1 : ∀ i id : Nat, envB.cel[i]? = some (some id) → (id < R.m ∧ env.cel[i]? = some (some id) ∧ i ∉ own.map (·.2) ∧ i ∈ cps) ∨
      (id = R.m ∧ R.m < m' ∧ ∃ x, X.N[i]? = some x ∧ scope.names.lookup x = some .cell ∧ (cellsFrom (z.heap.objs.size + 1) scope.names (cloFrom X.env.cells scope.names [])).lookup x = some (κ' id) ∧ z.heap.objs.size < κ' id))
    (h1j : ∀ i j : Nat, envB.cel[i]? = some (some R.m) → envB.cel[j]? = some (some R.m) → i = j)
    (h2 : m' = R.m ∨ (m' = R.m + 1 ∧ ∃ i : Nat, envB.cel[i]? = some (some R.m))) (h3 : sB.cells.length = m') (h4 : ∀ id : Nat, id < R.m → sB.cells[id]? = s.cells[id]?) (h5 : (sB.cells[R.m]?).join = none) (h6 : sB.refs = s.refs) :
    Sim G (blkX X z (upd H D (.lst [])) scope fp) T { R with κ := κ', m := m' } envB sB (wipe σ (own.map (·.2))) (upd H D (.lst [])) := by
  have SY : Sim G X T R env s σ (upd H D (.lst [])) := S.lift (Ext.keep hD) (S.lies.keep hD) rfl
  have cs := SY.cells J
  obtain ⟨bc1, bc2⟩ := blk_cells J ok
  have ext : Ext R (upd H D (.lst [])) { R with κ := κ', m := m' } (upd H D (.lst [])) :=
    ⟨fun _ _ h => h, fun _ h => h, Nat.le_refl _, hm, fun _ _ => rfl, fun i q1 q2 => absurd q1 (Nat.not_le.mpr q2), hκ, fun _ _ h _ _ => h, fun _ _ _ _ h => h⟩
  have frLt : ∀ b ∈ frs X.stack, b < z.heap.objs.size := fun b hb => by
    obtain ⟨_, o, e, _⟩ := J.stack.mem hb
    exact Heap.lt_size e
  refine ⟨⟨by rw [h6]; exact SY.lies.nr, h3, SY.lies.fz, fun i o h => ?_, SY.lies.inj⟩, fun i v h => ?_, by rw [wipe_length, hlen]; exact S.len, by rw [wipe_length]; exact S.nlen, fun i id h => ?_, fun i j id q1 q2 => ?_, fun i id h => ?_, fun id hid => ?_, SY.tab⟩
  · rw [h6] at h
    obtain ⟨q1, u, q2, q3⟩ := SY.lies.rf i o h
    exact ⟨q1, u, q2, q3.later ext SY.lies.f0⟩
  · -- the values
    have key : i ∉ own.map (·.2) ∧ getV env i s = some v := by
      by_cases hx : ∃ id, envB.cel[i]? = some (some id)
      · obtain ⟨id, hid⟩ := hx
        rw [getV_cel hid] at h
        rcases h1 i id hid with ⟨a, b, c, _⟩ | ⟨a, _⟩
        · rw [h4 id a] at h
          exact ⟨c, by rw [getV_cel b]; exact h⟩
        · rw [a, h5] at h; cases h
      · rw [getV_loc fun id q => hx ⟨id, q⟩] at h
        cases q : envB.loc[i]? with
        | none => rw [q] at h; cases h
        | some o =>
          rw [q] at h
          have h : o = some v := h
          subst h
          exact hloc i v q
    obtain ⟨u, q1, q2⟩ := SY.loc i v key.2
    refine ⟨u, ?_, q2.later ext SY.lies.f0⟩
    rw [wipe_get, if_neg fun q => key.1 q.1]
    exact q1
  · rcases h1 i id h with ⟨a, b, c, d⟩ | ⟨a, a2, x, q1, q2, q3, _⟩
    · obtain ⟨_, x, q1, q2, q3⟩ := SY.cel i id b
      obtain ⟨y, y1, y2⟩ := hcps i d
      rw [q1] at y1
      cases y1
      obtain ⟨c', e1, e2⟩ := bc1 x y2
      rw [q2] at e2
      cases e2
      refine ⟨Nat.lt_of_lt_of_le a hm, x, q1, ?_, relS_free y2⟩
      show _ = some (κ' id)
      rw [hκ id a]
      exact e1
    · exact ⟨by rw [a]; exact a2, x, q1, q3, .inl (lookup_relS_keep (by decide) q2)⟩
  · rcases h1 i id q1 with ⟨a, b, _⟩ | ⟨a, _⟩
    · rcases h1 j id q2 with ⟨a', b', _⟩ | ⟨a', _⟩
      · exact S.cinj i j id b b'
      · omega
    · rw [a] at q1 q2
      exact h1j i j q1 q2
  · rcases h1 i id h with ⟨a, b, c, d⟩ | ⟨a, a2, x, q1, q2, q3, q4⟩
    · show κ' id ∉ frs X.stack
      rw [hκ id a]
      exact SY.cfr i id b
    · exact fun hb => absurd (Nat.lt_trans q4 (frLt _ hb)) (Nat.lt_irrefl _)
  · have hid : id < m' := hid
    by_cases q : id < R.m
    · by_cases hx : ∃ i : Nat, envB.cel[i]? = some (some id)
      · exact .inl hx
      · refine .inr ?_
        obtain ⟨a1, a2, w, a3, a4⟩ := cs id q
        show upd H D (.lst []) (κ' id) = none ∧ κ' id ∉ frs X.stack ∧ κ' id ∉ fp ∧ ∃ w, z.heap.IsCell (κ' id) w ∧ _
        rw [hκ id q]
        refine ⟨a1, a2, fun hb => ?_, w, a3, fun mv e => ?_⟩
        · have f := fok _ hb
          rcases S.out id q with ⟨i, hi⟩ | ⟨b1, b2, b3, w', ⟨o, b4, _⟩, _⟩
          · obtain ⟨_, x, _, q2, _⟩ := S.cel i id hi
            exact f.2.2.2.2.1 x _ q2 rfl
          · rcases f.2.2.2.1 with y | y
            · exact b3 y
            · exact absurd (Nat.lt_of_lt_of_le (Heap.lt_size b4) y) (Nat.lt_irrefl _)
        · rw [h4 id q] at e
          obtain ⟨m, u, r1, r2, r3⟩ := a4 mv e
          exact ⟨m, u, r1.later ext SY.lies.f0, r2, r3⟩
    · rcases h2 with h2 | ⟨h2, i, hi⟩
      · omega
      · have : id = R.m := by omega
        rw [this]
        exact .inl ⟨i, hi⟩
/-- a block's first state -/
def startC (c : Option Nat) (s : MSt) : MSt := match c with
  | none => s
  | some _ => { s with cells := s.cells ++ [none] }
theorem blk_sim {z : Shared} {scope : Scope} {tg : ME} {cell : Option Nat × List Nat} {pins : List (Addr × Obj)} {D : Addr} {fp : List Addr} (C : Ctx prog0 w0 K0 mg0 base0 T Γ k X) (S : Sim G X T R env s σ H) (hD : H D = none)
    (J : Inv X pins σ (upd H D (.lst [])) z) (fok : ∀ b ∈ fp, FpOk X pins (upd H D (.lst [])) b) (ok : BlkOk X.N X.env.scope scope (tgOwn tg)) (hc : celB Γ scope (tgOwn tg) cell = true) (hcl : ∀ i, cell.1 = some i → i < env.cel.length) :
    ∃ (κ' : Nat → Addr) (m' : Nat), (∀ i, i < R.m → κ' i = R.κ i) ∧ R.m ≤ m' ∧
      Sim G (blkX X z (upd H D (.lst [])) scope fp) T { R with κ := κ', m := m' } (blkEnv env (tgSlots tg) cell.2 (cell.1.map fun i => (i, s.cells.length)) s) (startC cell.1 s) (wipe σ ((tgOwn tg).map (·.2))) (upd H D (.lst [])) := by
  obtain ⟨c1, cps⟩ := cell
  obtain ⟨k1, k2⟩ := Bool.and_eq_true_iff.mp hc
  have hcps : ∀ i ∈ cps, ∃ x, X.N[i]? = some x ∧ scope.names.lookup x = some .free := fun i hi => by
    have := List.all_eq_true.mp k1 i hi
    rw [C.N]
    split at this
    · rename_i x e
      exact ⟨x, e, isK_of this⟩
    · cases this
  have hloc : ∀ cell' (i : Nat) v, (blkEnv env (tgSlots tg) cps cell' s).loc[i]? = some (some v) → i ∉ (tgOwn tg).map (·.2) ∧ getV env i s = some v := fun cell' i v h => by
    have h : (blkLoc env (tgSlots tg) s 0 env.loc)[i]? = some (some v) := h
    rw [blkLoc_get, Nat.zero_add] at h
    rw [tgOwn_slots]
    by_cases hi : i < env.loc.length
    · rw [if_pos hi] at h
      have h := Option.some.inj h
      by_cases hc : (tgSlots tg).contains i = true
      · rw [if_pos hc] at h; cases h
      · rw [if_neg hc] at h
        exact ⟨fun q => hc (List.contains_iff_mem.mpr q), h⟩
    · rw [if_neg hi] at h; cases h
  have hlen : ∀ cell', (blkEnv env (tgSlots tg) cps cell' s).loc.length = env.loc.length := fun cell' => blkLoc_len _ _ _
  have base : ∀ {j : Nat} {c : Option Nat} {id : Nat}, env.cel[j]? = some c → (if cps.contains j && !(tgSlots tg).contains j then c else none) = some id → id < R.m ∧ env.cel[j]? = some (some id) ∧ j ∉ (tgOwn tg).map (·.2) ∧ j ∈ cps := fun {j c id} hj h => by
    split at h
    · rename_i q
      subst h
      obtain ⟨q1, q2⟩ := Bool.and_eq_true_iff.mp q
      refine ⟨(S.cel j id hj).1, hj, ?_, List.contains_iff_mem.mp q1⟩
      rw [tgOwn_slots]
      intro z
      rw [List.contains_iff_mem.mpr z] at q2
      cases q2
    · cases h
  cases c1 with
  | none =>
    refine ⟨R.κ, R.m, fun _ _ => rfl, Nat.le_refl _, ?_⟩
    refine blk_sim0 (cps := cps) (tg := tg) S hD J fok ok (fun _ _ => rfl) (Nat.le_refl _) hcps (hloc _) (hlen _) (fun i id h => .inl ?_) (fun i j h _ => ?_) (.inl rfl) S.lies.nc (fun _ _ => rfl) ?_ rfl
    · have h : (blkCel (tgSlots tg) cps none 0 env.cel)[i]? = some (some id) := h
      rw [blkCel_get, Nat.zero_add] at h
      cases hj : env.cel[i]? with
      | none => rw [hj] at h; cases h
      | some c => rw [hj] at h; rw [← hj]; exact base hj (Option.some.inj h)
    · have h : (blkCel (tgSlots tg) cps none 0 env.cel)[i]? = some (some R.m) := h
      rw [blkCel_get, Nat.zero_add] at h
      cases hj : env.cel[i]? with
      | none => rw [hj] at h; cases h
      | some c =>
        rw [hj] at h
        have := (base hj (Option.some.inj h)).1
        exact absurd this (Nat.lt_irrefl _)
    · show (s.cells[R.m]?).join = none
      rw [List.getElem?_eq_none (by rw [S.lies.nc]; exact Nat.le_refl _)]; rfl
  | some i0 =>
    have hi0 : i0 < env.cel.length := hcl i0 rfl
    obtain ⟨k3, _⟩ := Bool.and_eq_true_iff.mp k2
    obtain ⟨p, hp, hpp⟩ := List.any_eq_true.mp k3
    obtain ⟨p1, p2⟩ := Bool.and_eq_true_iff.mp hpp
    have p1 : p.2 = i0 := eq_of_beq p1
    have p2 : scope.names.lookup p.1 = some .cell := isK_of p2
    have hN : X.N[i0]? = some p.1 := by rw [← p1]; exact ok.ix p hp
    obtain ⟨c0, z1, z2⟩ := (blk_cells J ok).2 p.1 p2
    refine ⟨fun id => if id < R.m then R.κ id else c0, R.m + 1, fun i hi => if_pos hi, Nat.le_succ _, ?_⟩
    have celAt : ∀ i : Nat, (blkEnv env (tgSlots tg) cps (some (i0, s.cells.length)) s).cel[i]? = (env.cel[i]?).map fun c => if i = i0 then some s.cells.length else if cps.contains i && !(tgSlots tg).contains i then c else none := fun i => by
      show (blkCel (tgSlots tg) cps (some (i0, s.cells.length)) 0 env.cel)[i]? = _
      rw [blkCel_get, Nat.zero_add]
      rfl
    have celI : ∀ i id : Nat, (blkEnv env (tgSlots tg) cps (some (i0, s.cells.length)) s).cel[i]? = some (some id) → (id < R.m ∧ env.cel[i]? = some (some id) ∧ i ∉ (tgOwn tg).map (·.2) ∧ i ∈ cps) ∨ (id = R.m ∧ i = i0) := fun i id h => by
      rw [celAt] at h
      cases hj : env.cel[i]? with
      | none => rw [hj] at h; cases h
      | some c =>
        rw [hj] at h
        have h : (if i = i0 then some s.cells.length else if cps.contains i && !(tgSlots tg).contains i then c else none) = some id := Option.some.inj h
        by_cases q : i = i0
        · rw [if_pos q] at h
          exact .inr ⟨by rw [← S.lies.nc]; exact (Option.some.inj h).symm, q⟩
        · rw [if_neg q] at h
          exact .inl (by rw [← hj]; exact base hj h)
    have has : (blkEnv env (tgSlots tg) cps (some (i0, s.cells.length)) s).cel[i0]? = some (some R.m) := by
      rw [celAt, List.getElem?_eq_getElem hi0]
      show some (if i0 = i0 then some s.cells.length else _) = _
      rw [if_pos rfl, S.lies.nc]
    refine blk_sim0 (cps := cps) (tg := tg) (sB := { s with cells := s.cells ++ [none] }) S hD J fok ok (fun i hi => if_pos hi) (Nat.le_succ _) hcps (hloc _) (hlen _) (fun i id h => ?_) (fun i j h1 h2 => ?_) (.inr ⟨rfl, i0, has⟩) ?_ (fun id hid => ?_) ?_ rfl
    · rcases celI i id h with q | ⟨q1, q2⟩
      · exact .inl q
      · refine .inr ⟨q1, Nat.lt_succ_self _, p.1, by rw [q2]; exact hN, p2, ?_, ?_⟩
        · show _ = some (if id < R.m then R.κ id else c0)
          rw [q1, if_neg (Nat.lt_irrefl _)]; exact z1
        · show _ < (if id < R.m then R.κ id else c0)
          rw [q1, if_neg (Nat.lt_irrefl _)]; exact z2
    · rcases celI i R.m h1 with q | ⟨_, q⟩
      · exact absurd q.1 (Nat.lt_irrefl _)
      · rcases celI j R.m h2 with q' | ⟨_, q'⟩
        · exact absurd q'.1 (Nat.lt_irrefl _)
        · rw [q, q']
    · show (s.cells ++ [none]).length = R.m + 1
      rw [List.length_append, S.lies.nc]; rfl
    · show (s.cells ++ [none])[id]? = s.cells[id]?
      rw [List.getElem?_append_left (by rw [S.lies.nc]; exact hid)]
    · show ((s.cells ++ [none])[R.m]?).join = none
      rw [List.getElem?_append_right (by rw [S.lies.nc]; exact Nat.le_refl _), S.lies.nc, Nat.sub_self]
      rfl
end
end Dz

set_option maxRecDepth 100000
set_option maxHeartbeats 4000000
/-! Part Y: a comprehension's turns. -/
namespace Dz
open PySem L2
section
variable {G : GI} {P : Prg} {X : Cx} {T : List (Addr × Str)} {W : WX} {R R1 : RE} {env env1 : MEnv} {s s1 : MSt} {σ τ : St} {H H1 : Hp} {n : Nat} {D0 : Dat}
variable {prog0 : Program} {w0 : World} {K0 : PySem.W.Frag} {mg0 : Str → Option Value} {base0 : Heap} {Γ : WEnv} {k : Nat}
theorem Ext.wrD {D : Addr} {o : HO} (e : Ext R H R1 H1) (hD : H D = none) : Ext R H R1 (upd H1 D o) :=
  ⟨e.fr, fun b h => upd_there (e.st b h), e.nn, e.mm, e.mu, e.nw, e.ka, fun b o h h1 h2 => by rw [upd_ne (ne_of_none h hD)]; exact e.kp b o h h1 h2, e.lf⟩
theorem Sim.wrD {D : Addr} {us vs : List V} (S : Sim G X T R env s σ H) (hF : R.F D = none) (ha : ∀ i, i < R.n → D ≠ R.μ i) (hD : H D = some (.lst us)) : Sim G X T R env s σ (upd H D (.lst vs)) := by
  refine ⟨⟨S.lies.nr, S.lies.nc, fun a o h => ?_, fun i o h => ?_, S.lies.inj⟩, S.loc, S.len, S.nlen, S.cel, S.cinj, S.cfr, S.out, fun p hp => ?_⟩
  · have q : a ≠ D := fun q => by rw [q, hF] at h; cases h
    rw [upd_ne q]; exact S.lies.fz a o h
  · obtain ⟨q1, u, q2, q3⟩ := S.lies.rf i o h
    have hi : i < R.n := by rw [← S.lies.nr]; exact (List.getElem?_eq_some_iff.mp h).1
    exact ⟨q1, u, by rw [upd_ne (Ne.symm (ha i hi))]; exact q2, q3⟩
  · obtain ⟨ps, h1, h2, h3⟩ := S.tab p hp
    refine ⟨ps, by rw [upd_ne (ne_of h1 hD (by simp))]; exact h1, h2, fun pos cv hc => ?_⟩
    obtain ⟨c, e1, e2⟩ := h3 pos cv hc
    exact ⟨c, e1, by rw [upd_ne (ne_of e2 hD (by unfold LamX.CodeO; simp))]; exact e2⟩
theorem wipeC_refs {cell : Option (Nat × Nat)} : (wipeC cell s).refs = s.refs := by cases cell <;> rfl
theorem wipeC_len {cell : Option (Nat × Nat)} : (wipeC cell s).cells.length = s.cells.length := by
  cases cell with
  | none => rfl
  | some p => exact List.length_set ..
/-- back at a turn's end -/
theorem Sim.back {σ0 : St} {cell : Option (Nat × Nat)} {slots : List Nat} (S : Sim G X T R env1 s τ H) (st : Stored env env1 slots) (hl : τ.length = σ0.length) (ho : ∀ j, j ∉ slots → τ[j]? = σ0[j]?)
    (h1 : ∀ j ∈ slots, (env.loc[j]?).join = none) (h2 : ∀ j ∈ slots, ∀ id, env.cel[j]? = some (some id) → cell = some (j, id)) (h3 : ∀ j id, cell = some (j, id) → env.cel[j]? = some (some id) ∧ j ∈ slots) : Sim G X T R env (wipeC cell s) σ0 H := by
  have offc : ∀ id : Nat, (∀ j, cell ≠ some (j, id)) → (wipeC cell s).cells[id]? = s.cells[id]? := fun id h => by
    cases cell with
    | none => rfl
    | some p =>
      obtain ⟨j, id0⟩ := p
      have ne : id0 ≠ id := fun q => h j (by rw [q])
      exact List.getElem?_set_ne ne
  refine ⟨⟨by rw [wipeC_refs]; exact S.lies.nr, by rw [wipeC_len]; exact S.lies.nc, S.lies.fz, by rw [wipeC_refs]; exact S.lies.rf, S.lies.inj⟩, fun i v h => ?_, by rw [← hl, S.len, st.len], by rw [← hl]; exact S.nlen, fun i id h => S.cel i id (by rw [st.cel]; exact h),
    fun i j id q1 q2 => S.cinj i j id (by rw [st.cel]; exact q1) (by rw [st.cel]; exact q2), fun i id h => S.cfr i id (by rw [st.cel]; exact h), fun id hid => ?_, S.tab⟩
  · by_cases hi : i ∈ slots
    · exfalso
      by_cases hx : ∃ id, env.cel[i]? = some (some id)
      · obtain ⟨id, hx⟩ := hx
        rw [getV_cel hx] at h
        have hc := h2 i hi id hx
        subst hc
        have h : ((s.cells.set id none)[id]?).join = some v := h
        have hm : id < s.cells.length := by rw [S.lies.nc]; exact (S.cel i id (by rw [st.cel]; exact hx)).1
        rw [List.getElem?_set_self hm] at h
        cases h
      · rw [getV_loc fun id q => hx ⟨id, q⟩, h1 i hi] at h
        cases h
    · have e : getV env1 i s = some v := by
        by_cases hx : ∃ id, env.cel[i]? = some (some id)
        · obtain ⟨id, hx⟩ := hx
          rw [getV_cel hx] at h
          rw [getV_cel (by rw [st.cel]; exact hx)]
          rw [offc id fun j q => ?_] at h
          · exact h
          · obtain ⟨q1, q2⟩ := h3 j id q
            have : i = j := S.cinj i j id (by rw [st.cel]; exact hx) (by rw [st.cel]; exact q1)
            rw [this] at hi
            exact hi q2
        · rw [getV_loc fun id q => hx ⟨id, q⟩] at h
          rw [getV_loc fun id q => hx ⟨id, by rw [← st.cel]; exact q⟩, st.off i hi]
          exact h
      obtain ⟨u, q1, q2⟩ := S.loc i v e
      exact ⟨u, by rw [← ho i hi]; exact q1, q2⟩
  · rcases S.out id hid with ⟨i, hi⟩ | q
    · exact .inl ⟨i, by rw [← st.cel]; exact hi⟩
    · by_cases hx : ∃ j, cell = some (j, id)
      · obtain ⟨j, hj⟩ := hx
        exact .inl ⟨j, (h3 j id hj).1⟩
      · rw [offc id fun j z => hx ⟨j, z⟩]
        exact .inr q
theorem takes_off {X : Cx} : Takes X (fun _ _ _ _ => False) := LamX.takes0
theorem blk_ctx {z : Shared} {Y : Hp} {scope : Scope} {fp : List Addr} (C : Ctx prog0 w0 K0 mg0 base0 T Γ k X) : Ctx prog0 w0 K0 mg0 base0 T (blkΓ Γ scope) k (blkX X z Y scope fp) :=
  ⟨C.prog, C.w, C.K, C.mg, C.base, C.N, by show relS scope X.env.scope = relS scope Γ.sc; rw [C.sc], C.q, C.nd, C.room, C.calm, fun x h => h, C.lam⟩
/-- the parts at fuel n -/
def Parts (prog0 : Program) (w0 : World) (K0 : PySem.W.Frag) (mg0 : Str → Option Value) (base0 : Heap) (T : List (Addr × Str)) (G : GI) (P : Prg) (D0 : Dat) (n : Nat) : Prop :=
  ∀ (X : Cx) (Γ : WEnv) (W : WX), Ctx prog0 w0 K0 mg0 base0 T Γ n X → Takes X W → (∀ m, WF D0 P Γ m → SE G P X T W n m) ∧ ∀ m, WF D0 P Γ m → ST G P X T W n m
def loopOf (P : Prg) (n : Nat) (env : MEnv) (elt tg : ME) (ifs : List ME) (cell : Option Nat × List Nat) (sr : Src) (s : MSt) : Res (List MV) := match cell.1 with
  | none => lcLoop sr (lcOne (ev P n) (blkEnv env (tgSlots tg) cell.2 none s) none elt tg ifs) LW 0 [] s
  | some i => if i < env.cel.length then lcLoop sr (lcOne (ev P n) (blkEnv env (tgSlots tg) cell.2 (some (i, s.cells.length)) s) (some (i, s.cells.length)) elt tg ifs) LW 0 [] { s with cells := s.cells ++ [none] } else .bad
theorem blk_does {elt tg : ME} {ifs : List ME} {sc : Scope} {cell : Option Nat × List Nat} {src : Src} {J : It} {Q : VK} {xs0 : List MV} {s10 : MSt} {pins : List (Addr × Obj)} (C : Ctx prog0 w0 K0 mg0 base0 T Γ n X) (hp : Parts prog0 w0 K0 mg0 base0 T G P D0 n)
    (hbc : blkC Γ.N Γ.sc sc (tgOwn tg) = true) (hg : wfG (blkΓ Γ sc) tg = true) (hif : ∀ m ∈ ifs, WF D0 P (blkΓ Γ sc) m) (hil : ifs.length ≤ 1) (he : WF D0 P (blkΓ Γ sc) elt) (hc : celB Γ sc (tgOwn tg) cell = true)
    (S : Sim G X T R env s σ H) (sr : SrcI G X.K R src J) (hl : loopOf P n env elt tg ifs cell src s = .ok xs0 s10) (hfit : fits s10.refs.length s s10 xs0 = true)
    (hfin : ∀ R2 Y us D, H D = none → Ext R H R2 Y → Lies G R2 (cutTo s10.refs.length s s10) Y → LamX.Tabs T Y → RelMs G R2 xs0 us → Y D = some (.lst us) → R2.F D = none → (∀ i, i < R2.n → D ≠ R2.μ i) → Q (.ref D) Y) :
    BlkDoes X pins σ sc (tgOwn tg) (un elt) (un tg) (unL ifs) J H Q := by
  intro D z fp hD JI fok
  have ok : BlkOk X.N X.env.scope sc (tgOwn tg) := by rw [C.N, C.sc]; exact blkOk_by hbc
  have hcl : ∀ i, cell.1 = some i → i < env.cel.length := fun i e => by
    unfold loopOf at hl
    rw [e] at hl
    dsimp only at hl
    split at hl
    · assumption
    · cases hl
  obtain ⟨κ', m', hκ, hm, SB⟩ := blk_sim C S hD JI (fun b hb => (fok b hb).1) ok hc hcl
  have CB := blk_ctx (z := z) (Y := upd H D (.lst [])) (scope := sc) (fp := fp) C
  obtain ⟨pE, pT⟩ := hp _ _ (fun _ _ _ _ => False) CB takes_off
  -- the loop, its start
  obtain ⟨cv, sB, hcv, hsB, hl'⟩ : ∃ cv sB, cv = (cell.1.map fun i => (i, s.cells.length)) ∧ sB = startC cell.1 s ∧ lcLoop src (lcOne (ev P n) (blkEnv env (tgSlots tg) cell.2 cv s) cv elt tg ifs) LW 0 [] sB = .ok xs0 s10 := by
    refine ⟨_, _, rfl, rfl, ?_⟩
    unfold loopOf at hl
    unfold startC
    cases e : cell.1 with
    | none => rw [e] at hl; exact hl
    | some i =>
      rw [e] at hl
      dsimp only at hl
      rw [if_pos (hcl i e)] at hl
      exact hl
  rw [← hcv, ← hsB] at SB
  clear hl
  have hslot : (tgOwn tg).map (·.2) = tgSlots tg := tgOwn_slots tg
  rw [hslot] at SB
  generalize hB : blkEnv env (tgSlots tg) cell.2 cv s = envB at SB hl'
  have b1 : ∀ j ∈ tgSlots tg, (envB.loc[j]?).join = none := fun j hj => by
    rw [← hB]
    show ((blkLoc env (tgSlots tg) s 0 env.loc)[j]?).join = none
    rw [blkLoc_get, Nat.zero_add]
    split
    · rw [if_pos (List.contains_iff_mem.mpr hj)]; rfl
    · rfl
  have b2 : ∀ j ∈ tgSlots tg, ∀ id, envB.cel[j]? = some (some id) → cv = some (j, id) := fun j hj id h => by
    rw [← hB] at h
    have h : (blkCel (tgSlots tg) cell.2 cv 0 env.cel)[j]? = some (some id) := h
    rw [blkCel_get, Nat.zero_add] at h
    cases q : env.cel[j]? with
    | none => rw [q] at h; cases h
    | some c =>
      rw [q] at h
      have h : celF (tgSlots tg) cell.2 cv j c = some id := Option.some.inj h
      have hcon : (cell.2.contains j && !(tgSlots tg).contains j) = false := by rw [List.contains_iff_mem.mpr hj, Bool.not_true, Bool.and_false]
      cases cv with
      | none =>
        have h : (if (cell.2.contains j && !(tgSlots tg).contains j) = true then c else none) = some id := h
        rw [hcon] at h
        cases h
      | some p =>
        obtain ⟨j0, id0⟩ := p
        have h : (if j = j0 then some id0 else if (cell.2.contains j && !(tgSlots tg).contains j) = true then c else none) = some id := h
        by_cases e : j = j0
        · rw [if_pos e] at h
          cases h
          rw [e]
        · rw [if_neg e, hcon] at h
          cases h
  have b3 : ∀ j id, cv = some (j, id) → envB.cel[j]? = some (some id) ∧ j ∈ tgSlots tg := fun j id e => by
    cases hc1 : cell.1 with
    | none => rw [hc1] at hcv; rw [hcv] at e; cases e
    | some i =>
      rw [hc1] at hcv
      rw [hcv] at e
      cases e
      refine ⟨?_, ?_⟩
      · rw [← hB]
        show (blkCel (tgSlots tg) cell.2 cv 0 env.cel)[j]? = _
        rw [blkCel_get, Nat.zero_add, List.getElem?_eq_getElem (hcl j hc1), hcv]
        show some (if j = j then some s.cells.length else _) = _
        rw [if_pos rfl]
      · obtain ⟨_, k2⟩ := Bool.and_eq_true_iff.mp hc
        rw [hc1] at k2
        obtain ⟨k3, _⟩ := Bool.and_eq_true_iff.mp k2
        obtain ⟨p, hp1, hp2⟩ := List.any_eq_true.mp k3
        have : p.2 = j := eq_of_beq (Bool.and_eq_true_iff.mp hp2).1
        rw [← hslot, ← this]
        exact List.mem_map.mpr ⟨p, hp1, rfl⟩
  have ext0 : Ext R H { R with κ := κ', m := m' } H := ⟨fun _ _ h => h, fun _ h => h, Nat.le_refl _, hm, fun _ _ => rfl, fun i q1 q2 => absurd q1 (Nat.not_le.mpr q2), hκ, fun _ _ h _ _ => h, fun _ _ _ _ h => h⟩
  generalize hone : lcOne (ev P n) envB cv elt tg ifs = one at hl'
  have hR0 : R.F D = none := by
    cases q : R.F D with
    | none => rfl
    | some o => have := (S.lies.fz D o q).1; rw [hD] at this; cases this
  -- the tests' reading
  refine ⟨tGt G (blkX X z (upd H D (.lst [])) sc fp) T tg, fun τ Y Q => ∃ R env s, Sim G (blkX X z (upd H D (.lst [])) sc fp) T R env s τ Y ∧ Aft G (blkX X z (upd H D (.lst [])) sc fp) T (fun _ _ _ _ => False) R env τ Y (fun _ a b => a = b) Q (testsT ((ev P n).t env) ifs s),
    tE G P (blkX X z (upd H D (.lst [])) sc fp) T (fun _ _ _ _ => False) n elt, pg_tg CB tg hg, ?_, pE elt he, ?_⟩
  · match ifs, hif, hil with
    | [], _, _ => exact ⟨fun pins s σ H Q I ⟨R, env, s', S, q⟩ => pts_nil.run pins s σ H Q I (Aft.fin (a := true) q S rfl)⟩
    | [e], hif, _ => exact ⟨fun pins s σ H Q I ⟨R, env, s', S, q⟩ => (pts_one (pT e (hif e List.mem_cons_self))).run pins s σ H Q I ⟨R, env, s', S, q⟩⟩
    | _ :: _ :: _, _, h => exact absurd h (by simp)
  refine ⟨fun i m Y => ∃ R' s' acc us, Ext { R with κ := κ', m := m' } H R' Y ∧ Sim G (blkX X z (upd H D (.lst [])) sc fp) T R' envB s' (wipe σ (tgSlots tg)) Y ∧ Y D = some (.lst us) ∧ RelMs G R' acc us ∧ R'.F D = none ∧ (∀ i, i < R'.n → D ≠ R'.μ i) ∧ lcLoop src one m i acc s' = .ok xs0 s10,
    ⟨LW, _, sB, [], [], (Ext.keep hD).ext, SB, upd_same, .nil, hR0, fun i hi q => S.lies.there i hi (by rw [← q]; exact hD), hl'⟩, ?_⟩
  rintro i m Y ⟨R', s', acc, us, e', S', hDY, racc, hF', ap', hloop⟩
  rw [hslot]
  cases m with
  | zero => cases hloop
  | succ m =>
    have sr' := sr.later (ext0.trans e' S.lies.there) S.lies.f0
    unfold lcLoop at hloop
    cases hnx : src.next s' i with
    | none => rw [hnx] at hloop; cases hloop
    | some o =>
      rw [hnx] at hloop
      cases o with
      | none =>
        dsimp only at hloop
        obtain ⟨q1, q2⟩ : acc = xs0 ∧ s' = s10 := by cases hloop; exact ⟨rfl, rfl⟩
        subst q1
        subst q2
        refine .inl ⟨next_stop sr' S'.lies hnx, ?_⟩
        obtain ⟨c1, c2⟩ := cut_ok S'.lies (Nat.le_refl _) hfit racc
        rw [S.lies.nc] at c1 c2
        refine hfin _ Y us D hD (e'.cut (R0 := R) (n := s'.refs.length) hκ hm (by rw [S'.lies.nr]; exact e'.nn) (by rw [← S'.lies.nr]; exact Nat.le_refl _)) c1 S'.tab c2 hDY hF' fun i hi => ap' i ?_
        have hi : i < s'.refs.length := hi
        rw [S'.lies.nr] at hi
        exact hi
      | some x =>
        dsimp only at hloop
        obtain ⟨hgo, hy⟩ := next_go sr' S'.lies hnx
        refine .inr ⟨hgo, fun Y2 => ∃ R' s' acc us, Ext { R with κ := κ', m := m' } H R' Y2 ∧ Sim G (blkX X z (upd H D (.lst [])) sc fp) T R' envB s' (wipe σ (tgSlots tg)) Y2 ∧ Y2 D = some (.lst us) ∧ RelMs G R' acc us ∧ R'.F D = none ∧ (∀ i, i < R'.n → D ≠ R'.μ i) ∧ lcLoop src one m (i + 1) acc s' = .ok xs0 s10,
          fun Y2 h => ⟨m, Nat.lt_succ_self m, h⟩, fun v Y2 hyl => ?_⟩
        obtain ⟨R2, e2, l2, rx⟩ := hy v Y2 hyl
        have S2 := S'.lift e2 l2 rfl
        have h1 : one x s' = match asgV tg x envB s' with
          | none => .bad
          | some (env, s) => quiet ((testsT ((ev P n).t env) ifs s).bind fun b s => if b then ((ev P n).e env elt s).bind fun y s => .ok (some y) (wipeC cv s) else .ok none (wipeC cv s)) := by rw [← hone]; rfl
        rw [h1] at hloop
        cases ha : asgV tg x envB s' with
        | none => rw [ha] at hloop; cases hloop
        | some es =>
          obtain ⟨env1, s1⟩ := es
          rw [ha] at hloop
          dsimp only at hloop
          -- chains
          have there' := S'.lies.there
          have thereB : ∀ i, i < ({ R with κ := κ', m := m' } : RE).n → H (({ R with κ := κ', m := m' } : RE).μ i) ≠ none := S.lies.there
          have chain : ∀ {R3 : RE} {Y3 : Hp}, Ext R2 Y2 R3 Y3 → Ext { R with κ := κ', m := m' } H R3 Y3 ∧ Y3 D = some (.lst us) ∧ RelMs G R3 acc us ∧ R3.F D = none ∧ (∀ i, i < R3.n → D ≠ R3.μ i) := fun {R3 Y3} e3 => by
            have ap2 : ∀ i, i < R2.n → D ≠ R2.μ i := fun j hj q => by
              by_cases hz : j < R'.n
              · rw [e2.ext.mu j hz] at q; exact ap' j hz q
              · have := e2.ext.nw j (Nat.le_of_not_lt hz) hj
                rw [← q, hDY] at this; cases this
            have d2 : Y2 D = some (.lst us) := e2.ext.kp D _ hDY (fun j hj => ap' j hj) fun ps q => by cases q
            have d3 : Y3 D = some (.lst us) := e3.kp D _ d2 (fun j hj => ap2 j hj) fun ps q => by cases q
            refine ⟨(e'.trans e2.ext thereB).trans e3 thereB, d3, (racc.later e2.ext S'.lies.f0).later e3 S2.lies.f0, e3.lf D us d2 ap2 (e2.ext.lf D us hDY ap' hF'), fun j hj q => ?_⟩
            by_cases hz : j < R2.n
            · rw [e3.mu j hz] at q; exact ap2 j hz q
            · have := e3.nw j (Nat.le_of_not_lt hz) hj
              rw [← q, d2] at this; cases this
          refine ⟨R2, envB, s', x, S2, rx, ?_⟩
          rw [ha]
          intro τ2 S3 l3 o3
          have hw : wipe τ2 (tgSlots tg) = wipe σ (tgSlots tg) := wipe_back (by rw [l3, wipe_length]) o3
          have hst := asgV_stored tg ha
          -- a turn's end
          have fin : ∀ {R3 : RE} {Y3 : Hp} {s3 : MSt}, Ext R2 Y2 R3 Y3 → Sim G (blkX X z (upd H D (.lst [])) sc fp) T R3 env1 s3 τ2 Y3 → Sim G (blkX X z (upd H D (.lst [])) sc fp) T R3 envB (wipeC cv s3) (wipe σ (tgSlots tg)) Y3 := fun {R3 Y3 s3} e3 S3 => S3.back hst l3 o3 b1 b2 b3
          refine ⟨hw, R2, env1, s1, S3, ?_⟩
          cases ht : testsT ((ev P n).t env1) ifs s1 with
          | bad => rw [ht] at hloop; cases hloop
          | exc c fs s2 => rw [ht] at hloop; cases hloop
          | ok b s2 =>
            rw [ht] at hloop
            intro R3 Y3 b' e3 S4 hb
            subst hb
            cases b with
            | false =>
              rw [if_neg Bool.false_ne_true]
              obtain ⟨c1, c2, c3, c4, c5⟩ := chain e3
              exact ⟨R3, wipeC cv s2, acc, us, c1, fin e3 S4, c2, c3, c4, c5, hloop⟩
            | true =>
              rw [if_pos rfl]
              refine ⟨R3, env1, s2, S4, ?_⟩
              cases hev : (ev P n).e env1 elt s2 with
              | bad =>
                have hloop : (quiet (((ev P n).e env1 elt s2).bind fun y s => .ok (some y) (wipeC cv s))).bind _ = _ := hloop
                rw [hev] at hloop; cases hloop
              | exc c fs s3 =>
                have hloop : (quiet (((ev P n).e env1 elt s2).bind fun y s => .ok (some y) (wipeC cv s))).bind _ = _ := hloop
                rw [hev] at hloop; cases hloop
              | ok y s3 =>
                have hloop : (quiet (((ev P n).e env1 elt s2).bind fun y s => .ok (some y) (wipeC cv s))).bind _ = _ := hloop
                rw [hev] at hloop
                have hloop : (if acc.length < SZ then lcLoop src one m (i + 1) (acc ++ [y]) (wipeC cv s3) else .bad) = .ok xs0 s10 := hloop
                split at hloop
                · rename_i hz
                  intro R4 Y4 yv e4 S5 ry
                  obtain ⟨c1, c2, c3, c4, c5⟩ := chain (e3.trans e4 S2.lies.there)
                  have S6 := fin (e3.trans e4 S2.lies.there) S5
                  exact ⟨us, c2, by rw [← c3.length, ← SZ_eq]; exact hz, R4, wipeC cv s3, acc ++ [y], us ++ [yv], c1.wrD hD, S6.wrD c4 c5 c2, upd_same, c3.append (.cons ry .nil), c4, c5, hloop⟩
                · cases hloop
end
end Dz

set_option maxRecDepth 100000
set_option maxHeartbeats 4000000
/-! Part Z: comprehensions, all. -/
namespace Dz
open PySem L2
section
variable {G : GI} {P : Prg} {X : Cx} {T : List (Addr × Str)} {W : WX} {R R1 : RE} {env env1 : MEnv} {s s1 : MSt} {σ τ : St} {H H1 : Hp} {n : Nat} {D0 : Dat}
variable {prog0 : Program} {w0 : World} {K0 : PySem.W.Frag} {mg0 : Str → Option Value} {base0 : Heap} {Γ : WEnv} {k : Nat}
theorem Res.assoc {α β γ : Type} (r : Res α) (f : α → MSt → Res β) (g : β → MSt → Res γ) : (r.bind f).bind g = r.bind fun x s => (f x s).bind g := by cases r <;> rfl
theorem lcOne_quiet {r : Ev} {env : MEnv} {cell : Option (Nat × Nat)} {elt tg : ME} {ifs : List ME} {x : MV} {s : MSt} {c : Nat} {fs : List MV} {s1 : MSt} : lcOne r env cell elt tg ifs x s ≠ .exc c fs s1 := by
  unfold lcOne
  split
  · intro h; cases h
  · rename_i env2 s2 _
    generalize (testsT (r.t env2) ifs s2).bind _ = z
    cases z <;> (intro h; cases h)
theorem lcLoop_quiet {src : Src} {one : MV → MSt → Res (Option MV)} (h : ∀ x s c fs s1, one x s ≠ .exc c fs s1) : ∀ (m i : Nat) (acc : List MV) (s : MSt) c fs s1, lcLoop src one m i acc s ≠ .exc c fs s1
  | 0, i, acc, s, c, fs, s1 => by intro q; cases q
  | m + 1, i, acc, s, c, fs, s1 => by
    unfold lcLoop
    split
    · intro q; cases q
    · intro q; cases q
    · rename_i x _
      cases e : one x s with
      | bad => intro q; cases q
      | exc c fs s1 => exact absurd e (h x s c fs s1)
      | ok y s2 =>
        show (match y with
          | some y => if acc.length < SZ then lcLoop src one m (i + 1) (acc ++ [y]) s2 else .bad
          | none => lcLoop src one m (i + 1) acc s2) ≠ _
        split
        · split
          · exact lcLoop_quiet h m (i + 1) _ s2 c fs s1
          · intro q; cases q
        · exact lcLoop_quiet h m (i + 1) _ s2 c fs s1
theorem loopOf_quiet {elt tg : ME} {ifs : List ME} {cell : Option Nat × List Nat} {sr : Src} {c : Nat} {fs : List MV} {s1 : MSt} : loopOf P n env elt tg ifs cell sr s ≠ .exc c fs s1 := by
  unfold loopOf
  split
  · exact lcLoop_quiet (fun x s c fs s1 => lcOne_quiet) _ _ _ _ _ _ _
  · split
    · exact lcLoop_quiet (fun x s c fs s1 => lcOne_quiet) _ _ _ _ _ _ _
    · intro q; cases q
theorem Lies.rf2 {p : Addr} {o : MO} {u : HO} (l : Lies G R s H) (hp : H p = some u) (hF : R.F p = none) (hm : ∀ i, i < R.n → p ≠ R.μ i) (r : RelO G R o u) : Lies G (R.rf p) { s with refs := s.refs ++ [o] } H := by
  have e : Ext R (fun a => R.F a) (R.rf p) (fun a => R.F a) := ⟨fun _ _ h => h, fun _ h => h, Nat.le_succ _, Nat.le_refl _, fun i h => if_neg (Nat.ne_of_lt h), fun i h1 h2 => by
      have q : i = R.n := Nat.le_antisymm (Nat.lt_succ_iff.mp h2) h1
      show R.F (if i = R.n then p else R.μ i) = none
      rw [if_pos q]; exact hF, fun _ _ => rfl, fun _ _ h _ _ => h, fun _ _ _ _ h => h⟩
  refine ⟨by show (s.refs ++ [o]).length = R.n + 1; rw [List.length_append, l.nr]; rfl, l.nc, l.fz, fun i m h => ?_, fun i j hi hj q => ?_⟩
  · by_cases q : i = R.n
    · subst q
      have h' : (s.refs ++ [o])[R.n]? = some m := h
      rw [← l.nr] at h'
      have : m = o := by simpa using h'.symm
      subst this
      have e1 : (R.rf p).μ R.n = p := if_pos rfl
      rw [e1]
      exact ⟨hF, u, hp, r.later e fun _ _ h => h⟩
    · have hl : i < s.refs.length := by
        have := (List.getElem?_eq_some_iff.mp (show (s.refs ++ [o])[i]? = some m from h)).1
        rw [List.length_append, List.length_singleton] at this
        rw [l.nr] at this ⊢
        omega
      have h' : s.refs[i]? = some m := by rw [← List.getElem?_append_left hl (l₂ := [o])]; exact h
      obtain ⟨h1, w, h2, h3⟩ := l.rf i m h'
      have e1 : (R.rf p).μ i = R.μ i := if_neg q
      rw [e1]
      exact ⟨h1, w, h2, h3.later e fun _ _ h => h⟩
  · have hi' : i < R.n + 1 := hi
    have hj' : j < R.n + 1 := hj
    have q' : (if i = R.n then p else R.μ i) = (if j = R.n then p else R.μ j) := q
    by_cases a : i = R.n <;> by_cases b : j = R.n
    · omega
    · rw [if_pos a, if_neg b] at q'
      exact absurd q' (hm j (by omega))
    · rw [if_neg a, if_pos b] at q'
      exact absurd q'.symm (hm i (by omega))
    · rw [if_neg a, if_neg b] at q'
      exact l.inj i j (by omega) (by omega) q'
theorem fsi_reg {m : ME} (h : reg m = true) (env : Env) : ∀ x, foldedSetIterable (un m) env x = pure x := by
  intro x
  cases m <;> first | (cases h; done) | rfl
theorem src_mono {m : ME} : ∀ σ H (R1 R2 : It → Hp → Prop), (∀ I H, R1 I H → R2 I H) → tSrc G P X T W n m σ H R1 → tSrc G P X T W n m σ H R2 := fun σ H R1 R2 h ⟨R, env, s, S, k⟩ => ⟨R, env, s, S, k.imp h⟩
/-- what the text's look says of a comprehension -/
structure LcOk (D0 : Dat) (P : Prg) (Γ : WEnv) (elt tg src : ME) (ifs : List ME) (sc : Scope) (cell : Option Nat × List Nat) : Prop where
  bc : blkC Γ.N Γ.sc sc (tgOwn tg) = true
  rs : reg src = true
  g : wfG (blkΓ Γ sc) tg = true
  fi : ∀ m ∈ ifs, WF D0 P (blkΓ Γ sc) m
  il : ifs.length ≤ 1
  elt : WF D0 P (blkΓ Γ sc) elt
  cel : celB Γ sc (tgOwn tg) cell = true
/-- the list that a comprehension makes: frozen, or a ref -/
theorem lc_use {elt tg src : ME} {ifs : List ME} {sc : Scope} {cell : Option Nat × List Nat} {Q : VK} {Z : List MV → MSt → Res MV} (C : Ctx prog0 w0 K0 mg0 base0 T Γ n X) (hp : Parts prog0 w0 K0 mg0 base0 T G P D0 n) (L : LcOk D0 P Γ elt tg src ifs sc cell)
    (S : Sim G X T R env s σ H) (h : Aft G X T W R env σ H (RelM G) Q ((lcE (ev P n) env elt tg src ifs cell.2 cell.1 s).bind Z))
    (hQ : ∀ R1 s0 H1 xs s1, Sim G X T R1 env s0 σ H1 → Aft G X T W R1 env σ H1 (RelM G) Q (Z xs (cutTo s1.refs.length s0 s1)) → ∀ R2 Y us D, H1 D = none → Ext R1 H1 R2 Y → Lies G R2 (cutTo s1.refs.length s0 s1) Y → LamX.Tabs T Y → RelMs G R2 xs us → Y D = some (.lst us) → R2.F D = none → (∀ i, i < R2.n → D ≠ R2.μ i) → Q (.ref D) Y) :
    tBlk X sc (tgOwn tg) (un elt) (un tg) (unL ifs) (tSrc G P X T W n src) σ H Q := by
  have e : lcE (ev P n) env elt tg src ifs cell.2 cell.1 s = (srcOf (ev P n) env src s).bind fun sr s0 => (loopOf P n env elt tg ifs cell sr s0).bind fun xs s => if fits s.refs.length s0 s xs = true then .ok xs (cutTo s.refs.length s0 s) else .bad := rfl
  rw [e, Res.assoc] at h
  refine ⟨R, env, s, S, Aft.imp (Aft.bind (rel1 := fun R1 src J => SrcI G X.K R1 src J) S.lies.there h) fun J H1 ⟨R1, s0, src', e1, S1, r1, k1⟩ pins => ?_⟩
  cases q : loopOf P n env elt tg ifs cell src' s0 with
  | bad => rw [q] at k1; exact k1.elim
  | exc c fs s1 => exact absurd q loopOf_quiet
  | ok xs s1 =>
    rw [q] at k1
    have k1 : Aft G X T W R1 env σ H1 (RelM G) Q ((if fits s1.refs.length s0 s1 xs = true then Res.ok xs (cutTo s1.refs.length s0 s1) else .bad).bind Z) := k1
    by_cases hf : fits s1.refs.length s0 s1 xs = true
    · rw [if_pos hf] at k1
      exact blk_does C hp L.bc L.g L.fi L.il L.elt L.cel S1 r1 q hf (hQ R1 s0 H1 xs s1 S1 k1)
    · rw [if_neg hf] at k1
      exact k1.elim
theorem new_list {fl : Bool} {Q : VK} {R2 : RE} {Y : Hp} {us : List V} {D : Addr} {xs : List MV} {s2 : MSt} (S1 : Sim G X T R env s σ H) (hc : s2.cells = s.cells) (k1 : Aft G X T W R env σ H (RelM G) Q (newL fl xs s2)) (hD : H D = none) (e : Ext R H R2 Y) (l : Lies G R2 s2 Y) (t : LamX.Tabs T Y) (r : RelMs G R2 xs us)
    (hY : Y D = some (.lst us)) (hF : R2.F D = none) (ha : ∀ i, i < R2.n → D ≠ R2.μ i) : Q (.ref D) Y := by
  cases fl with
  | false =>
    have l2 := l.fz2 hY hF ha fun ps z => by cases z
    have e2 : Ext R H (R2.fz D (.lst us)) Y := ⟨fun a o h => (upd_ne (fun q => by rw [q] at h; rw [e.fr D o h] at hF; cases hF)).trans (e.fr a o h), e.st, e.nn, e.mm, e.mu, e.nw, e.ka, e.kp, fun b vs h h1 h2 => (upd_ne (ne_of_none h hD)).trans (e.lf b vs h h1 h2)⟩
    exact k1 _ Y (.ref D) e2 (S1.liftT e2 l2 hc t) (.lst upd_same (r.fz hF))
  | true =>
    have l2 := l.rf2 (o := .lst xs) hY hF ha (.lst r)
    have e2 : Ext R H (R2.rf D) Y := ⟨e.fr, e.st, Nat.le_trans e.nn (Nat.le_succ _), e.mm, fun i h => (if_neg (Nat.ne_of_lt (Nat.lt_of_lt_of_le h e.nn))).trans (e.mu i h), fun i h1 h2 => by
        show H (if i = R2.n then D else R2.μ i) = none
        by_cases q : i = R2.n
        · rw [if_pos q]; exact hD
        · rw [if_neg q]
          have h2 : i < R2.n + 1 := h2
          exact e.nw i h1 (by omega), e.ka, e.kp, e.lf⟩
    have k2 : Aft G X T W R env σ H (RelM G) Q (.ok (.ref s2.refs.length) { s2 with refs := s2.refs ++ [MO.lst xs] }) := k1
    refine k2 _ Y (.ref D) e2 (S1.liftT e2 l2 hc t) ?_
    have q : (R2.rf D).μ s2.refs.length = D := if_pos l.nr
    have q2 := RelM.ref (G := G) (R := R2.rf D) (i := s2.refs.length) (by rw [l.nr]; exact Nat.lt_succ_self _)
    rw [q] at q2; exact q2
theorem se_lcm {fl : Bool} {elt tg src : ME} {ifs : List ME} {sc : Scope} {cell : Option Nat × List Nat} {p : Pos} (C : Ctx prog0 w0 K0 mg0 base0 T Γ n X) (hp : Parts prog0 w0 K0 mg0 base0 T G P D0 n) (L : LcOk D0 P Γ elt tg src ifs sc cell) (hi : PI X (un tg) (un src) (tSrc G P X T W n src)) :
    SE G P X T W (n + 1) (.lcm fl elt tg src ifs sc cell p) := by
  refine PE.imp (pe_blk (X := X) C.calm (by rw [C.N]; exact C.nd) hi (by rw [C.N, C.sc]; exact blkOk_by L.bc) (fsi_reg L.rs _) src_mono) fun σ H Q ⟨R, env, s, S, k⟩ => ?_
  refine lc_use C hp L S k fun R1 s0 H1 xs s1 S1 k1 R2 Y us D hD e l t r hY hF ha => ?_
  exact new_list (s2 := cutTo s1.refs.length s0 s1) S1 rfl k1 hD e l t r hY hF ha
theorem allB_of {xs : List MV} : ∀ {us : List V} {b : Bool}, RelMs G R xs us → allB xs = some b → ∃ bs : List Bool, us = bs.map V.bl ∧ b = bs.all id := by
  induction xs with
  | nil => intro us b r h; cases r; cases h; exact ⟨[], rfl, rfl⟩
  | cons x xs ih =>
    intro us b r h
    cases r with
    | cons r rs =>
      cases x <;> (try (cases h; done))
      rename_i c
      cases r
      have h : (allB xs).map (c && ·) = some b := h
      cases e : allB xs with
      | none => rw [e] at h; cases h
      | some d =>
        rw [e] at h
        obtain ⟨bs, rfl, rfl⟩ := ih rs e
        cases h
        exact ⟨c :: bs, rfl, rfl⟩
theorem se_allC {elt tg src : ME} {ifs : List ME} {sc : Scope} {cell : Option Nat × List Nat} {p p1 p2 : Pos} (C : Ctx prog0 w0 K0 mg0 base0 T Γ n X) (fr : Free X) (hg : Gl X "all") (hp : Parts prog0 w0 K0 mg0 base0 T G P D0 n) (L : LcOk D0 P Γ elt tg src ifs sc cell) (hi : PI X (un tg) (un src) (tSrc G P X T W n src)) :
    SE G P X T W (n + 1) (.allC elt tg src ifs sc cell p p1 p2) := by
  have pb := pe_blk (X := X) (pos := p) (elt := un elt) (ifs := unL ifs) C.calm (by rw [C.N]; exact C.nd) hi (by rw [C.N, C.sc]; exact blkOk_by L.bc) (fsi_reg L.rs _) src_mono
  refine PE.imp (pe_callB (pos := p2) (p := p1) (cr_all C.calm) hg (fr _ (by simp)) (by decide +kernel) (pa_cons pb pa_nil (by rfl)) (by decide) (by decide) (by rfl) (by rfl)) fun σ H Q ⟨R, env, s, S, k⟩ => ?_
  show tBlk X sc (tgOwn tg) (un elt) (un tg) (unL ifs) (tSrc G P X T W n src) σ H (fun x H1 => rAll X.K [x] H1 Q)
  have k : Aft G X T W R env σ H (RelM G) Q ((lcE (ev P n) env elt tg src ifs cell.2 cell.1 s).bind fun xs s => match allB xs with
    | some b => .ok (.bl b) s
    | none => .bad) := k
  have e : lcE (ev P n) env elt tg src ifs cell.2 cell.1 s = (srcOf (ev P n) env src s).bind fun sr s0 => (loopOf P n env elt tg ifs cell sr s0).bind fun xs s => if fits s.refs.length s0 s xs = true then .ok xs (cutTo s.refs.length s0 s) else .bad := rfl
  rw [e, Res.assoc] at k
  refine ⟨R, env, s, S, Aft.imp (Aft.bind (rel1 := fun R1 src J => SrcI G X.K R1 src J) S.lies.there k) fun J H1 ⟨R1, s0, src', e1, S1, r1, k1⟩ pins => ?_⟩
  cases q : loopOf P n env elt tg ifs cell src' s0 with
  | bad => rw [q] at k1; exact k1.elim
  | exc c fs s1 => exact absurd q loopOf_quiet
  | ok xs s1 =>
    rw [q] at k1
    have k1 : Aft G X T W R1 env σ H1 (RelM G) Q ((if fits s1.refs.length s0 s1 xs = true then Res.ok xs (cutTo s1.refs.length s0 s1) else .bad).bind fun xs s => match allB xs with
      | some b => .ok (.bl b) s
      | none => .bad) := k1
    by_cases hf : fits s1.refs.length s0 s1 xs = true
    · rw [if_pos hf] at k1
      have k1 : Aft G X T W R1 env σ H1 (RelM G) Q (match allB xs with
        | some b => .ok (.bl b) (cutTo s1.refs.length s0 s1)
        | none => .bad) := k1
      cases hb : allB xs with
      | none => rw [hb] at k1; exact k1.elim
      | some b =>
        rw [hb] at k1
        refine blk_does C hp L.bc L.g L.fi L.il L.elt L.cel S1 r1 q hf fun R2 Y us D hD e l t r hY hF ha => ?_
        obtain ⟨bs, rfl, rfl⟩ := allB_of r hb
        exact ⟨D, bs, rfl, SqL.of hY, k1 R2 Y (.bl _) e (S1.liftT e l rfl t) (.bl _)⟩
    · rw [if_neg hf] at k1
      exact k1.elim
end
end Dz

set_option maxRecDepth 100000
set_option maxHeartbeats 4000000
/-! Part Za: all expressions, by the fuel. -/
namespace Dz
open PySem L2
def bltNames : List Str := ["len", "abs", "int", "list", "tuple", "min", "max", "isinstance", "type", "str", "all", "any", "zip", "enumerate", "range", "dict", "sorted", "sum", "bool"]
/-- what the top's objects say -/
structure Top (prog0 : Program) (w0 : World) (K0 : PySem.W.Frag) (mg0 : Str → Option Value) (base0 : Heap) (T : List (Addr × Str)) (G : GI) (P : Prg) (D0 : Dat) : Prop where
  free : ∀ x ∈ bltNames, mg0 x = none
  wd : WdOk G K0 w0
  fn : ∀ (i : Nat) x, D0.fnm[i]? = some x → ∃ a, mg0 x = some (.ref a) ∧ G.fa i = some a ∧ PySem.W.keepIn K0 (.ref a) = true
  ct : ∀ (g : Nat) x, D0.ctm[g]? = some x → ∃ u b, mg0 x = some u ∧ RelV b u ∧ ∀ v, P.consts[g]? = some v → ∀ R, RelM G R v b
  fns : ∀ (i : Nat) d, P.fns[i]? = some d → ∀ a, G.fa i = some a → ∃ name qual params scope dV kV doc pm cdv ct oc an od osl N ps, FOk K0 mg0 base0 T P D0 d a name qual params scope dV kV doc pm cdv ct oc an od osl N ps
  hfn : ∀ i a, G.fa i = some a → ∃ oc od fd sl, K0.lookup a = some ⟨oc, od, .func fd, sl⟩
  lam : ∀ j : Nat, G.lam j = D0.lms[j]?
  lok : ∀ (j : Nat) L, G.lam j = some L → ∃ d, P.lams[j]? = some d ∧ LOk D0 P d L
section
variable {G : GI} {P : Prg} {X : Cx} {T : List (Addr × Str)} {W : WX} {n : Nat} {D0 : Dat}
variable {prog0 : Program} {w0 : World} {K0 : PySem.W.Frag} {mg0 : Str → Option Value} {base0 : Heap} {Γ : WEnv} {k : Nat}
theorem Ctx.mono {j : Nat} (C : Ctx prog0 w0 K0 mg0 base0 T Γ k X) (h : j ≤ k) : Ctx prog0 w0 K0 mg0 base0 T Γ j X :=
  ⟨C.prog, C.w, C.K, C.mg, C.base, C.N, C.sc, C.q, C.nd, C.room.mono (by omega), C.calm, C.own, C.lam⟩
theorem bad_se {m : ME} (h : ∀ env s, (ev P n).e env m s = .bad) : SE G P X T W n m := pe_void fun σ H Q ⟨R, env, s, S, k⟩ => by rw [h] at k; exact k
theorem bad_st {m : ME} (h : ∀ env s, (ev P n).t env m s = .bad) : ST G P X T W n m := pt_void fun σ H Q ⟨R, env, s, S, k⟩ => by rw [h] at k; exact k
theorem atB_of {N : List Str} {i : Nat} {x : Str} (h : atB N i x = true) : N[i]? = some x := eq_of_beq h
theorem var_of (C : Ctx prog0 w0 K0 mg0 base0 T Γ k X) {i : Nat} {x : Str} (h : varB Γ i x = true) : X.N[i]? = some x ∧ Vis X.env.scope x ∧ (x == ("__debug__" : Str)) = false ∧ (x == ("__classdict__" : Str)) = false := by
  unfold varB at h
  simp only [Bool.and_eq_true, Bool.not_eq_true'] at h
  obtain ⟨⟨⟨h1, h2⟩, h3⟩, h4⟩ := h
  exact ⟨by rw [C.N]; exact atB_of h1, by rw [C.sc]; exact vis_of h2, h3, h4⟩
theorem lc_ok {elt tg src : ME} {ifs : List ME} {sc : Scope} {cell : Option Nat × List Nat} (h1 : blkC Γ.N Γ.sc sc (tgOwn tg) = true) (h2 : reg src = true) (h3 : wfG (blkΓ Γ sc) tg = true) (h4 : wfL D0 P (blkΓ Γ sc) ifs = true) (h5 : ifs.length ≤ 1)
    (h6 : wfE D0 P (blkΓ Γ sc) elt = true) (h7 : celB Γ sc (tgOwn tg) cell = true) (hl : lamHold D0 (lamListL ifs ++ lamList elt)) : LcOk D0 P Γ elt tg src ifs sc cell :=
  ⟨h1, h2, h3, WF.each h4 hl.left, h5, ⟨h6, hl.right⟩, h7⟩
theorem src_pi (C : Ctx prog0 w0 K0 mg0 base0 T Γ k X) (fr : Free X) (se : ∀ m, WF D0 P Γ m → SE G P X T W n m) {src tg : ME} (hw : WF D0 P Γ src) (hp : isPair src = false ∨ isTupM tg = true) (hr : reg src = true) : PI X (un tg) (un src) (tSrc G P X T W n src) := by
  refine pi_src fr hp hr (fun a b p1 p e => ?_) (fun a p1 p e => ?_) (fun as p1 p e => ?_) fun _ _ => se src hw
  · subst e
    obtain ⟨h, l⟩ := hw
    unfold wfE at h
    simp only [Bool.and_eq_true] at h
    obtain ⟨⟨⟨⟨h1, h2⟩, h3⟩, h4⟩, h5⟩ := h
    have l : lamHold D0 (lamList a ++ lamList b) := l
    exact ⟨(gl_of C h1).1, h4, h5, se a ⟨h2, l.left⟩, se b ⟨h3, l.right⟩⟩
  · subst e
    obtain ⟨h, l⟩ := hw
    unfold wfE at h
    simp only [Bool.and_eq_true] at h
    obtain ⟨⟨h1, h2⟩, h3⟩ := h
    exact ⟨(gl_of C h1).1, h3, se a ⟨h2, l⟩⟩
  · subst e
    obtain ⟨h, l⟩ := hw
    unfold wfE at h
    simp only [Bool.and_eq_true] at h
    obtain ⟨⟨h1, h2⟩, h3⟩ := h
    exact ⟨(gl_of C h1).1, h3, fun a ha => se a (WF.each h2 l a ha)⟩
theorem parts_e (Tp : Top prog0 w0 K0 mg0 base0 T G P D0) (hp : Parts prog0 w0 K0 mg0 base0 T G P D0 n) (fs : FS prog0 w0 K0 mg0 base0 T G P n) (cs : CS prog0 w0 K0 mg0 base0 T G P n) (C1 : Ctx prog0 w0 K0 mg0 base0 T Γ (n + 1) X) (tk : Takes X W) :
    ∀ m, WF D0 P Γ m → SE G P X T W (n + 1) m := by
  intro m ⟨h, l⟩
  have C := C1.mono (Nat.le_succ n)
  obtain ⟨se, st⟩ := hp X Γ W C tk
  have hu := C1.room.units
  have wd : WdOk G X.K X.w := by rw [C.K, C.w]; exact Tp.wd
  have fr : Free X := fun x hx => by rw [C.mg]; exact Tp.free x hx
  cases m with
  | cst v c j p => exact se_cst h
  | var i x p =>
    obtain ⟨h1, h2, h3, h4⟩ := var_of C h
    exact se_var h1 h2 h3 h4
  | gfn i x p =>
    obtain ⟨h1, h2⟩ := Bool.and_eq_true_iff.mp h
    obtain ⟨a, e1, e2, _⟩ := Tp.fn i x (eq_of_beq h2)
    obtain ⟨g1, g2⟩ := gl_of C h1
    exact se_gfn g1 (by rw [C.mg]; exact e1) e2 g2
  | gct g x p =>
    obtain ⟨h1, h2⟩ := Bool.and_eq_true_iff.mp h
    obtain ⟨u, b, e1, e2, e3⟩ := Tp.ct g x (eq_of_beq h2)
    obtain ⟨g1, g2⟩ := gl_of C h1
    exact se_gct g1 (by rw [C.mg]; exact e1) e2 e3 g2
  | bin a op b p =>
    obtain ⟨h1, h2⟩ := Bool.and_eq_true_iff.mp h
    exact se_bin (se a ⟨h1, lamHold.left l⟩) (se b ⟨h2, lamHold.right l⟩)
  | neg a p => exact se_neg (se a ⟨h, l⟩)
  | notE a p => exact se_notE (se a ⟨h, l⟩)
  | andE as p => exact se_andE fun m hm => se m (WF.each h l m hm)
  | orE as p => exact se_orE fun m hm => se m (WF.each h l m hm)
  | cmp a op b p =>
    unfold wfE at h
    simp only [Bool.and_eq_true] at h
    obtain ⟨⟨h1, h2⟩, h3⟩ := h
    exact se_cmp hu wd (se a ⟨h1, lamHold.left l⟩) (se b ⟨h2, lamHold.right l⟩) (bm_reg h3 _)
  | chn a op b op2 c p =>
    unfold wfE at h
    simp only [Bool.and_eq_true] at h
    obtain ⟨⟨⟨⟨h1, h2⟩, h3⟩, h4⟩, h5⟩ := h
    exact se_chn hu wd (se a ⟨h1, lamHold.left l⟩) (se b ⟨h2, lamHold.left (lamHold.right l)⟩) (se c ⟨h3, lamHold.right (lamHold.right l)⟩) h4 h5
  | isN a ng j p1 p => exact se_isN (se a ⟨h, l⟩)
  | tyS a ng p1 p2 p3 p =>
    unfold wfE at h
    simp only [Bool.and_eq_true] at h
    obtain ⟨⟨⟨h1, h2⟩, h3⟩, h4⟩ := h
    exact se_tyS fr (gl_of C h3).1 (gl_of C h4).1 (se a ⟨h1, l⟩) h2
  | isi a ts one kk p1 p2 p =>
    unfold wfE at h
    simp only [Bool.and_eq_true, decide_eq_true_eq] at h
    obtain ⟨⟨⟨⟨⟨⟨⟨h1, h2⟩, h3⟩, h4⟩, h5⟩, h6⟩, h7⟩, h8⟩ := h
    refine se_isi fr (gl_of C h3).1 (fun q hq => (gl_of C (List.all_eq_true.mp h4 q hq)).1) h5 (fun e => by rw [e] at h6; cases h6) (fun e => by rw [e] at h7; exact eq_of_beq h7) (Nat.le_trans h8 (by decide)) (se a ⟨h1, l⟩) h2
  | ife t a b p =>
    unfold wfE at h
    simp only [Bool.and_eq_true] at h
    obtain ⟨⟨h1, h2⟩, h3⟩ := h
    exact se_ife (st t ⟨h1, lamHold.left l⟩) (se a ⟨h2, lamHold.left (lamHold.right l)⟩) (se b ⟨h3, lamHold.right (lamHold.right l)⟩)
  | tup es j p =>
    obtain ⟨h1, h2⟩ := Bool.and_eq_true_iff.mp h
    exact se_tup h2 fun m hm => se _ (WF.each h1 l m hm).inner
  | lst fl es p =>
    obtain ⟨h1, h2⟩ := Bool.and_eq_true_iff.mp h
    exact se_lst h2 fun m hm => se _ (WF.each h1 l m hm).inner
  | star e p => exact bad_se fun _ _ => rfl
  | dic fl ks vs p =>
    obtain ⟨h1, h2⟩ := Bool.and_eq_true_iff.mp h
    obtain rfl := List.isEmpty_iff.mp h1
    obtain rfl := List.isEmpty_iff.mp h2
    exact se_dic0
  | sub a i p =>
    unfold wfE at h
    simp only [Bool.and_eq_true] at h
    obtain ⟨⟨h1, h2⟩, h3⟩ := h
    exact se_sub hu wd (se a ⟨h1, lamHold.left l⟩) (se i ⟨h2, lamHold.right l⟩) (ix_reg h3)
  | slc fl a lo hi p1 p =>
    unfold wfE at h
    simp only [Bool.and_eq_true] at h
    obtain ⟨⟨h1, h2⟩, h3⟩ := h
    refine se_slc (se a ⟨h1, lamHold.left l⟩) (fun e he => ?_) fun e he => ?_
    · subst he; exact se e ⟨h2, lamHold.left (lamHold.right l)⟩
    · subst he; exact se e ⟨h3, lamHold.right (lamHold.right l)⟩
  | call f x as p1 p =>
    unfold wfE at h
    simp only [Bool.and_eq_true] at h
    obtain ⟨⟨⟨h1, h2⟩, h3⟩, h4⟩ := h
    obtain ⟨a, e1, e2, e3⟩ := Tp.fn f x (eq_of_beq h2)
    obtain ⟨g1, g2⟩ := gl_of C h1
    exact se_call (a := a) (by rw [C.prog, C.w, C.K, C.mg, C.base]; exact fs) C.room tk g1 g2 (by rw [C.mg]; exact e1) e2 (by rw [C.K]; exact e3) h4 fun m hm => se m (WF.each h3 l m hm)
  | callk => cases h
  | blt fl b x as p1 p =>
    unfold wfE at h
    simp only [Bool.and_eq_true] at h
    obtain ⟨⟨⟨⟨h1, h2⟩, h3⟩, h4⟩, h5⟩ := h
    exact se_blt C.calm fr h1 (gl_of C h2).1 (fun e => by rw [e] at h5; cases h5) h4 fun m hm => se m (WF.each h3 l m hm)
  | mth fl b o m as p1 p =>
    unfold wfE at h
    simp only [Bool.and_eq_true] at h
    obtain ⟨⟨⟨⟨⟨⟨h1, h2⟩, h3⟩, h4⟩, h5⟩, h6⟩, h7⟩ := h
    match as, h5, h6, h7, l with
    | [a], h5, h6, h7, l =>
      have l' : lamHold D0 (lamListL [a]) := lamHold.right l
      exact se_mth (by omega) (fun e => by rw [e] at h7; cases h7) h1 h2 (se o ⟨h3, lamHold.left l⟩) h4 (se a (WF.each h5 l' a List.mem_cons_self)) (Bool.and_eq_true_iff.mp h6).1
    | [], _, _, h7, _ => cases b <;> cases h7
    | [a, c], h5, h6, h7, l =>
      have l' : lamHold D0 (lamListL [a, c]) := lamHold.right l
      obtain ⟨g1, g2⟩ := Bool.and_eq_true_iff.mp h6
      have hb : b = .get2 := by cases b <;> first | rfl | (cases h7; done)
      subst hb
      exact se_get2 (by omega) h1 h2 (se o ⟨h3, lamHold.left l⟩) h4 (se a (WF.each h5 l' a List.mem_cons_self)) g1 (se c (WF.each h5 l' c (List.mem_cons_of_mem _ List.mem_cons_self))) (Bool.and_eq_true_iff.mp g2).1
    | _ :: _ :: _ :: _, _, _, h7, _ => exact absurd (eq_of_beq h7) (by cases b <;> simp [mthN])
  | cal i x as p1 p =>
    unfold wfE at h
    simp only [Bool.and_eq_true] at h
    obtain ⟨⟨h1, h2⟩, h3⟩ := h
    obtain ⟨v1, v2, v3, v4⟩ := var_of C h1
    exact se_cal (by rw [C.prog, C.w, C.K, C.mg, C.base]; exact cs) C.room tk (fun i a e => by rw [C.K]; exact Tp.hfn i a e) v1 v2 v3 v4 h3 fun m hm => se m (WF.each h2 l m hm)
  | lam j args body sc p => exact se_lam C1 Tp.lok Tp.lam h l
  | lcm fl elt tg src ifs sc cell p =>
    unfold wfE at h
    simp only [Bool.and_eq_true, Bool.or_eq_true, Bool.not_eq_true', decide_eq_true_eq] at h
    obtain ⟨⟨⟨⟨⟨⟨⟨⟨h1, h2⟩, h3⟩, h4⟩, h5⟩, h6⟩, h7⟩, h8⟩, h9⟩ := h
    exact se_lcm C hp (lc_ok h1 h4 h5 h6 h7 h8 h9 (lamHold.right l)) (src_pi C fr se ⟨h2, lamHold.left l⟩ h3 h4)
  | allC elt tg src ifs sc cell p p1 p2 =>
    unfold wfE at h
    simp only [Bool.and_eq_true, Bool.or_eq_true, Bool.not_eq_true', decide_eq_true_eq] at h
    obtain ⟨⟨⟨⟨⟨⟨⟨⟨⟨h0, h1⟩, h2⟩, h3⟩, h4⟩, h5⟩, h6⟩, h7⟩, h8⟩, h9⟩ := h
    exact se_allC C fr (gl_of C h0).1 hp (lc_ok h1 h4 h5 h6 h7 h8 h9 (lamHold.right l)) (src_pi C fr se ⟨h2, lamHold.left l⟩ h3 h4)
  | itm fl d p1 p2 p3 p =>
    unfold wfE at h
    simp only [Bool.and_eq_true] at h
    obtain ⟨⟨⟨h1, h2⟩, h3⟩, h4⟩ := h
    exact se_itm C.calm (fr _ (by simp)) (gl_of C h1).1 (se d ⟨h2, l⟩) h3 h4
  | zip a b p1 p => exact bad_se fun _ _ => rfl
  | enm a p1 p => exact bad_se fun _ _ => rfl
  | rng as p1 p => exact bad_se fun _ _ => rfl
  | xfl i x f kk p1 p => cases h
  | nev e => cases h
/-- as tests -/
theorem parts_t (Tp : Top prog0 w0 K0 mg0 base0 T G P D0) (hn : ∀ k, k ≤ n → Parts prog0 w0 K0 mg0 base0 T G P D0 k) (C1 : Ctx prog0 w0 K0 mg0 base0 T Γ (n + 1) X) (tk : Takes X W) :
    ∀ m, WF D0 P Γ m → ST G P X T W (n + 1) m := by
  intro m ⟨h, l⟩
  have C := C1.mono (Nat.le_succ n)
  obtain ⟨se, st⟩ := hn n (Nat.le_refl _) X Γ W C tk
  have hu := C1.room.units
  have wd : WdOk G X.K X.w := by rw [C.K, C.w]; exact Tp.wd
  have fr : Free X := fun x hx => by rw [C.mg]; exact Tp.free x hx
  have val : notTest m = true → (∀ env s, (ev P (n + 1)).t env m s = ((ev P n).e env m s).bind fun x s => match truM s x with
      | some b => .ok b s
      | none => .bad) → ST G P X T W (n + 1) m := fun h1 h2 => st_val (se m ⟨h, l⟩) h2 fun whole => tr_reg h1 _ _
  -- the four whose parts lie two below
  have low : (∀ n', n = n' + 1 → ST G P X T W (n' + 2) m) → (∀ env s, (ev P 1).t env m s = .bad) → ST G P X T W (n + 1) m := fun h1 h2 => by
    cases n with
    | zero => exact bad_st h2
    | succ n' => exact h1 n' rfl
  cases m with
  | andE as p => exact st_andE fun m hm => st m (WF.each h l m hm)
  | orE as p => exact st_orE fun m hm => st m (WF.each h l m hm)
  | notE a p => exact st_notE (st a ⟨h, l⟩)
  | ife t a b p =>
    unfold wfE at h
    simp only [Bool.and_eq_true] at h
    obtain ⟨⟨h1, h2⟩, h3⟩ := h
    exact st_ife (st t ⟨h1, lamHold.left l⟩) (st a ⟨h2, lamHold.left (lamHold.right l)⟩) (st b ⟨h3, lamHold.right (lamHold.right l)⟩)
  | cmp a op b p =>
    refine low (fun n' e => ?_) fun _ _ => rfl
    obtain ⟨se', _⟩ := hn n' (by omega) X Γ W (C.mono (by omega)) tk
    unfold wfE at h
    simp only [Bool.and_eq_true] at h
    obtain ⟨⟨h1, h2⟩, h3⟩ := h
    exact st_cmp hu wd (se' a ⟨h1, lamHold.left l⟩) (se' b ⟨h2, lamHold.right l⟩) (bm_reg h3 _)
  | chn a op b op2 c p =>
    refine low (fun n' e => ?_) fun _ _ => rfl
    obtain ⟨se', _⟩ := hn n' (by omega) X Γ W (C.mono (by omega)) tk
    unfold wfE at h
    simp only [Bool.and_eq_true] at h
    obtain ⟨⟨⟨⟨h1, h2⟩, h3⟩, h4⟩, h5⟩ := h
    exact st_chn hu wd (se' a ⟨h1, lamHold.left l⟩) (se' b ⟨h2, lamHold.left (lamHold.right l)⟩) (se' c ⟨h3, lamHold.right (lamHold.right l)⟩) h5
  | isN a ng j p1 p =>
    refine low (fun n' e => ?_) fun _ _ => rfl
    obtain ⟨se', _⟩ := hn n' (by omega) X Γ W (C.mono (by omega)) tk
    exact st_isN (se' a ⟨h, l⟩)
  | tyS a ng p1 p2 p3 p =>
    refine low (fun n' e => ?_) fun _ _ => rfl
    obtain ⟨se', _⟩ := hn n' (by omega) X Γ W (C.mono (by omega)) tk
    unfold wfE at h
    simp only [Bool.and_eq_true] at h
    obtain ⟨⟨⟨h1, h2⟩, h3⟩, h4⟩ := h
    exact st_tyS fr (gl_of C h3).1 (gl_of C h4).1 (se' a ⟨h1, l⟩) h2
  | star e p => exact bad_st fun env s => by cases n <;> rfl
  | nev e => cases h
  | callk => cases h
  | xfl i x f kk p1 p => cases h
  | _ => exact val rfl fun _ _ => rfl
end
end Dz

set_option maxRecDepth 100000
set_option maxHeartbeats 4000000
/-! Part Zb: try with several clauses, each with a name or without. -/
namespace Dz
open PySem L2
/-- a clause: the class's name, the class, the slot of its name, its suite's reading -/
abbrev Cl := Value × Option Nat × (Addr → Value → Option Addr → TS)
def goneD (i : Nat) (D : Ends) : Ends := { nx := fun τ Y => D.nx (τ.set i none) Y, rt := D.rt, bk := fun τ Y => D.bk (τ.set i none) Y, ct := fun τ Y => D.ct (τ.set i none) Y }
def wCl (K : PySem.W.Frag) (Wo : WX) (D : Ends) : List Cl → WX
  | [] => Wo
  | (c, none, ts) :: r => fun cls d τ Y => ∃ b, PySem.W.exmOne K cls c = some b ∧ (b = true → ∀ a, Y a = none → ts a cls d D τ Y) ∧ (b = false → wCl K Wo D r cls d τ Y)
  | (c, some i, ts) :: r => fun cls d τ Y => ∃ b, PySem.W.exmOne K cls c = some b ∧ (b = true → ∀ a, Y a = none → ts a cls d (goneD i D) (τ.set i (some (.ref a))) Y) ∧ (b = false → wCl K Wo D r cls d τ Y)
inductive ClOk (X : Cx) : List ExceptHandler → List Cl → Prop
  | nil : ClOk X [] []
  | cons {x : Str} {c : Value} {nm : Option Str} {io : Option Nat} {ts : Addr → Value → Option Addr → TS} {b₀ : Stmt} {suite : List Stmt} {np pos' : Pos} {hds : List ExceptHandler} {l : List Cl} (hc : Names X x c)
      (hn : match nm, io with
        | none, none => True
        | some n, some i => X.N[i]? = some n ∧ X.env.kindOf n = some .local
        | _, _ => False)
      (hsu : ∀ (a : Addr) (oe : Obj) (cls : Value) (d : Option Addr) (pn : List (Addr × Obj)), Zc cls d oe → (∃ vs, oe.data = .fields vs) → PSs (X.suite a ((a, oe) :: pn)) (b₀ :: suite) (ts a cls d)) (r : ClOk X hds l) :
      ClOk X (.ExceptHandler (some (.Name x np)) nm (b₀ :: suite) pos' :: hds) ((c, io, ts) :: l)
section
variable {X : Cx} {body : List Stmt} {h₀ : ExceptHandler} {hds : List ExceptHandler} {l : List Cl} {pos : Pos} {tb : WX → TS} {Wo : WX}
theorem ps_try_cl (hs : X.stack = X.env :: X.outer) (hf : X.env.frame = some X.env.locals) (hN : X.N.Nodup) (tk : Takes X Wo)
    (hb : ∀ (V : WX) (pn : List (Addr × Obj)) (xe : Value → Shared → Prop), Takes (X.tr pn xe) V → PassesOwn (model X.prog X.w) X.A X.env xe → PSs (X.tr pn xe) body (tb V))
    (hh : ClOk X (h₀ :: hds) l) : PS X (.Try body (h₀ :: hds) [] [] pos) (fun D τ Y => tb (wCl X.K Wo D l) D τ Y) := by
  refine ⟨fun pins sh τ Y D J h => ?_⟩
  have ok := J.ok
  have hfr : X.A.frames = some (X.env :: X.outer) := by rw [ok.frames, hs]
  refine wpAny_Try_except ?_
  refine wpAny_mono ((hb (wCl X.K Wo D l) (X.pn ++ pins) (fun e z1 => wpAny (model X.prog X.w) X.A (noteFrame e X.env) (fun _ z2 => wpAny (model X.prog X.w) X.A (setFlight e none) (fun _ z3 =>
    wpAny (model X.prog X.w) X.A (handleBy e X.env (h₀ :: hds)) (SP X pins D) X.xe z3) X.xe z2) X.xe z1) (fun u z xx => ?_) PassesOwn.looking).run [] sh τ Y D (J.toTry _) h) (fun f z1 hsp => ?_) (fun e z1 he => he)
  · obtain ⟨a, B, zI, pins', τ', Y', cls, d, rfl, JT, nb, up, sky, na, os, ag, wish⟩ := xx
    have JI : Inv X pins τ' Y' zI := JT.ofTry ok
    have sky' : Sky B (X.env :: X.outer) a (Zc cls d) X.env.locals z.heap := by rw [← hs]; exact sky
    show wpAny (model X.prog X.w) X.A (noteFrame (.ref a) X.env) _ _ _
    refine Sky.land Zc.steady hfr hf sky' fun h3 fl3 up3 => ?_
    have J3 : Inv X pins τ' Y' { z with heap := h3 } := JI.landed nb fl3.1 (up.trans up3) os ag
    obtain ⟨oe3, vs3, he3, hz3, hd3⟩ := fl3.there
    have noFr : a ∉ frs (X.env :: X.outer) := fun hm => by
      obtain ⟨_, o', e', hnf⟩ := fl3.2.2.1.mem hm
      rw [he3] at e'; cases e'
      exact hnf _ hd3
    have noL : a ≠ X.env.locals := fun q => noFr (List.mem_filterMap.mpr ⟨X.env, List.mem_cons_self, by rw [hf, q]⟩)
    have noF : a ∉ X.fs := fun hm => by
      obtain ⟨e, he, q⟩ := List.mem_filterMap.mp hm
      exact noFr (List.mem_filterMap.mpr ⟨e, List.mem_cons_of_mem _ he, q⟩)
    have S3 := J3.suite he3 hd3 na noL noF
    have go : ∀ {hds' : List ExceptHandler} {l' : List Cl}, ClOk X hds' l' → wCl X.K Wo D l' cls d τ' Y' →
        wpAny (model X.prog X.w) X.A (handleBy (.ref a) X.env hds') (SP X pins D) X.xe { z with heap := h3 } := by
      intro hds' l' hk
      induction hk with
      | nil =>
        intro wish
        refine wpAny_handleBy_nil ?_
        obtain ⟨k1, k2, k3, oe, vs, Ta, oT, ts', he, hz, hd, h1, hr⟩ := id fl3
        unfold PySem.passOn
        refine wpAny_bind (wpAny_field he hd h1 ?_)
        rw [if_neg (show ¬ ((Value.ref Ta == Value.none) = true) from by simp)]
        have fin : wpAny (model X.prog X.w) X.A (setFlight (.ref a) X.env.frame) (fun _ z4 => wpAny (model X.prog X.w) X.A (throw (.ref a) : Sem Flow) (SP X pins D) X.xe z4) X.xe { z with heap := h3 } := by
          rw [hf]
          refine HandSPX.setFlight_upZ fl3 fun h4 hh4 up4 => wpAny_throw (tk _ _ ?_)
          exact ⟨a, B, zI, pins, τ', Y', cls, d, rfl, JI, nb, (up.trans up3).trans up4, .inr (.inr (by rw [hs]; exact hh4)), na, os, ag, wish⟩
        first
          | exact wpAny_bind (wpAny_pure (wpAny_bind fin))
          | exact wpAny_bind fin
      | @cons x c nm io ts b₀ suite np pos' hds2 l2 hc hn hsu r ih =>
        intro wish
        obtain ⟨b, hb1, hyes, hno⟩ : ∃ b, PySem.W.exmOne X.K cls c = some b ∧ (b = true → ∀ a, Y' a = none → match io with
            | none => ts a cls d D τ' Y'
            | some i => ts a cls d (goneD i D) (τ'.set i (some (.ref a))) Y') ∧ (b = false → wCl X.K Wo D l2 cls d τ' Y') := by
          cases io <;> exact wish
        refine wpAny_handleBy_cons (codeAny_handlers_test ?_) (by intro q; cases q)
        have LT : PySem.W.Looks (model X.prog X.w) h3 (typeOf (.ref a)) cls := fun A Q E s k q => wpAny_typeOf_ref (k _ _ he3) (by rw [hz3.1]; exact q)
        have LM := PySem.W.exm_one (M := model X.prog X.w) (J3.kIn) LT hb1
        have test : ∀ {Q : Value → Shared → Prop} {E : Value → Shared → Prop}, Q c { z with heap := h3 } → wpAny (model X.prog X.w) (X.A.mark (some (.ref a))) (eval (.Name x np) X.env) Q E { z with heap := h3 } := fun {Q E} q => by
          obtain ⟨hg, hdbg, hm | ⟨hm, hv, hnn⟩⟩ := hc
          · exact ld_glob (X := X.suite a ((a, oe3) :: (X.pn ++ pins))) S3 hg hm q hdbg
          · exact ld_blt (X := X.suite a ((a, oe3) :: (X.pn ++ pins))) S3 hg hm hv q hnn hdbg
        refine test (LM.here ?_)
        cases b with
        | false =>
          show wpAny _ X.A (handleBy (.ref a) X.env hds2) _ _ _
          exact ih (hno rfl)
        | true =>
          cases nm with
          | none =>
            cases io with
            | some i => exact hn.elim
            | none =>
              refine codeAny_handlers_suite ?_
              refine HandSPX.lands_againZ fl3 fun h4 fl4 up4 => ?_
              have J4 : Inv X pins τ' Y' { z with heap := h4 } := JI.landed nb fl4.1 ((up.trans up3).trans up4) os ag
              obtain ⟨oe4, vs4, he4, hz4, hd4⟩ := fl4.there
              have S4 := J4.suite he4 hd4 na noL noF
              refine wpAny_mono ((hsu a oe4 cls d (X.pn ++ pins) hz4 ⟨_, hd4⟩).run [] _ _ Y' _ S4 (hyes rfl a na)) (fun f z6 hsp => ?_) (fun _ _ q => False.elim q)
              cases f with
              | next => obtain ⟨τ6, Y6, S6, q6⟩ := hsp; exact ⟨_, _, S6.unsuite ok, q6⟩
              | brk => obtain ⟨τ6, Y6, S6, q6⟩ := hsp; exact ⟨_, _, S6.unsuite ok, q6⟩
              | cont => obtain ⟨τ6, Y6, S6, q6⟩ := hsp; exact ⟨_, _, S6.unsuite ok, q6⟩
              | ret u => obtain ⟨v6, τ6, Y6, S6, r6, q6⟩ := hsp; exact ⟨_, _, _, S6.unsuite ok, r6, q6⟩
          | some n =>
            cases io with
            | none => exact hn.elim
            | some i =>
              obtain ⟨hi, hln⟩ := hn
              refine codeAny_handlers_suite_as ?_
              refine HandSPX.lands_againZ fl3 fun h4 fl4 up4 => ?_
              have J4 : Inv X pins τ' Y' { z with heap := h4 } := JI.landed nb fl4.1 ((up.trans up3).trans up4) os ag
              obtain ⟨oe4, vs4, he4, hz4, hd4⟩ := fl4.there
              have S4 := J4.suite he4 hd4 na noL noF
              refine store_ok (X := X.suite a ((a, oe4) :: (X.pn ++ pins))) (v := .ref a) S4 hN hi (.inl hln) rfl (fun z5 S5 => ?_) (.inr hln)
              refine wpAny_mono ((hsu a oe4 cls d (X.pn ++ pins) hz4 ⟨_, hd4⟩).run [] z5 _ Y' _ S5 (hyes rfl a na)) (fun f z6 hsp => ?_) (fun _ _ q => False.elim q)
              have end_ : ∀ {τ6 : St} {Y6 : Hp} {Q : Shared → Prop}, Inv (X.suite a ((a, oe4) :: (X.pn ++ pins))) [] τ6 Y6 z6 → (∀ z7, Inv X pins (τ6.set i none) Y6 z7 → Q z7) →
                  wpAny (model X.prog X.w) X.A (do bindName X.env n .none; unbindBehindTheSuite X.env n pos') (fun _ z7 => Q z7) X.xe z6 := fun {τ6 Y6 Q} S6 hq => gone_ok (S6.unsuite ok) hN hi hln hq
              cases f with
              | next => obtain ⟨τ6, Y6, S6, q6⟩ := hsp; exact end_ S6 fun z7 J7 => ⟨_, _, J7, q6⟩
              | brk => obtain ⟨τ6, Y6, S6, q6⟩ := hsp; exact end_ S6 fun z7 J7 => ⟨_, _, J7, q6⟩
              | cont => obtain ⟨τ6, Y6, S6, q6⟩ := hsp; exact end_ S6 fun z7 J7 => ⟨_, _, J7, q6⟩
              | ret u => obtain ⟨v6, τ6, Y6, S6, r6, q6⟩ := hsp; exact end_ S6 fun z7 J7 => ⟨_, _, _, J7, r6, q6⟩
    exact go hh wish
  · cases f with
    | next => obtain ⟨τ', Y', J', q⟩ := hsp; exact wpAny_execs_nil ⟨τ', Y', J'.ofTry ok, q⟩
    | brk => obtain ⟨τ', Y', J', q⟩ := hsp; exact ⟨τ', Y', J'.ofTry ok, q⟩
    | cont => obtain ⟨τ', Y', J', q⟩ := hsp; exact ⟨τ', Y', J'.ofTry ok, q⟩
    | ret u => obtain ⟨v, τ', Y', J', r, q⟩ := hsp; exact ⟨v, τ', Y', J'.ofTry ok, r, q⟩
end
end Dz

set_option maxRecDepth 100000
set_option maxHeartbeats 4000000
/-! Part Zc: statements. -/
namespace Dz
open PySem L2
/-- __init__ of an own exception: each parameter becomes the field of its name -/
def initSp (C : Addr) (fl : List Str) : Sp := fun vs H Q E => ∃ a us, vs = V.ref a :: us ∧ us.length = fl.length ∧ H a = some (exo a C none) ∧ ∀ d H', H d = none → d ≠ a → H' a = some (exo a C (some d)) → H' d = some (exd d (fl.zip us).reverse) → (∀ b, b ≠ a → b ≠ d → H' b = H b) → Q .non H'
structure XOk (prog0 : Program) (w0 : World) (K0 : PySem.W.Frag) (mg0 : Str → Option Value) (base0 : Heap) (G : GI) (c : Nat) (x : Str) : Prop where
  mg : mg0 x = some (.ref (G.cls c))
  oex : OexC K0 (G.cls c)
  ini : ∃ fI fd ps, PySem.W.findIn K0 (.ref (G.cls c)) "__init__" = some (some (.ref fI)) ∧ PySem.W.typeIn K0 (.ref fI) = some (.type "function") ∧ FnOk prog0 w0 K0 mg0 base0 (L2.CX prog0 w0) 1 fI fd ps (initSp (G.cls c) (G.fld c)) ∧ Binds K0 fd ps []
  xf : XfC K0 (G.cls c)
  fno : ∀ f ∈ G.fld c, PySem.W.findIn K0 (.ref (G.cls c)) f = some none
  fl : (G.fld c).length ≤ 900
structure TopX (prog0 : Program) (w0 : World) (K0 : PySem.W.Frag) (mg0 : Str → Option Value) (base0 : Heap) (G : GI) (P : Prg) (D0 : Dat) : Prop where
  cls : ∀ (c : Nat) x, D0.clm[c]? = some x → XOk prog0 w0 K0 mg0 base0 G c x
  fld : ∀ c : Nat, G.fld c = (D0.flds[c]?).getD []
  exm : ∀ (c c' : Nat) x', c < P.ncls → D0.clm[c']? = some x' → PySem.W.exmOne K0 (.ref (G.cls c)) (.ref (G.cls c')) = some (decide (c = c'))
  nc : D0.clm.length = P.ncls
section
variable {G : GI} {P : Prg} {X : Cx} {T : List (Addr × Str)} {W : WX} {R R1 : RE} {env env1 : MEnv} {s s1 : MSt} {σ τ : St} {H H1 : Hp} {n : Nat} {D0 : Dat} {D : Ends}
variable {prog0 : Program} {w0 : World} {K0 : PySem.W.Frag} {mg0 : Str → Option Value} {base0 : Heap} {Γ : WEnv} {k : Nat}
theorem AftS.from {r : Res (Fl × MEnv)} (h : AftS G X T W R H D r) (e : Ext R H R1 H1) (hm : ∀ i, i < R.n → H (R.μ i) ≠ none) : AftS G X T W R1 H1 D r := by
  cases r with
  | ok fe s => exact fun R2 H2 σ2 env2 e2 S => h R2 H2 σ2 env2 (e.trans e2 hm) S
  | exc c fs s => exact fun R2 H2 σ2 env2 d us e2 S r q => h R2 H2 σ2 env2 d us (e.trans e2 hm) S r q
  | bad => exact h
theorem AftS.bind {γ δ : Type} {rel1 : RE → γ → δ → Prop} {r : Res γ} {f : γ → MSt → Res (Fl × MEnv)} (S : Sim G X T R env s σ H) (h : AftS G X T W R H D (r.bind f)) :
    Aft G X T W R env σ H rel1 (fun u H1 => ∃ R1 s1 v, Ext R H R1 H1 ∧ Sim G X T R1 env s1 σ H1 ∧ rel1 R1 v u ∧ AftS G X T W R1 H1 D (f v s1)) r := by
  cases r with
  | ok a s1 => exact fun R1 H1 b e S1 r => ⟨R1, s1, a, e, S1, r, AftS.from h e S.lies.there⟩
  | exc c fs s1 => exact fun R1 H1 d us e S1 r q => h R1 H1 σ env d us e S1 r q
  | bad => exact h
theorem sE_seq {m : ME} {f : MV → MSt → Res (Fl × MEnv)} (S : Sim G X T R env s σ H) (h : AftS G X T W R H D (((ev P n).e env m s).bind f)) :
    tE G P X T W n m σ H (fun u H1 => ∃ R1 s1 v, Ext R H R1 H1 ∧ Sim G X T R1 env s1 σ H1 ∧ RelM G R1 v u ∧ AftS G X T W R1 H1 D (f v s1)) := ⟨R, env, s, S, AftS.bind S h⟩
theorem sT_seq {m : ME} {f : Bool → MSt → Res (Fl × MEnv)} (S : Sim G X T R env s σ H) (h : AftS G X T W R H D (((ev P n).t env m s).bind f)) :
    tT G P X T W n m σ H (fun u H1 => ∃ R1 s1, Ext R H R1 H1 ∧ Sim G X T R1 env s1 σ H1 ∧ AftS G X T W R1 H1 D (f u s1)) :=
  ⟨R, env, s, S, Aft.imp (AftS.bind (rel1 := fun _ a b => a = b) S h) fun b H1 ⟨R1, s1, v, e, S1, q, k⟩ => by subst q; exact ⟨R1, s1, e, S1, k⟩⟩
/-- an end without a value -/
theorem AftS.nxt {s1 : MSt} (h : AftS G X T W R H D (.ok (.nxt, env) s1)) (S : Sim G X T R env s1 σ H) : D.nx σ H := h R H σ env (Ext.refl R H) S rfl
theorem AftS.ret {v : MV} {b : V} (h : AftS G X T W R H D (.ok (.ret v, env1) s)) (S : Sim G X T R env s σ H) (r : RelM G R v b) : D.rt b H := h R H σ env (Ext.refl R H) S b r
/-! ### stores -/
theorem sole_eq {t e : Expr} {l : Nat} {env : Env} : swapsWithSole [t] e l env = swapsWith e (some t) l env := rfl
theorem sole_off {t : Expr} {m : ME} {l : Nat} {env : Env} (h : noComp m = true) : swapsWithSole [t] (un m) l env = pure false := by rw [sole_eq]; exact sw_reg h _ _ _
theorem sw_cond {x : Str} {px pe : Pos} {elt : Expr} {gs : List Comprehension} {sc : Scope} {l : Nat} {env : Env} : ∃ b : Bool, swapsWith (.ListComp elt gs sc pe) (some (.Name x px)) l env = pure b ∧ (b = true → env.kindOf x = some .local) := by
  refine ⟨_, rfl, fun h => ?_⟩
  simp only [Bool.and_eq_true] at h
  exact eq_of_beq h.1.1.2
theorem s1_asgV {i : Nat} {x : Str} {px : Pos} {e : ME} {p : Pos} (C : Ctx prog0 w0 K0 mg0 base0 T Γ k X) (hg : wfG Γ (.var i x px) = true) (hr : reg e = true) (se : SE G P X T W n e)
    (hlc : ∀ fl elt tg src ifs sc cell pe, e = .lcm fl elt tg src ifs sc cell pe → ∀ m, n = m + 1 → Parts prog0 w0 K0 mg0 base0 T G P D0 m ∧ Ctx prog0 w0 K0 mg0 base0 T Γ m X ∧ LcOk D0 P Γ elt tg src ifs sc cell ∧ PI X (un tg) (un src) (tSrc G P X T W m src)) :
    S1 G P X T W n (.asg (.var i x px) e p) := by
  have use : ∀ D σ H, t1 G P X T W n (.asg (.var i x px) e p) D σ H → tAsg (tE G P X T W n e) (tGt G X T (.var i x px)) D σ H := fun D σ H ⟨R, env, s, S, q⟩ => by
    refine tE.mono (sE_seq S q) fun u H1 ⟨R1, s1, v, e1, S1, r1, k1⟩ => ⟨R1, env, s1, v, S1, r1, ?_⟩
    cases ha : asgV (.var i x px) v env s1 with
    | none => rw [ha] at k1; exact k1.elim
    | some es =>
      rw [ha] at k1
      exact fun σ' S' _ _ => AftS.nxt k1 S'
  have norm : swapsWithSole [.Name x px] (un e) p.line X.env = pure false → S1 G P X T W n (.asg (.var i x px) e p) := fun hs => by
    refine PS.imp (ps_asg (X := X) (tg := .Name x px) (pos := p) se (pg_tg C (.var i x px) hg) hs ?_ (by rfl)) use
    show swappedStores [.Name x px] (un e) X.env = pure none
    cases e <;> first | rfl | (cases hr; done)
  have alt : noComp e = true → S1 G P X T W n (.asg (.var i x px) e p) := fun h => norm (sole_off h)
  cases e with
  | lcm fl elt tg src ifs sc cell pe =>
    obtain ⟨b, hb, hloc⟩ := sw_cond (x := x) (px := px) (pe := pe) (elt := un elt) (gs := [⟨un tg, un src, unL ifs, 0⟩]) (sc := sc) (l := p.line) (env := X.env)
    cases b with
    | false => exact norm hb
    | true =>
      have hyl := hloc rfl
      have hN : X.N[i]? = some x := by
        unfold wfG at hg
        simp only [Bool.and_eq_true] at hg
        rw [C.N]; exact eq_of_beq hg.1.1
      cases n with
      | zero => exact ⟨fun pins s σ H D I ⟨R, env, s', S, q⟩ => q.elim⟩
      | succ m =>
        obtain ⟨hp, Cm, L, hi⟩ := hlc _ _ _ _ _ _ _ _ rfl m rfl
        refine PS.imp (ps_setBlk (X := X) (py := px) (pos := pe) (spos := p) C.calm (by rw [C.N]; exact C.nd) hN hyl hb hi (by rw [C.N, C.sc]; exact blkOk_by L.bc) (fsi_reg L.rs _) src_mono) fun D σ H ⟨R, env, s, S, q⟩ => ?_
        have hi' : i < σ.length := by rw [S.nlen]; exact (List.getElem?_eq_some_iff.mp hN).1
        show tBlk X sc (tgOwn tg) (un elt) (un tg) (unL ifs) (tSrc G P X T W m src) σ H (fun y H1 => D.nx (σ.set i (some y)) H1)
        have q2 := AftS.bind (rel1 := RelM G) S q
        have q3 : Aft G X T W R env σ H (RelM G) (fun y H1 => D.nx (σ.set i (some y)) H1) ((ev P (m + 1)).e env (.lcm fl elt tg src ifs sc cell pe) s) := Aft.imp q2 fun u H1 ⟨R1, s1, v, e1, S1, r1, k1⟩ => by
          have k1 : AftS G X T W R1 H1 D (match setV env i v s1 with
            | some es => .ok (.nxt, es.1) es.2
            | none => .bad) := by
            have : (match asgV (.var i x px) v env s1 with
              | some (env, s) => Res.ok (Fl.nxt, env) s
              | none => .bad) = match setV env i v s1 with
              | some es => .ok (.nxt, es.1) es.2
              | none => .bad := by
              show (match setV env i v s1 with
                | some (env, s) => Res.ok (Fl.nxt, env) s
                | none => .bad) = _
              cases setV env i v s1 <;> rfl
            rw [← this]; exact k1
          cases ha : setV env i v s1 with
          | none => rw [ha] at k1; exact k1.elim
          | some es =>
            rw [ha] at k1
            exact AftS.nxt k1 (S1.set (env1 := es.1) (s1 := es.2) ha r1 hi')
        exact lc_use Cm hp L S q3 fun R1 s0 H1 xs s1 S1 k1 R2 Y us Da hD e l t r hY hF ha => new_list (s2 := cutTo s1.refs.length s0 s1) S1 rfl k1 hD e l t r hY hF ha
  | star _ _ => cases hr
  | nev _ => cases hr
  | _ => exact alt rfl
theorem s1_asgT {es : List ME} {kk : Nat} {pt p : Pos} {e : ME} (C : Ctx prog0 w0 K0 mg0 base0 T Γ k X) (hg : wfG Γ (.tup es kk pt) = true) (hr : reg e = true) (hn : noComp e = true) (ht : isTupM e = false) (se : SE G P X T W n e) : S1 G P X T W n (.asg (.tup es kk pt) e p) := by
  refine PS.imp (ps_asg (X := X) (tg := un (.tup es kk pt)) (pos := p) se (pg_tg (G := G) C (.tup es kk pt) hg) (sole_off hn) ?_ (by rw [assign_each hg]; rfl)) fun D σ H ⟨R, env, s, S, q⟩ => ?_
  · show swappedStores [.Tuple (unL es) kk pt] (un e) X.env = pure none
    cases e <;> first | rfl | (cases hr; done) | (cases ht; done)
  · refine tE.mono (sE_seq S q) fun u H1 ⟨R1, s1, v, e1, S1, r1, k1⟩ => ⟨R1, env, s1, v, S1, r1, ?_⟩
    cases ha : asgV (.tup es kk pt) v env s1 with
    | none => rw [ha] at k1; exact k1.elim
    | some es =>
      rw [ha] at k1
      exact fun σ' S' _ _ => AftS.nxt k1 S'
theorem putAt_inv {o i v : MV} {s s1 : MSt} (h : putAt env o i v s = some s1) : ∃ a j xs jj, o = .ref a ∧ i = .int j ∧ s.refs[a]? = some (.lst xs) ∧ ixN xs.length j = some jj ∧ s1 = setRef a (.lst (xs.set jj v)) s := by
  cases o <;> first
    | (cases h; done)
    | (cases i <;> first
        | (cases h; done)
        | (rename_i a j
           have h : (match s.refs[a]? with
             | some (.lst xs) => (L2.ixN xs.length j).map fun n => setRef a (.lst (xs.set n v)) s
             | _ => none) = some s1 := h
           cases e : s.refs[a]? with
           | none => rw [e] at h; cases h
           | some o =>
             rw [e] at h
             cases o <;> first
               | (cases h; done)
               | (rename_i xs
                  cases q : L2.ixN xs.length j with
                  | none => dsimp only at h; rw [q] at h; cases h
                  | some jj => dsimp only at h; rw [q] at h; exact ⟨a, j, xs, jj, rfl, rfl, e, q, (Option.some.inj h).symm⟩)))
theorem s1_asS {o i e : ME} {p1 p : Pos} (hr : reg e = true) (hn : noComp e = true) (ri : reg i = true) (se : SE G P X T W n e) (so : SE G P X T W n o) (si : SE G P X T W n i) : S1 G P X T W n (.asS o i e p1 p) := by
  refine PS.imp (ps_asg (X := X) (tg := .Subscript (un o) (un i) p1) (pos := p) se (pg_sub so si set_list (by intro v; cases i <;> first | rfl | (cases ri; done))) (sole_off hn) ?_ (by rfl)) fun D σ H ⟨R, env, s, S, q⟩ => ?_
  · show swappedStores [.Subscript (un o) (un i) p1] (un e) X.env = pure none
    cases e <;> first | rfl | (cases hr; done)
  · refine tE.mono (sE_seq S q) fun u H1 ⟨R1, s1, v, e1, S1, r1, k1⟩ => ?_
    refine tE.mono (sE_seq S1 k1) fun uo H2 ⟨R2, s2, vo, e2, S2, r2, k2⟩ => ?_
    refine tE.mono (sE_seq S2 k2) fun ui H3 ⟨R3, s3, vi, e3, S3, r3, k3⟩ => ?_
    have k3 : AftS G X T W R3 H3 D (match putAt env vo vi v s3 with
      | some s => .ok (.nxt, env) s
      | none => .bad) := k3
    cases hp : putAt env vo vi v s3 with
    | none => rw [hp] at k3; exact k3.elim
    | some s4 =>
      rw [hp] at k3
      obtain ⟨a, j, xs, jj, rfl, rfl, hx, hj, rfl⟩ := putAt_inv hp
      have r2' := r2.later e3 S2.lies.f0
      obtain ⟨hi, _, w, hw, rw'⟩ := S3.lies.ref hx
      cases r2'
      cases r3
      cases rw' with
      | lst rs =>
          refine ⟨_, _, j, jj, rfl, rfl, hw, by rw [← rs.length]; exact hj, ?_⟩
          have rv := (r1.later e2 S1.lies.f0).later e3 S2.lies.f0
          exact AftS.nxt (AftS.from k3 (Ext.wrS S3.lies hi).ext S3.lies.there) (S3.lift (Ext.wrS S3.lies hi) (S3.lies.wr1 hi (.lst (rs.set rv jj))) rfl)
/-! ### simple ones -/
theorem s1_exp {e : ME} {p : Pos} (hn : noComp e = true) (se : SE G P X T W n e) : S1 G P X T W n (.exp e p) :=
  PS.imp (ps_expr (pos := p) se (sw_reg hn _ _ _)) fun D σ H ⟨R, env, s, S, q⟩ => tE.mono (sE_seq S q) fun u H1 ⟨R1, s1, v, e1, S1, r1, k1⟩ => AftS.nxt k1 S1
theorem s1_ret {e : ME} {p : Pos} (se : SE G P X T W n e) : S1 G P X T W n (.ret e p) :=
  PS.imp (ps_ret (pos := p) se) fun D σ H ⟨R, env, s, S, q⟩ => tE.mono (sE_seq S q) fun u H1 ⟨R1, s1, v, e1, S1, r1, k1⟩ => AftS.ret k1 S1 r1
theorem s1_retN {p : Pos} : S1 G P X T W n (.retN p) := PS.imp (ps_retN (pos := p)) fun D σ H ⟨R, env, s, S, q⟩ => AftS.ret q S .non
theorem s1_pas {p : Pos} : S1 G P X T W n (.pas p) := PS.imp (ps_pass (pos := p)) fun D σ H ⟨R, env, s, S, q⟩ => AftS.nxt q S
theorem s1_brk {p : Pos} : S1 G P X T W n (.brk p) := PS.imp (ps_break (pos := p)) fun D σ H ⟨R, env, s, S, q⟩ => q R H σ env (Ext.refl R H) S rfl
theorem s1_con {p : Pos} : S1 G P X T W n (.con p) := PS.imp (ps_continue (pos := p)) fun D σ H ⟨R, env, s, S, q⟩ => q R H σ env (Ext.refl R H) S rfl
theorem s1_iff {t : ME} {a b : List MS} {p : Pos} (st : ST G P X T W n t) (ha : SB G P X T W n a) (hb : SB G P X T W n b) : S1 G P X T W n (.iff t a b p) :=
  PS.imp (ps_if (pos := p) st ha hb) fun D σ H ⟨R, env, s, S, q⟩ => tT.mono (sT_seq S q) fun c H1 ⟨R1, s1, e1, S1, k1⟩ => by
    cases c with
    | true => exact ⟨R1, env, s1, S1, k1⟩
    | false => exact ⟨R1, env, s1, S1, k1⟩
theorem s1_nev {st : Stmt} : S1 G P X T W n (.nev st) := PS.imp (ps_never (X := X) (st := st)) fun D σ H ⟨R, env, s, S, q⟩ => q.elim
/-! ### loops -/
/-- a body's end in a loop -/
theorem body_end {r : Res (Fl × MEnv)} {g : MEnv → MSt → Res (Fl × MEnv)} {N : St → Hp → Prop} (S : Sim G X T R env s σ H) (h : AftS G X T W R H D (r.bind fun fe s => match fe.1 with
      | .nxt => g fe.2 s
      | .con => g fe.2 s
      | .brk => .ok (.nxt, fe.2) s
      | .ret v => .ok (.ret v, fe.2) s)) (hN : ∀ R1 H1 σ1 env1 s1, Ext R H R1 H1 → Sim G X T R1 env1 s1 σ1 H1 → AftS G X T W R1 H1 D (g env1 s1) → N σ1 H1) : AftS G X T W R H { D with nx := N, ct := N, bk := D.nx } r := by
  cases r with
  | bad => exact h
  | exc c fs s1 => exact h
  | ok fe s1 =>
    obtain ⟨fl, env2⟩ := fe
    intro R1 H1 σ1 env1 e1 S1
    cases fl with
    | nxt => intro q; have q : env1 = env2 := q; subst q; exact hN R1 H1 σ1 env1 s1 e1 S1 (AftS.from (show AftS G X T W R H D (g env1 s1) from h) e1 S.lies.there)
    | con => intro q; have q : env1 = env2 := q; subst q; exact hN R1 H1 σ1 env1 s1 e1 S1 (AftS.from (show AftS G X T W R H D (g env1 s1) from h) e1 S.lies.there)
    | brk => intro q; have q : env1 = env2 := q; subst q; exact AftS.nxt (AftS.from (show AftS G X T W R H D (.ok (.nxt, env1) s1) from h) e1 S.lies.there) S1
    | ret v =>
      intro b r
      have h2 : AftS G X T W R1 H1 D (.ok (.ret v, env2) s1) := AftS.from (show AftS G X T W R H D (.ok (.ret v, env2) s1) from h) e1 S.lies.there
      exact (show D.rt b H1 from h2 R1 H1 σ1 env1 (Ext.refl _ _) S1 b r)
theorem s1_whl {t : ME} {b : List MS} {p : Pos} (po : PassesOwn (model X.prog X.w) X.A X.env X.xe) (st : ST G P X T W n t) (hb : SB G P X T W n b) : S1 G P X T W n (.whl t b p) := by
  refine PS.imp (ps_while (pos := p) po st hb) fun D σ H ⟨R, env, s, S, q⟩ => ?_
  refine ⟨fun m σ H => ∃ R env s, Sim G X T R env s σ H ∧ AftS G X T W R H D (whlLoop (fun env s => (ev P n).t env t s) (fun env s => (ev P n).s env b s) m env s), ⟨LW, R, env, s, S, q⟩, ?_⟩
  rintro m σ H ⟨R, env, s, S, q⟩
  cases m with
  | zero => exact q.elim
  | succ m =>
    unfold whlLoop at q
    refine tT.mono (sT_seq S q) fun c H1 ⟨R1, s1, e1, S1, k1⟩ => ?_
    cases c with
    | false =>
      rw [if_neg Bool.false_ne_true] at k1 ⊢
      exact AftS.nxt k1 S1
    | true =>
      rw [if_pos rfl] at k1 ⊢
      refine ⟨fun σ' H' => ∃ R env s, Sim G X T R env s σ' H' ∧ AftS G X T W R H' D (whlLoop (fun env s => (ev P n).t env t s) (fun env s => (ev P n).s env b s) m env s), fun σ' H' h => ⟨m, Nat.lt_succ_self m, h⟩, R1, env, s1, S1, ?_⟩
      exact body_end (g := fun env s => whlLoop (fun env s => (ev P n).t env t s) (fun env s => (ev P n).s env b s) m env s) S1 k1 fun R2 H2 σ2 env2 s2 _ S2 k2 => ⟨R2, env2, s2, S2, k2⟩
theorem s1_for {tg src : ME} {b : List MS} {p : Pos} (C : Ctx prog0 w0 K0 mg0 base0 T Γ k X) (po : PassesOwn (model X.prog X.w) X.A X.env X.xe) (hg : wfG Γ tg = true) (rs : reg src = true) (hi : PI X (un tg) (un src) (tSrc G P X T W n src)) (hb : SB G P X T W n b) : S1 G P X T W n (.for tg src b p) := by
  refine PS.imp (ps_for (pos := p) po C.calm hi (pg_tg (G := G) C tg hg) hb (fsi_reg rs _)) fun D σ H ⟨R, env, s, S, q⟩ => ?_
  refine ⟨R, env, s, S, Aft.imp (AftS.bind (rel1 := fun R1 src J => SrcI G X.K R1 src J) S q) fun J H1 ⟨R1, s1, sr, e1, S1, r1, k1⟩ => ?_⟩
  refine ⟨fun i m σ H => ∃ R env s, Sim G X T R env s σ H ∧ SrcI G X.K R sr J ∧ AftS G X T W R H D (forLoop sr (fun x env s => match asgV tg x env s with
    | some (env, s) => (ev P n).s env b s
    | none => .bad) m i env s), ⟨LW, R1, env, s1, S1, r1, k1⟩, ?_⟩
  rintro i m σ H ⟨R, env, s, S, r, q⟩
  cases m with
  | zero => exact q.elim
  | succ m =>
    unfold forLoop at q
    cases hnx : sr.next s i with
    | none => rw [hnx] at q; exact q.elim
    | some o =>
      rw [hnx] at q
      cases o with
      | none => exact .inl ⟨next_stop r S.lies hnx, AftS.nxt q S⟩
      | some x =>
        obtain ⟨hgo, hy⟩ := next_go r S.lies hnx
        refine .inr ⟨hgo, fun σ H => ∃ R env s, Sim G X T R env s σ H ∧ SrcI G X.K R sr J ∧ AftS G X T W R H D (forLoop sr (fun x env s => match asgV tg x env s with
          | some (env, s) => (ev P n).s env b s
          | none => .bad) m (i + 1) env s), fun σ' H' h => ⟨m, Nat.lt_succ_self m, h⟩, fun v H' hyl => ?_⟩
        obtain ⟨R2, e2, l2, rx⟩ := hy v H' hyl
        have S2 := S.lift e2 l2 rfl
        refine ⟨R2, env, s, x, S2, rx, ?_⟩
        dsimp only at q
        cases ha : asgV tg x env s with
        | none => rw [ha] at q; exact q.elim
        | some es =>
          obtain ⟨env1, s1⟩ := es
          rw [ha] at q
          intro σ3 S3 _ _
          refine ⟨R2, env1, s1, S3, ?_⟩
          refine body_end (g := fun env s => forLoop sr (fun x env s => match asgV tg x env s with
            | some (env, s) => (ev P n).s env b s
            | none => .bad) m (i + 1) env s) S3 (AftS.from q e2.ext S.lies.there) fun R4 H4 σ4 env4 s4 e4 S4 k4 => ⟨R4, env4, s4, S4, ?_, k4⟩
          exact (r.later e2.ext S.lies.f0).later e4 S3.lies.f0
end
end Dz

set_option maxRecDepth 100000
set_option maxHeartbeats 4000000
/-! Part Zd: raise, try, all statements, all fuels. -/
namespace Dz
open PySem L2
section
variable {G : GI} {P : Prg} {X : Cx} {T : List (Addr × Str)} {W : WX} {R R1 : RE} {env env1 : MEnv} {s s1 : MSt} {σ τ : St} {H H1 : Hp} {n : Nat} {D0 : Dat} {D : Ends}
variable {prog0 : Program} {w0 : World} {K0 : PySem.W.Frag} {mg0 : Str → Option Value} {base0 : Heap} {Γ : WEnv} {k : Nat}
theorem listE_len {f : ME → MSt → Res MV} : ∀ {ms : List ME} {s s1 : MSt} {xs : List MV}, regs ms = true → listE f ms s = .ok xs s1 → xs.length = ms.length
  | [], s, s1, xs, _, h => by cases h; rfl
  | m :: r, s, s1, xs, hr, h => by
    have hr' := Bool.and_eq_true_iff.mp (show (reg m && regs r) = true from hr)
    rw [listE_reg hr'.1] at h
    cases e : f m s with
    | bad => rw [e] at h; cases h
    | exc c fs s2 => rw [e] at h; cases h
    | ok x s2 =>
      rw [e] at h
      have h : (listE f r s2).bind (fun ys s => .ok (x :: ys) s) = .ok xs s1 := h
      cases q : listE f r s2 with
      | bad => rw [q] at h; cases h
      | exc c fs s3 => rw [q] at h; cases h
      | ok ys s3 =>
        rw [q] at h
        cases h
        rw [List.length_cons, List.length_cons, listE_len hr'.2 q]
theorem s1_rai {c : Nat} {x : Str} {as : List ME} {p1 p2 p : Pos} (C : Ctx prog0 w0 K0 mg0 base0 T Γ n X) (tk : Takes X W) (TX : TopX prog0 w0 K0 mg0 base0 G P D0) (hg : glB Γ.sc x = true) (hx : D0.clm[c]? = some x) (ra : regs as = true) (hne : as ≠ []) (hl : as.length = (G.fld c).length)
    (ha : ∀ m ∈ as, SE G P X T W n m) : S1 G P X T W n (.rai c x as p1 p2 p) := by
  have O := TX.cls c x hx
  obtain ⟨fI, fd, ps, i1, i2, F, hb⟩ := O.ini
  obtain ⟨g1, g2⟩ := gl_of C hg
  cases as with
  | nil => exact absurd rfl hne
  | cons m r =>
    have ra' := Bool.and_eq_true_iff.mp (show (reg m && regs r) = true from ra)
    have nev : Passes (L2.CX X.prog X.w) X (fun _ _ _ => False) := fun pins σ H s e s' I hc => by
      obtain ⟨_, _, _, _, _, _, _, _, _, _, _, _, q⟩ := hc
      exact q.elim
    refine PS.imp (ps_raise (pos := p) C.calm tk (pmk_oex (X := X) (CX := L2.CX X.prog X.w) (x := x) (C := G.cls c) (fI := fI) (k := 1) (fd := fd) (ps := ps) (sp := initSp (G.cls c) (G.fld c)) (ds := []) (dvs := []) (p := p1) (pos := p2) (by rw [C.K]; exact O.oex) (by rw [C.K]; exact i1) (by rw [C.K]; exact i2)
      (by rw [C.prog, C.w, C.K, C.mg, C.base]; exact F) (C.room.mono (by omega)) (by rw [C.K]; exact hb) .nil nev g1 (by rw [C.mg]; exact O.mg) (sa_list (T := T) (W := W) ra ha) g2 (star_reg ra'.1 _ _) (any_reg ra'.2 _ _))) fun D σ H ⟨R, env, s, S, q⟩ => ?_
    have q : AftS G X T W R H D ((listE ((ev P n).e env) (m :: r) s).bind fun xs s => .exc c xs s) := q
    cases e : listE ((ev P n).e env) (m :: r) s with
    | bad => rw [e] at q; exact q.elim
    | exc c' fs s1 =>
      rw [e] at q
      refine ⟨R, env, s, S, ?_⟩
      rw [e]
      exact fun R1 H1 d us e1 S1 r1 hd => q R1 H1 σ env d us e1 S1 r1 hd
    | ok xs s1 =>
      have hlen := listE_len ra e
      rw [e] at q
      refine ⟨R, env, s, S, ?_⟩
      rw [e]
      intro R1 H1 vs e1 S1 r1
      have lv : vs.length = (G.fld c).length := by rw [← r1.length, hlen, hl]
      refine ⟨by rw [lv]; have := O.fl; omega, fun a hna => ?_⟩
      rw [List.append_nil]
      refine ⟨a, vs, rfl, lv, upd_same, fun d H' hd hda h1 h2 h3 => ⟨rfl, d, _, h1, h2, ?_, ?_⟩⟩
      · rw [upd_ne hda] at hd; exact hd
      · have hd1 : H1 d = none := by rw [upd_ne hda] at hd; exact hd
        have eH : upd (del H' a) d (.xd ((G.fld c).zip vs).reverse) = upd H1 d (.xd ((G.fld c).zip vs).reverse) := by
          funext b
          by_cases q1 : b = d
          · rw [q1, upd_same, upd_same]
          · rw [upd_ne q1, upd_ne q1]
            by_cases q2 : b = a
            · rw [q2, del_same, hna]
            · rw [del_ne q2, h3 b q2 q1, upd_ne q2]
        rw [eH]
        have ek := Ext.keep (R := R1) (H := H1) (o := .xd ((G.fld c).zip vs).reverse) hd1
        exact q R1 _ σ env d vs (e1.trans ek.ext S.lies.there) (S1.lift ek (S1.lies.keep hd1) rfl) r1 upd_same
/-! ### what a handler tells -/
theorem zip_lookV : ∀ {ps : List Str} {us : List V} {i : Nat} {x : Str} {u : V}, ps.Nodup → ps[i]? = some x → us[i]? = some u → (ps.zip us).reverse.lookup x = some u
  | [], _, _, _, _, _, h, _ => by simp at h
  | _ :: _, [], _, _, _, _, _, h => by simp at h
  | p :: ps, v :: us, 0, x, u, nd, h1, h2 => by
    have h1 : some p = some x := h1
    have h2 : some v = some u := h2
    cases h1
    cases h2
    have hn : (ps.zip us).reverse.lookup p = none := by
      cases e : (ps.zip us).reverse.lookup p with
      | none => rfl
      | some w => exact absurd (List.of_mem_zip (List.mem_reverse.mp (PySem.mem_of_lookup e))).1 (List.nodup_cons.mp nd).1
    rw [List.zip_cons_cons, List.reverse_cons, List.lookup_append, hn]
    simp [List.lookup]
  | p :: ps, v :: us, i + 1, x, u, nd, h1, h2 => by
    have e : (ps.zip us).reverse.lookup x = some u := zip_lookV (i := i) (List.nodup_cons.mp nd).2 h1 h2
    rw [List.zip_cons_cons, List.reverse_cons, List.lookup_append, e]
    rfl
/-- the state in a handler -/
def HdAt (G : GI) (Γ : WEnv) (c : Nat) (nm : Option Str) (a : Addr) (cls : Value) (d : Option Addr) (R : RE) (s : MSt) (fs : List MV) (us : List V) (σ : St) (H : Hp) : Prop :=
  Lies G R s H ∧ RelMs G R fs us ∧ cls = .ref (G.cls c) ∧ (∃ dd, d = some dd ∧ H dd = some (.xd ((G.fld c).zip us).reverse)) ∧ ∀ (i : Nat) x, nm = some x → Γ.N[i]? = some x → σ[i]? = some (some (.ref a))
def tHd (G : GI) (Γ : WEnv) (c : Nat) (nm : Option Str) (a : Addr) (cls : Value) (d : Option Addr) (e : ME) : TE := fun σ H Q => ∃ R s fs us v, HdAt G Γ c nm a cls d R s fs us σ H ∧ hdV fs e = some v ∧ VQ G R H v s Q
def tHds (G : GI) (Γ : WEnv) (c : Nat) (nm : Option Str) (a : Addr) (cls : Value) (d : Option Addr) (es : List ME) : TA := fun σ H Q => ∃ R s fs us vs, HdAt G Γ c nm a cls d R s fs us σ H ∧ hdV.go fs es = some vs ∧ ∀ R1 H1 bs, ExtS R H R1 H1 → Lies G R1 s H1 → RelMs G R1 vs bs → Q bs H1
theorem HdAt.later {c : Nat} {nm : Option Str} {a : Addr} {cls : Value} {d : Option Addr} {fs : List MV} {us : List V} (h : HdAt G Γ c nm a cls d R s fs us σ H) (e : ExtS R H R1 H1) (l : Lies G R1 s H1) : HdAt G Γ c nm a cls d R1 s fs us σ H1 := by
  obtain ⟨h1, h2, h3, ⟨dd, h4, h5⟩, h6⟩ := h
  refine ⟨l, h2.later e.ext h1.f0, h3, ⟨dd, h4, e.ext.kp dd _ h5 (fun i hi q => ?_) fun ps q => by cases q⟩, h6⟩
  have hh : i < s.refs.length := by rw [h1.nr]; exact hi
  obtain ⟨_, u, e1, r⟩ := h1.rf i s.refs[i] (by simp [hh])
  rw [← q, h5] at e1
  cases e1
  generalize s.refs[i] = o at r
  cases r
theorem ExtS.trans {R2 : RE} {H2 : Hp} (a : ExtS R H R1 H1) (b : ExtS R1 H1 R2 H2) (hm : ∀ i, i < R.n → H (R.μ i) ≠ none) : ExtS R H R2 H2 :=
  ⟨a.ext.trans b.ext hm, fun c ps h => b.tb c ps (a.tb c ps h), b.ce.trans a.ce, b.ck.trans a.ck⟩
theorem hd_reg {c : Nat} {nm : Option Str} {e : ME} (h : hdE D0 Γ c nm e = true) : reg e = true := by
  cases e <;> first | rfl | (cases h; done)
theorem hdGo_len {fs : List MV} : ∀ {es : List ME} {vs : List MV}, hdV.go fs es = some vs → vs.length = es.length
  | [], vs, h => by cases h; rfl
  | e :: r, vs, h => by
    have h : (match hdV fs e, hdV.go fs r with
      | some x, some xs => some (x :: xs)
      | _, _ => none) = some vs := h
    cases g1 : hdV fs e with
    | none => rw [g1] at h; cases h
    | some v =>
      cases g2 : hdV.go fs r with
      | none => rw [g1, g2] at h; cases h
      | some ws =>
        rw [g1, g2] at h
        cases h
        rw [List.length_cons, List.length_cons, hdGo_len g2]
mutual
theorem pe_hd {c : Nat} {nm : Option Str} {a : Addr} {oe : Obj} {cls : Value} {d : Option Addr} {pn : List (Addr × Obj)} (C : Ctx prog0 w0 K0 mg0 base0 T Γ k X) (TX : TopX prog0 w0 K0 mg0 base0 G P D0) (hc : c < P.ncls) (hz : Zc cls d oe) (hf : ∃ vs, oe.data = .fields vs) :
    ∀ e : ME, hdE D0 Γ c nm e = true → PE (X.suite a ((a, oe) :: pn)) (un e) (tHd G Γ c nm a cls d e)
  | .cst v cc j p, h => by
    have h : cstOk v cc = true := h
    cases v <;> cases cc <;> try (exact Bool.noConfusion (show false = true from h))
    · refine PE.imp pe_non fun σ H Q ⟨R, s, fs, us, v, A, e, q⟩ => ?_
      cases e
      exact q.here A.1 .non
    · have e0 : _ = _ := eq_of_beq h
      subst e0
      refine PE.imp pe_bl fun σ H Q ⟨R, s, fs, us, v, A, e, q⟩ => ?_
      cases e
      exact q.here A.1 (.bl _)
    · have e0 : _ = _ := eq_of_beq h
      subst e0
      refine PE.imp pe_int fun σ H Q ⟨R, s, fs, us, v, A, e, q⟩ => ?_
      cases e
      exact q.here A.1 (.int _)
    · have e0 : _ = _ := eq_of_beq h
      subst e0
      refine PE.imp pe_str fun σ H Q ⟨R, s, fs, us, v, A, e, q⟩ => ?_
      cases e
      exact q.here A.1 (by have := RelM.str (G := G) (R := R) (Str.cps ‹_›).toList; simpa using this)
  | .xfl i x f kk p1 p, h => by
    unfold hdE at h
    simp only [Bool.and_eq_true, decide_eq_true_eq, Bool.not_eq_true'] at h
    obtain ⟨⟨⟨⟨⟨⟨h1, h2⟩, h3⟩, h4⟩, h5⟩, h6⟩, h7⟩ := h
    have hN : X.N[i]? = some x := by rw [C.N]; exact atB_of h4
    have hl : X.env.scope.names.lookup x = some .local := by rw [C.sc]; exact isK_of h5
    have fc : G.fld c = (D0.flds[c]?).getD [] := TX.fld c
    have hcx : c < D0.clm.length := by rw [TX.nc]; exact hc
    have O := TX.cls c _ (List.getElem?_eq_getElem hcx)
    have hfm : f ∈ G.fld c := by rw [fc]; exact List.mem_of_getElem? (eq_of_beq h2)
    have pv : PE (X.suite a ((a, oe) :: pn)) (.Name x p1) _ := pe_var (X := X.suite a ((a, oe) :: pn)) (i := i) hN (.inl hl) h6 h7
    refine PE.imp (pe_xf (X := X) (C := G.cls c) (pos := p) (by rw [C.K]; exact O.xf) (by rw [C.K]; exact O.fno f hfm) hz hf pv (by rfl)) fun σ H Q ⟨R, s, fs, us, v, ⟨A1, A2, A3, ⟨dd, A4, A5⟩, A6⟩, e, q⟩ => ?_
    have e : fs[kk]? = some v := e
    obtain ⟨u, hu, ru⟩ := A2.get e
    refine ⟨.ref a, A6 i x (eq_of_beq h1) (atB_of h4), rfl, A3, dd, _, u, A4, A5, ?_, q.here A1 ru⟩
    exact zip_lookV (by rw [fc]; exact h3) (by rw [fc]; exact eq_of_beq h2) hu
  | .tup es kk p, h => by
    obtain ⟨h, hlen⟩ := Bool.and_eq_true_iff.mp (show (hdEs D0 Γ c nm es && decide (es.length ≤ 100)) = true from h)
    refine PE.imp (pe_tup (pa_hd C TX hc hz hf es h)) fun σ H Q ⟨R, s, fs, us, v, A, e, q⟩ => ?_
    have e : (hdV.go fs es).map MV.tup = some v := e
    cases g : hdV.go fs es with
    | none => rw [g] at e; cases e
    | some vs =>
      rw [g] at e
      cases e
      refine ⟨R, s, fs, us, vs, A, g, fun R1 H1 bs e1 l1 r1 => ⟨?_, fun b hb => ?_⟩⟩
      · rw [← r1.length, hdGo_len g, ← SZ_eq]
        exact Nat.le_trans (of_decide_eq_true hlen) (by decide)
      · refine VQ.tuple (R := R1) (fun R2 H2 b2 e2 l2 r2 => q R2 H2 b2 (e1.trans e2 A.1.there) l2 r2) l1 r1 b hb
  | .var .., h | .gfn .., h | .gct .., h | .bin .., h | .neg .., h | .notE .., h | .andE .., h | .orE .., h | .cmp .., h | .chn .., h | .isN .., h | .tyS .., h | .isi .., h | .ife .., h | .lst .., h | .star .., h
  | .dic .., h | .sub .., h | .slc .., h | .call .., h | .callk .., h | .blt .., h | .mth .., h | .cal .., h | .lam .., h | .lcm .., h | .allC .., h | .itm .., h | .zip .., h | .enm .., h | .rng .., h | .nev .., h => by cases h
theorem pa_hd {c : Nat} {nm : Option Str} {a : Addr} {oe : Obj} {cls : Value} {d : Option Addr} {pn : List (Addr × Obj)} (C : Ctx prog0 w0 K0 mg0 base0 T Γ k X) (TX : TopX prog0 w0 K0 mg0 base0 G P D0) (hc : c < P.ncls) (hz : Zc cls d oe) (hf : ∃ vs, oe.data = .fields vs) :
    ∀ es : List ME, hdEs D0 Γ c nm es = true → PA (X.suite a ((a, oe) :: pn)) (unL es) (tHds G Γ c nm a cls d es)
  | [], _ => PA.imp pa_nil fun σ H Q ⟨R, s, fs, us, vs, A, e, q⟩ => by
    cases e
    exact q R H [] (ExtS.refl R H) A.1 .nil
  | m :: r, h => by
    obtain ⟨a1, a2⟩ := Bool.and_eq_true_iff.mp (show (hdE D0 Γ c nm m && hdEs D0 Γ c nm r) = true from h)
    refine PA.imp (pa_cons (pe_hd C TX hc hz hf m a1) (pa_hd C TX hc hz hf r a2) (star_reg (hd_reg a1) _ _)) fun σ H Q ⟨R, s, fs, us, vs, A, e, q⟩ => ?_
    have e : (match hdV fs m, hdV.go fs r with
      | some x, some xs => some (x :: xs)
      | _, _ => none) = some vs := e
    cases g1 : hdV fs m with
    | none => rw [g1] at e; cases e
    | some v =>
      cases g2 : hdV.go fs r with
      | none => rw [g1, g2] at e; cases e
      | some ws =>
        rw [g1, g2] at e
        cases e
        refine ⟨R, s, fs, us, v, A, g1, fun R1 H1 b e1 l1 r1 => ?_⟩
        refine ⟨R1, s, fs, us, ws, A.later e1 l1, g2, fun R2 H2 bs e2 l2 r2 => ?_⟩
        exact q R2 H2 (b :: bs) (e1.trans e2 A.1.there) l2 (.cons (r1.later e2.ext l1.f0) r2)
end
/-! ### try -/
abbrev Hd := Nat × Str × Pos × Option Str × ME × Pos × Pos
def clOf (G : GI) (Γ : WEnv) : Hd → Cl
  | (c, _, _, nm, e, _, _) => (.ref (G.cls c), nm.map fun n => Γ.N.idxOf n, fun a cls d => tRet (tHd G Γ c nm a cls d e))
theorem cl_ok (C : Ctx prog0 w0 K0 mg0 base0 T Γ k X) (TX : TopX prog0 w0 K0 mg0 base0 G P D0) : ∀ (hs : List Hd), (∀ h ∈ hs, hdB D0 Γ h = true ∧ hdE D0 Γ h.1 h.2.2.2.1 h.2.2.2.2.1 = true) → ClOk X (hs.map hdOf) (hs.map (clOf G Γ))
  | [], _ => .nil
  | (c, x, p1, nm, e, p2, p3) :: r, h => by
    obtain ⟨h1, h2⟩ := h _ List.mem_cons_self
    unfold hdB at h1
    simp only [Bool.and_eq_true] at h1
    obtain ⟨⟨g1, g2⟩, g3⟩ := h1
    have hx : D0.clm[c]? = some x := eq_of_beq g2
    have hc : c < P.ncls := by rw [← TX.nc]; exact (List.getElem?_eq_some_iff.mp hx).1
    obtain ⟨q1, q2⟩ := gl_of C g1
    refine .cons ⟨q1, q2, .inl (by rw [C.mg]; exact (TX.cls c x hx).mg)⟩ ?_ (fun a oe cls d pn hz hf => pss_one (ps_ret (pe_hd C TX hc hz hf e h2))) (cl_ok C TX r fun h' hm => h h' (List.mem_cons_of_mem _ hm))
    cases nm with
    | none => trivial
    | some n =>
      obtain ⟨z1, z2⟩ := Bool.and_eq_true_iff.mp (show (isK Γ.sc n .local && Γ.N.contains n) = true from g3)
      refine ⟨?_, by have := isK_of z1; rw [← C.sc] at this; exact this⟩
      rw [C.N]
      have hm : n ∈ Γ.N := List.contains_iff_mem.mp z2
      rw [List.getElem?_eq_getElem (List.idxOf_lt_length_of_mem hm)]
      exact congrArg some (List.getElem_idxOf (List.idxOf_lt_length_of_mem hm))
theorem idx_nodup {N : List Str} {i : Nat} {x : Str} (nd : N.Nodup) (h : N[i]? = some x) : N.idxOf x = i := by
  have hm : x ∈ N := List.mem_of_getElem? h
  have h2 : N[N.idxOf x]? = some x := by
    rw [List.getElem?_eq_getElem (List.idxOf_lt_length_of_mem hm)]
    exact congrArg some (List.getElem_idxOf (List.idxOf_lt_length_of_mem hm))
  exact nodup_ix nd h2 h
theorem wish_of {c : Nat} {fs : List MV} {d : Addr} {us : List V} (C : Ctx prog0 w0 K0 mg0 base0 T Γ k X) (TX : TopX prog0 w0 K0 mg0 base0 G P D0) (hc : c < P.ncls) (S : Sim G X T R env1 s σ H) (rs : RelMs G R fs us) (hd : H d = some (.xd ((G.fld c).zip us).reverse)) :
    ∀ (hs : List Hd), (∀ h ∈ hs, hdB D0 Γ h = true) → (match hdsV c fs hs with
      | some (some v) => ∀ b H1 R1, ExtS R H R1 H1 → Lies G R1 s H1 → RelM G R1 v b → D.rt b H1
      | some none => W (.ref (G.cls c)) (some d) σ H
      | none => False) → wCl X.K W D (hs.map (clOf G Γ)) (.ref (G.cls c)) (some d) σ H
  | [], _, h => h
  | (c', x, p1, nm, e, p2, p3) :: r, hb, h => by
    have h1 := hb _ List.mem_cons_self
    unfold hdB at h1
    simp only [Bool.and_eq_true] at h1
    obtain ⟨⟨g1, g2⟩, g3⟩ := h1
    have ex := TX.exm c c' x hc (eq_of_beq g2)
    rw [← C.K] at ex
    have ih := wish_of C TX hc S rs hd r fun h' hm => hb h' (List.mem_cons_of_mem _ hm)
    have h : (match (if c' = c then (hdV fs e).map some else hdsV c fs r) with
      | some (some v) => ∀ b H1 R1, ExtS R H R1 H1 → Lies G R1 s H1 → RelM G R1 v b → D.rt b H1
      | some none => W (.ref (G.cls c)) (some d) σ H
      | none => False) := h
    -- the clause taken
    have yes : ∀ (τ : St) (D' : Ends), D'.rt = D.rt → decide (c = c') = true → ∀ a, (∀ (i : Nat) x, nm = some x → Γ.N[i]? = some x → τ[i]? = some (some (.ref a))) → tRet (tHd G Γ c' nm a (.ref (G.cls c)) (some d) e) D' τ H := fun τ D' hD hcc a hτ => by
      have hcc : c = c' := of_decide_eq_true hcc
      subst hcc
      rw [if_pos rfl] at h
      cases g : hdV fs e with
      | none => rw [g] at h; exact h.elim
      | some v =>
        rw [g] at h
        have h : ∀ b H1 R1, ExtS R H R1 H1 → Lies G R1 s H1 → RelM G R1 v b → D.rt b H1 := h
        refine ⟨R, s, fs, us, v, ⟨S.lies, rs, rfl, ⟨d, rfl, hd⟩, hτ⟩, g, fun R1 H1 b e1 l1 r1 => ?_⟩
        rw [hD]
        exact h b H1 R1 e1 l1 r1
    have no : decide (c = c') = false → wCl X.K W D (r.map (clOf G Γ)) (.ref (G.cls c)) (some d) σ H := fun hcc => by
      have ne : c' ≠ c := fun q => (of_decide_eq_false hcc) q.symm
      rw [if_neg ne] at h
      exact ih h
    cases nm with
    | none => exact ⟨_, ex, fun hb a _ => yes σ D rfl hb a fun i x q => (by cases q), no⟩
    | some nn =>
      refine ⟨_, ex, fun hb a _ => yes _ (goneD _ D) rfl hb a fun i x q hN => ?_, no⟩
      cases q
      have hi : Γ.N.idxOf nn = i := idx_nodup C.nd hN
      show (σ.set (Γ.N.idxOf nn) (some (V.ref a)))[i]? = _
      rw [hi]
      exact List.getElem?_set_self (by rw [S.nlen, C.N]; exact (List.getElem?_eq_some_iff.mp hN).1)
theorem Sim.toTr {pn : List (Addr × Obj)} {xe : Value → Shared → Prop} (S : Sim G X T R env s σ H) : Sim G (X.tr pn xe) T R env s σ H :=
  ⟨S.lies, S.loc, S.len, S.nlen, S.cel, S.cinj, S.cfr, S.out, S.tab⟩
theorem Sim.ofTr {pn : List (Addr × Obj)} {xe : Value → Shared → Prop} (S : Sim G (X.tr pn xe) T R env s σ H) : Sim G X T R env s σ H :=
  ⟨S.lies, S.loc, S.len, S.nlen, S.cel, S.cinj, S.cfr, S.out, S.tab⟩
theorem s1_try {b : List MS} {hs : List Hd} {p : Pos} (SC : SCtx prog0 w0 K0 mg0 base0 T Γ n X W) (TX : TopX prog0 w0 K0 mg0 base0 G P D0) (hb : ∀ (X : Cx) (Γ : WEnv) (W : WX), SCtx prog0 w0 K0 mg0 base0 T Γ n X W → ∀ b, WFB D0 P Γ b → SB G P X T W n b) (wb : WFB D0 P Γ b)
    (hne : hs ≠ []) (hw : ∀ h ∈ hs, hdB D0 Γ h = true ∧ hdE D0 Γ h.1 h.2.2.2.1 h.2.2.2.2.1 = true) : S1 G P X T W n (.try1 b hs p) := by
  cases hs with
  | nil => exact absurd rfl hne
  | cons h0 hr =>
    have C := SC.ctx
    have ok := cl_ok (G := G) (P := P) C TX (h0 :: hr) hw
    refine PS.imp (ps_try_cl (X := X) (pos := p) (tb := fun V => tB G P X T V n b) SC.stk SC.frm (by rw [C.N]; exact C.nd) SC.tk (fun V pn xe tk po => ?_) ok) fun D σ H ⟨R, env, s, S, q⟩ => ?_
    · have h := hb (X.tr pn xe) Γ V ⟨⟨C.prog, C.w, C.K, C.mg, C.base, C.N, C.sc, C.q, C.nd, C.room, C.calm, C.own, C.lam⟩, SC.stk, SC.frm, tk, po⟩ b wb
      refine ⟨fun pins s σ H D I ⟨R, env, s', S, q⟩ => h.run pins s σ H D I ⟨R, env, s', S.toTr, ?_⟩⟩
      cases e : (ev P n).s env b s' with
      | bad => rw [e] at q; exact q
      | ok fe s1 => rw [e] at q; exact fun R1 H1 σ1 env1 e1 S1 => q R1 H1 σ1 env1 e1 S1.ofTr
      | exc c fs s1 => rw [e] at q; exact fun R1 H1 σ1 env1 d us e1 S1 => q R1 H1 σ1 env1 d us e1 S1.ofTr
    · refine ⟨R, env, s, S, ?_⟩
      have q : AftS G X T W R H D (match (ev P n).s env b s with
        | .exc c fs s => if c < P.ncls then match hdsV c fs (h0 :: hr) with
          | some (some v) => .ok (.ret v, env) s
          | some none => .exc c fs s
          | none => .bad else .bad
        | x => x) := q
      cases e : (ev P n).s env b s with
      | bad => rw [e] at q; exact q
      | ok fe s1 => rw [e] at q; exact q
      | exc c fs s1 =>
        rw [e] at q
        dsimp only at q
        by_cases hc : c < P.ncls
        · rw [if_pos hc] at q
          intro R1 H1 σ1 env1 d us e1 S1 r1 hd
          refine wish_of (s := s1) C TX hc S1 r1 hd (h0 :: hr) (fun h hm => (hw h hm).1) ?_
          cases g : hdsV c fs (h0 :: hr) with
          | none => rw [g] at q; exact q.elim
          | some o =>
            rw [g] at q
            cases o with
            | none => exact q R1 H1 σ1 env1 d us e1 S1 r1 hd
            | some v => exact fun b H2 R2 e2 l2 r2 => q R2 H2 σ1 env1 (e1.trans e2.ext S.lies.there) (S1.lift e2 l2 rfl) b r2
        · rw [if_neg hc] at q
          exact q.elim
/-! ### all statements, all fuels -/
def Bodies (prog0 : Program) (w0 : World) (K0 : PySem.W.Frag) (mg0 : Str → Option Value) (base0 : Heap) (T : List (Addr × Str)) (G : GI) (P : Prg) (D0 : Dat) (n : Nat) : Prop := ∀ (X : Cx) (Γ : WEnv) (W : WX), SCtx prog0 w0 K0 mg0 base0 T Γ n X W → ∀ b, WFB D0 P Γ b → SB G P X T W n b
theorem s1_all (Tp : Top prog0 w0 K0 mg0 base0 T G P D0) (TX : TopX prog0 w0 K0 mg0 base0 G P D0) (hn : ∀ k, k ≤ n → Parts prog0 w0 K0 mg0 base0 T G P D0 k) (hb : Bodies prog0 w0 K0 mg0 base0 T G P D0 n) (SC : SCtx prog0 w0 K0 mg0 base0 T Γ n X W) : ∀ m, WFS D0 P Γ m → S1 G P X T W n m := by
  intro m ⟨h, l⟩
  have C := SC.ctx
  have tk := SC.tk
  obtain ⟨se, st⟩ := hn n (Nat.le_refl _) X Γ W C tk
  have sb := hb X Γ W SC
  have fr : Free X := fun x hx => by rw [C.mg]; exact Tp.free x hx
  cases m with
  | asg tg e p =>
    unfold wfS at h
    simp only [Bool.and_eq_true, Bool.or_eq_true] at h
    obtain ⟨⟨h1, h2⟩, h3⟩ := h
    rcases h3 with ⟨g1, g2⟩ | ⟨⟨⟨g1, g2⟩, g3⟩, g4⟩
    · cases tg <;> (try (cases g2; done))
      refine s1_asgV (D0 := D0) C g1 h2 (se e ⟨h1, l⟩) fun fl elt tg src ifs sc cell pe q m hm => ?_
      subst q
      have Cm := C.mono (show m ≤ n by omega)
      have hp := hn m (by omega)
      unfold wfE at h1
      simp only [Bool.and_eq_true, Bool.or_eq_true, Bool.not_eq_true', decide_eq_true_eq] at h1
      obtain ⟨⟨⟨⟨⟨⟨⟨⟨h1, h2⟩, h3⟩, h4⟩, h5⟩, h6⟩, h7⟩, h8⟩, h9⟩ := h1
      exact ⟨hp, Cm, lc_ok h1 h4 h5 h6 h7 h8 h9 (lamHold.right l), src_pi Cm fr (hp X Γ W Cm tk).1 ⟨h2, lamHold.left l⟩ h3 h4⟩
    · cases tg <;> (try (cases g2; done))
      exact s1_asgT C g1 h2 g4 (by simpa using g3) (se e ⟨h1, l⟩)
  | asS o i e p1 p =>
    unfold wfS at h
    simp only [Bool.and_eq_true] at h
    obtain ⟨⟨⟨⟨⟨⟨h1, h2⟩, h3⟩, h4⟩, h5⟩, h6⟩, h7⟩ := h
    exact s1_asS h5 h4 h7 (se e ⟨h1, lamHold.left l⟩) (se o ⟨h2, lamHold.left (lamHold.right l)⟩) (se i ⟨h3, lamHold.right (lamHold.right l)⟩)
  | exp e p =>
    unfold wfS at h
    simp only [Bool.and_eq_true] at h
    obtain ⟨⟨h1, h2⟩, h3⟩ := h
    exact s1_exp h2 (se e ⟨h1, l⟩)
  | ret e p =>
    obtain ⟨h1, h2⟩ := Bool.and_eq_true_iff.mp h
    exact s1_ret (se e ⟨h1, l⟩)
  | retN p => exact s1_retN
  | iff t a b p =>
    unfold wfS at h
    simp only [Bool.and_eq_true] at h
    obtain ⟨⟨h1, h2⟩, h3⟩ := h
    exact s1_iff (st t ⟨h1, lamHold.left l⟩) (sb a ⟨h2, lamHold.left (lamHold.right l)⟩) (sb b ⟨h3, lamHold.right (lamHold.right l)⟩)
  | «for» tg src b p =>
    unfold wfS at h
    simp only [Bool.and_eq_true, Bool.or_eq_true, Bool.not_eq_true'] at h
    obtain ⟨⟨⟨⟨h1, h2⟩, h3⟩, h4⟩, h5⟩ := h
    exact s1_for C SC.po h4 h3 (src_pi C fr se ⟨h1, lamHold.left l⟩ h2 h3) (sb b ⟨h5, lamHold.right l⟩)
  | whl t b p =>
    obtain ⟨h1, h2⟩ := Bool.and_eq_true_iff.mp h
    exact s1_whl SC.po (st t ⟨h1, lamHold.left l⟩) (sb b ⟨h2, lamHold.right l⟩)
  | brk p => exact s1_brk
  | con p => exact s1_con
  | pas p => exact s1_pas
  | rai c x as p1 p2 p =>
    unfold wfS at h
    simp only [Bool.and_eq_true, Bool.not_eq_true'] at h
    obtain ⟨⟨⟨⟨⟨h1, h2⟩, h3⟩, h4⟩, h5⟩, h6⟩ := h
    exact s1_rai C tk TX h1 (eq_of_beq h2) h4 (fun q => by rw [q] at h5; cases h5) (by rw [TX.fld]; exact eq_of_beq h6) fun m hm => se m (WF.each h3 l m hm)
  | try1 b hs p =>
    unfold wfS at h
    simp only [Bool.and_eq_true, Bool.not_eq_true'] at h
    obtain ⟨⟨h1, h2⟩, h3⟩ := h
    refine s1_try SC TX hb ⟨h1, l⟩ (fun q => by rw [q] at h2; cases h2) fun hh hm => ?_
    exact Bool.and_eq_true_iff.mp (List.all_eq_true.mp h3 hh hm)
  | nev s => exact s1_nev
theorem bodies_step (Tp : Top prog0 w0 K0 mg0 base0 T G P D0) (TX : TopX prog0 w0 K0 mg0 base0 G P D0) (hn : ∀ k, k ≤ n → Parts prog0 w0 K0 mg0 base0 T G P D0 k) (hb : Bodies prog0 w0 K0 mg0 base0 T G P D0 n) : Bodies prog0 w0 K0 mg0 base0 T G P D0 (n + 1) := by
  intro X Γ W SC1 b hw
  have C := SC1.ctx
  have SC : SCtx prog0 w0 K0 mg0 base0 T Γ n X W := ⟨C.mono (Nat.le_succ n), SC1.stk, SC1.frm, SC1.tk, SC1.po⟩
  have one := s1_all Tp TX hn hb SC
  have key : ∀ b, (∀ m ∈ b, WFS D0 P Γ m) → SB G P X T W (n + 1) b := fun b => by
    induction b with
    | nil =>
      intro _
      exact ⟨fun pins s σ H D I ⟨R, env, s', S, q⟩ => pss_nil.run pins s σ H D I (AftS.nxt q S)⟩
    | cons m r ih =>
      intro hw
      refine ⟨fun pins s σ H D I ⟨R, env, s', S, q⟩ => (pss_cons (one m (hw m List.mem_cons_self)) (ih fun m' hm => hw m' (List.mem_cons_of_mem _ hm))).run pins s σ H D I ⟨R, env, s', S, ?_⟩⟩
      have q : AftS G X T W R H D ((stm P.ncls (ev P n) env m s').bind fun fe s => match fe.1 with
        | .nxt => blk (stm P.ncls (ev P n)) fe.2 r s
        | _ => .ok fe s) := q
      cases e : stm P.ncls (ev P n) env m s' with
      | bad => rw [e] at q; exact q
      | exc c fs s1 => rw [e] at q; exact q
      | ok fe s1 =>
        rw [e] at q
        obtain ⟨fl, env2⟩ := fe
        intro R1 H1 σ1 env1 e1 S1
        cases fl with
        | nxt =>
          intro hq
          have hq : env1 = env2 := hq
          subst hq
          exact ⟨R1, env1, s1, S1, AftS.from (show AftS G X T W R H D (blk (stm P.ncls (ev P n)) env1 r s1) from q) e1 S.lies.there⟩
        | ret v => exact q R1 H1 σ1 env1 e1 S1
        | brk => exact q R1 H1 σ1 env1 e1 S1
        | con => exact q R1 H1 σ1 env1 e1 S1
  exact key b (WFB.each hw)
/-- THE RULE: the evaluator's word holds of the program -/
theorem sound (Tp : Top prog0 w0 K0 mg0 base0 T G P D0) (TX : TopX prog0 w0 K0 mg0 base0 G P D0) : ∀ n, (∀ k, k ≤ n → Parts prog0 w0 K0 mg0 base0 T G P D0 k) ∧ FS prog0 w0 K0 mg0 base0 T G P n ∧ CS prog0 w0 K0 mg0 base0 T G P n ∧ Bodies prog0 w0 K0 mg0 base0 T G P D0 n := by
  intro n
  induction n with
  | zero =>
    refine ⟨fun k hk => ?_, fun f a _ A outer sh H us vs xs Q E R s _ _ _ _ _ _ _ h => h.elim, fun v a A outer sh H us vs xs Q E R s _ _ _ _ _ _ _ _ h => h.elim, fun X Γ W _ b _ => ⟨fun pins s σ H D I ⟨R, env, s', S, q⟩ => q.elim⟩⟩
    obtain rfl : k = 0 := by omega
    exact fun X Γ W _ _ => ⟨fun m _ => bad_se fun _ _ => rfl, fun m _ => bad_st fun _ _ => rfl⟩
  | succ n ih =>
    obtain ⟨h1, h2, h3, h4⟩ := ih
    have p1 : Parts prog0 w0 K0 mg0 base0 T G P D0 (n + 1) := fun X Γ W C tk => ⟨parts_e Tp (h1 n (Nat.le_refl _)) h2 h3 C tk, parts_t Tp h1 C tk⟩
    refine ⟨fun k hk => ?_, fs_step Tp.fns h4, clo_step Tp.lok h2 fun X Γ W C tk => (h1 n (Nat.le_refl _) X Γ W C tk).1, bodies_step Tp TX h1 h4⟩
    by_cases q : k = n + 1
    · rw [q]; exact p1
    · exact h1 k (by omega)
end
end Dz

set_option maxRecDepth 100000
set_option maxHeartbeats 4000000
/-! Part Ze: the law's entry: a parameter that the readings do not see; two new lists. -/
namespace Dz
open PySem L2
section
variable {G : GI} {P : Prg} {X : Cx} {T : List (Addr × Str)} {R R1 : RE} {env : MEnv} {s s1 : MSt} {σ : St} {H H1 : Hp}
/-- a name that is no cell is forgotten, it stands for whatever there is -/
theorem Sim.hide {i : Nat} {u : V} (S : Sim G X T R env s σ H) (hc : ∀ id : Nat, env.cel[i]? ≠ some (some id)) : Sim G X T R { env with loc := env.loc.set i none } s (σ.set i (some u)) H := by
  refine ⟨S.lies, fun j v h => ?_, by rw [List.length_set, List.length_set]; exact S.len, by rw [List.length_set]; exact S.nlen, S.cel, S.cinj, S.cfr, S.out, S.tab⟩
  have ne : j ≠ i := by
    intro q
    subst q
    have h : (match env.cel[j]? with
      | some (some id) => (s.cells[id]?).join
      | _ => ((env.loc.set j none)[j]?).join) = some v := h
    split at h
    · rename_i id e; exact hc id e
    · rw [List.getElem?_set] at h
      simp only [if_true] at h
      split at h <;> cases h
  have e : getV { env with loc := env.loc.set i none } j s = getV env j s := by
    unfold getV
    simp only [List.getElem?_set_ne (Ne.symm ne)]
  rw [e] at h
  obtain ⟨w, h1, h2⟩ := S.loc j v h
  exact ⟨w, by rw [List.getElem?_set_ne (Ne.symm ne)]; exact h1, h2⟩
/-- a new ref -/
theorem Sim.ref1 {p : Addr} {o : MO} {u : HO} (S : Sim G X T R env s σ H) (hp : H p = none) (r : RelO G R o u) : Sim G X T (R.rf p) env { s with refs := s.refs ++ [o] } σ (upd H p u) ∧ RelM G (R.rf p) (.ref s.refs.length) (.ref p) := by
  refine ⟨S.lift (Ext.rfS S.lies hp) (S.lies.rf1 hp r) rfl, ?_⟩
  have q : (R.rf p).μ s.refs.length = p := if_pos S.lies.nr
  have q2 := RelM.ref (G := G) (R := R.rf p) (i := s.refs.length) (by rw [S.lies.nr]; exact Nat.lt_succ_self _)
  rw [q] at q2; exact q2
end
end Dz

set_option maxRecDepth 100000
set_option maxHeartbeats 4000000
/-! Part Zf: a law: its first statement makes the stream, the rest is the evaluator's. -/
namespace Dz
open PySem L2
/-- what the law's stream is: two lists, both new -/
def spStream (K : PySem.W.Frag) : Sp := fun vs H Q _ => ∃ (a : Addr) (ns : List Int), vs = [.ref a] ∧ SqL K H a (ns.map V.int) ∧
  ∀ p q : Addr, H p = none → upd H p (.lst (ns.map V.int)) q = none → Q (.ref q) (upd (upd H p (.lst (ns.map V.int))) q (.lst [.ref p, .int 0, .int 0, .int 17]))
def stS (ns : List Int) (m : Nat) : MSt := ⟨[.lst (ns.map .int), .lst [.ref 0, .int 0, .int 0, .int 17]], List.replicate m none⟩
def lawSp (K : PySem.W.Frag) (T : List (Addr × Str)) : Sp := fun vs H Q _ => ∃ (a : Addr) (ns : List Int), vs = [.ref a] ∧ SqL K H a (ns.map V.int) ∧ ns.length ≤ 63 ∧ LamX.Tabs T H ∧ ∀ H', Q (.bl true) H'
section
variable {prog0 : Program} {w0 : World} {K0 : PySem.W.Frag} {mg0 : Str → Option Value} {base0 : Heap} {T : List (Addr × Str)} {G : GI} {P : Prg} {D : Dat}
theorem ints_rel {R : RE} : ∀ ns : List Int, RelMs G R (ns.map MV.int) (ns.map V.int)
  | [] => .nil
  | a :: r => .cons (.int a) (ints_rel r)
theorem cells0 : ∀ cels : List Nat, 0 ∉ cels → (cels.map fun i => [MV.non][i]?) = List.replicate cels.length none
  | [], _ => rfl
  | 0 :: r, h => absurd (List.mem_cons_self) h
  | (i + 1) :: r, h => by
    show none :: _ = none :: _
    rw [cells0 r fun z => h (List.mem_cons_of_mem _ z)]
theorem law_fn {n : Nat} {d : FDef} {rest : List MS} {name qual : Str} {params : Arguments} {scope : Scope} {dV kV doc pm cdv ct oc : Value} {an od : Option Addr} {osl : Array (Option Value)} {N : List Str} {f fS : Addr} {fdS : FuncData} {p1 p2 p3 p4 p5 : Pos}
    (hbs : Bodies prog0 w0 K0 mg0 base0 T G P D n)
    (lk : K0.lookup f = some ⟨oc, od, .func (PySem.W.fnOf name qual params (.Assign [.Name "stream" p1] (.Call (.Name "_law_stream" p2) [.Name "script" p3] [] p4) p5 :: unB rest) scope dV kV doc pm an cdv ct), osl⟩) (hcd : PySem.W.codeIn K0 cdv qual = true)
    (sc : FnScope N ["script"] scope) (lam : Bool) (hN0 : N[0]? = some ("script" : Str)) (hN1 : N[1]? = some ("stream" : Str)) (hv0 : Vis scope "script") (hl1 : Loc scope "stream") (hgl : scope.names.lookup ("_law_stream" : Str) = some NameKind.globalImplicit)
    (nsl : N.length = d.nsl) (n2 : 2 ≤ d.nsl) (cels : ∀ i ∈ d.cels, ∃ x, N[i]? = some x ∧ scope.names.lookup x = some .cell) (cnd : d.cels.Nodup) (c0 : 0 ∉ d.cels) (c1 : 1 ∉ d.cels)
    (wf : WFB D P ⟨N, scope, fun _ => true, qual ++ ".<locals>.", lam⟩ rest)
    (hlam : lam = true → ∃ c Pt, cdv = .ref c ∧ LamX.TabB base0 mg0 c Pt ∧ (Pt, qual ++ ".<locals>." ++ "<lambda>") ∈ T ∧ ∀ p ∈ T, p.1 = Pt → p.2 = qual ++ ".<locals>." ++ "<lambda>")
    (FS : FnOk prog0 w0 K0 mg0 base0 CX0 1 fS fdS ["script"] (spStream K0)) (gS : mg0 "_law_stream" = some (.ref fS)) (kS : PySem.W.keepIn K0 (.ref fS) = true) (bS : Binds K0 fdS ["script"] [])
    (hev : ∀ ns : List Int, ns.length ≤ 63 → ∃ env' s', (ev P n).s ⟨none :: some (.ref 1) :: List.replicate (d.nsl - 2) none, cellsFor d.cels d.nsl 0, 0⟩ rest (stS ns d.cels.length) = .ok (.ret (.bl true), env') s') :
    FnOk prog0 w0 K0 mg0 base0 (L2.CX prog0 w0) (n + 3) f (PySem.W.fnOf name qual params (.Assign [.Name "stream" p1] (.Call (.Name "_law_stream" p2) [.Name "script" p3] [] p4) p5 :: unB rest) scope dV kV doc pm an cdv ct) ["script"] (lawSp K0 T) := by
  refine ⟨fun vs H Q E ⟨a, ns, h, _⟩ => by rw [h]; rfl, fun A outer s H args us vs Q E hr e0 hb r ⟨a, ns, hvs, hS, hlen, hT, hQ⟩ => ?_⟩
  subst hvs
  refine LamX.run_ofS lk hcd sc hr e0 hb r rfl fun hr' => ?_
  have hl0 : Lies G ⟨fun _ => none, fun _ => 0, fun _ => 0, 0, 0⟩ ⟨[], []⟩ H := ⟨rfl, rfl, fun _ _ h => (nomatch h), fun i o h => absurd (show (none : Option MO) = some o from h) (fun z => by cases z), fun i _ h => absurd h (Nat.not_lt_zero i)⟩
  obtain ⟨κ', hκ, S⟩ := enter_sim (d := d) (qual := qual) (a := f) (cdv := cdv) (CX := L2.CX prog0 w0) (E := E) (vs := [.non]) (xs := [.non]) sc e0 hl0 hT (fun id h => absurd h (Nat.not_lt_zero id)) (.cons .non .nil) rfl nsl cels cnd
  have hX0 : (cxOf (L2.CX prog0 w0) prog0 w0 K0 mg0 base0 N qual scope f cdv A outer s H E).N[0]? = some ("script" : Str) := hN0
  have hX1 : (cxOf (L2.CX prog0 w0) prog0 w0 K0 mg0 base0 N qual scope f cdv A outer s H E).N[1]? = some ("stream" : Str) := hN1
  have sctx : SCtx prog0 w0 K0 mg0 base0 T ⟨N, scope, fun _ => true, qual ++ ".<locals>.", lam⟩ n (cxOf (L2.CX prog0 w0) prog0 w0 K0 mg0 base0 N qual scope f cdv A outer s H E) (fun cls d _ H => E cls d H) :=
    ⟨⟨rfl, rfl, rfl, rfl, rfl, rfl, rfl, rfl, sc.nd, hr', rfl, fun _ _ => rfl, hlam⟩, rfl, rfl, takes_of rfl rfl rfl rfl, passes_of rfl⟩
  refine ⟨_, pss_cons (ps_asg (pe_call FS (hr'.mono (by omega)) hgl gS kS bS .nil pass0 (pa_cons (pv 0 hX0 hv0) pa_nil)) (pg_name sc.nd hX1 hl1 (.inl rfl))) (hbs _ _ _ sctx rest wf), ?_⟩
  have hnl : N.length = (d.nsl - 2) + 2 := by omega
  refine ⟨_, rfl, a, ns, rfl, hS, fun p q hp hq => ?_⟩
  have hcell : ∀ i : Nat, i ∉ d.cels → ∀ id : Nat, (cellsFor d.cels d.nsl 0)[i]? ≠ some (some id) := fun i hi id h => by
    obtain ⟨_, j, _, hj⟩ := cellsFor_some h
    exact hi (List.mem_of_getElem? hj)
  have S0 := Sim.hide (i := 0) (u := .ref a) S (hcell 0 c0)
  obtain ⟨S1, r1⟩ := S0.ref1 (o := .lst (ns.map .int)) hp (.lst (ints_rel ns))
  have r1 : RelM G _ (.ref 0) (.ref p) := r1
  obtain ⟨S2, r2⟩ := S1.ref1 (o := .lst [.ref 0, .int 0, .int 0, .int 17]) hq (.lst (.cons r1 (.cons (.int 0) (.cons (.int 0) (.cons (.int 17) .nil)))))
  have r2 : RelM G _ (.ref 1) (.ref q) := r2
  obtain ⟨env', s', he⟩ := hev ns hlen
  obtain ⟨m, hm⟩ : ∃ m, d.nsl = m + 2 := ⟨d.nsl - 2, by omega⟩
  have es : ∀ (i : Nat) (σ : St), σ.length = N.length → i < N.length → i < σ.length := fun i σ h h2 => by omega
  have hset : setV { (enter d [.non] ⟨[], []⟩).1 with loc := (enter d [.non] ⟨[], []⟩).1.loc.set 0 none } 1 (.ref 1) ⟨[.lst (ns.map .int), .lst [.ref 0, .int 0, .int 0, .int 17]], [] ++ d.cels.map fun i => [MV.non][i]?⟩ =
      some (⟨none :: some (.ref 1) :: List.replicate (d.nsl - 2) none, cellsFor d.cels d.nsl 0, 0⟩, stS ns d.cels.length) := by
    unfold setV
    split
    · rename_i id e; exact absurd e (hcell 1 c1 id)
    · rw [cells0 _ c0]
      show some ((⟨((some MV.non :: List.replicate (d.nsl - 1) none).set 0 none).set 1 (some (.ref 1)), cellsFor d.cels d.nsl 0, 0⟩ : MEnv), _) = _
      rw [hm]
      rfl
  have S3 := S2.set (i := 1) (v := .ref 1) (u := .ref q) (env1 := ⟨none :: some (.ref 1) :: List.replicate (d.nsl - 2) none, cellsFor d.cels d.nsl 0, 0⟩) (s1 := stS ns d.cels.length) hset r2 (by rw [S2.nlen]; show 1 < N.length; omega)
  refine ⟨_, _, _, S3, ?_⟩
  rw [he]
  exact fun R1 H1 σ1 env1 _ _ b hb => by cases hb; exact hQ _
/-- the same, all refs forgotten behind the second statement -/
theorem law_fn2 {n : Nat} {d : FDef} {m2 : MS} {rest : List MS} {name qual : Str} {params : Arguments} {scope : Scope} {dV kV doc pm cdv ct oc : Value} {an od : Option Addr} {osl : Array (Option Value)} {N : List Str} {f fS : Addr} {fdS : FuncData} {p1 p2 p3 p4 p5 : Pos}
    (hbs : Bodies prog0 w0 K0 mg0 base0 T G P D n)
    (lk : K0.lookup f = some ⟨oc, od, .func (PySem.W.fnOf name qual params (.Assign [.Name "stream" p1] (.Call (.Name "_law_stream" p2) [.Name "script" p3] [] p4) p5 :: unM m2 :: unB rest) scope dV kV doc pm an cdv ct), osl⟩) (hcd : PySem.W.codeIn K0 cdv qual = true)
    (sc : FnScope N ["script"] scope) (lam : Bool) (hN0 : N[0]? = some ("script" : Str)) (hN1 : N[1]? = some ("stream" : Str)) (hv0 : Vis scope "script") (hl1 : Loc scope "stream") (hgl : scope.names.lookup ("_law_stream" : Str) = some NameKind.globalImplicit)
    (nsl : N.length = d.nsl) (n2 : 2 ≤ d.nsl) (cels : ∀ i ∈ d.cels, ∃ x, N[i]? = some x ∧ scope.names.lookup x = some .cell) (cnd : d.cels.Nodup) (c0 : 0 ∉ d.cels) (c1 : 1 ∉ d.cels)
    (h2 : ∀ (X : Cx) (W : WX), SCtx prog0 w0 K0 mg0 base0 T ⟨N, scope, fun _ => true, qual ++ ".<locals>.", lam⟩ n X W → S1 G P X T W n m2)
    (wf : WFB D P ⟨N, scope, fun _ => true, qual ++ ".<locals>.", lam⟩ rest)
    (hlam : lam = true → ∃ c Pt, cdv = .ref c ∧ LamX.TabB base0 mg0 c Pt ∧ (Pt, qual ++ ".<locals>." ++ "<lambda>") ∈ T ∧ ∀ p ∈ T, p.1 = Pt → p.2 = qual ++ ".<locals>." ++ "<lambda>")
    (FS : FnOk prog0 w0 K0 mg0 base0 CX0 1 fS fdS ["script"] (spStream K0)) (gS : mg0 "_law_stream" = some (.ref fS)) (kS : PySem.W.keepIn K0 (.ref fS) = true) (bS : Binds K0 fdS ["script"] [])
    (hev : ∀ ns : List Int, ns.length ≤ 63 → ∃ env1 s1 env' s', stm P.ncls (ev P n) ⟨none :: some (.ref 1) :: List.replicate (d.nsl - 2) none, cellsFor d.cels d.nsl 0, 0⟩ m2 (stS ns d.cels.length) = .ok (.nxt, env1) s1 ∧ (ev P n).s env1 rest { s1 with refs := s1.refs.map fun _ => MO.dead } = .ok (.ret (.bl true), env') s') :
    FnOk prog0 w0 K0 mg0 base0 (L2.CX prog0 w0) (n + 3) f (PySem.W.fnOf name qual params (.Assign [.Name "stream" p1] (.Call (.Name "_law_stream" p2) [.Name "script" p3] [] p4) p5 :: unM m2 :: unB rest) scope dV kV doc pm an cdv ct) ["script"] (lawSp K0 T) := by
  refine ⟨fun vs H Q E ⟨a, ns, h, _⟩ => by rw [h]; rfl, fun A outer s H args us vs Q E hr e0 hb r ⟨a, ns, hvs, hS, hlen, hT, hQ⟩ => ?_⟩
  subst hvs
  refine LamX.run_ofS lk hcd sc hr e0 hb r rfl fun hr' => ?_
  have hl0 : Lies G ⟨fun _ => none, fun _ => 0, fun _ => 0, 0, 0⟩ ⟨[], []⟩ H := ⟨rfl, rfl, fun _ _ h => (nomatch h), fun i o h => absurd (show (none : Option MO) = some o from h) (fun z => by cases z), fun i _ h => absurd h (Nat.not_lt_zero i)⟩
  obtain ⟨κ', hκ, S⟩ := enter_sim (d := d) (qual := qual) (a := f) (cdv := cdv) (CX := L2.CX prog0 w0) (E := E) (vs := [.non]) (xs := [.non]) sc e0 hl0 hT (fun id h => absurd h (Nat.not_lt_zero id)) (.cons .non .nil) rfl nsl cels cnd
  have hX0 : (cxOf (L2.CX prog0 w0) prog0 w0 K0 mg0 base0 N qual scope f cdv A outer s H E).N[0]? = some ("script" : Str) := hN0
  have hX1 : (cxOf (L2.CX prog0 w0) prog0 w0 K0 mg0 base0 N qual scope f cdv A outer s H E).N[1]? = some ("stream" : Str) := hN1
  have sctx : SCtx prog0 w0 K0 mg0 base0 T ⟨N, scope, fun _ => true, qual ++ ".<locals>.", lam⟩ n (cxOf (L2.CX prog0 w0) prog0 w0 K0 mg0 base0 N qual scope f cdv A outer s H E) (fun cls d _ H => E cls d H) :=
    ⟨⟨rfl, rfl, rfl, rfl, rfl, rfl, rfl, rfl, sc.nd, hr', rfl, fun _ _ => rfl, hlam⟩, rfl, rfl, takes_of rfl rfl rfl rfl, passes_of rfl⟩
  refine ⟨_, pss_cons (ps_asg (pe_call FS (hr'.mono (by omega)) hgl gS kS bS .nil pass0 (pa_cons (pv 0 hX0 hv0) pa_nil)) (pg_name sc.nd hX1 hl1 (.inl rfl))) (pss_cons (h2 _ _ sctx) (hbs _ _ _ sctx rest wf)), ?_⟩
  have hnl : N.length = (d.nsl - 2) + 2 := by omega
  refine ⟨_, rfl, a, ns, rfl, hS, fun p q hp hq => ?_⟩
  have hcell : ∀ i : Nat, i ∉ d.cels → ∀ id : Nat, (cellsFor d.cels d.nsl 0)[i]? ≠ some (some id) := fun i hi id h => by
    obtain ⟨_, j, _, hj⟩ := cellsFor_some h
    exact hi (List.mem_of_getElem? hj)
  have S0 := Sim.hide (i := 0) (u := .ref a) S (hcell 0 c0)
  obtain ⟨S1, r1⟩ := S0.ref1 (o := .lst (ns.map .int)) hp (.lst (ints_rel ns))
  have r1 : RelM G _ (.ref 0) (.ref p) := r1
  obtain ⟨S2, r2⟩ := S1.ref1 (o := .lst [.ref 0, .int 0, .int 0, .int 17]) hq (.lst (.cons r1 (.cons (.int 0) (.cons (.int 0) (.cons (.int 17) .nil)))))
  have r2 : RelM G _ (.ref 1) (.ref q) := r2
  obtain ⟨env1', s1', env', s', he1, he⟩ := hev ns hlen
  obtain ⟨m, hm⟩ : ∃ m, d.nsl = m + 2 := ⟨d.nsl - 2, by omega⟩
  have es : ∀ (i : Nat) (σ : St), σ.length = N.length → i < N.length → i < σ.length := fun i σ h h2 => by omega
  have hset : setV { (enter d [.non] ⟨[], []⟩).1 with loc := (enter d [.non] ⟨[], []⟩).1.loc.set 0 none } 1 (.ref 1) ⟨[.lst (ns.map .int), .lst [.ref 0, .int 0, .int 0, .int 17]], [] ++ d.cels.map fun i => [MV.non][i]?⟩ =
      some (⟨none :: some (.ref 1) :: List.replicate (d.nsl - 2) none, cellsFor d.cels d.nsl 0, 0⟩, stS ns d.cels.length) := by
    unfold setV
    split
    · rename_i id e; exact absurd e (hcell 1 c1 id)
    · rw [cells0 _ c0]
      show some ((⟨((some MV.non :: List.replicate (d.nsl - 1) none).set 0 none).set 1 (some (.ref 1)), cellsFor d.cels d.nsl 0, 0⟩ : MEnv), _) = _
      rw [hm]
      rfl
  have S3 := S2.set (i := 1) (v := .ref 1) (u := .ref q) (env1 := ⟨none :: some (.ref 1) :: List.replicate (d.nsl - 2) none, cellsFor d.cels d.nsl 0, 0⟩) (s1 := stS ns d.cels.length) hset r2 (by rw [S2.nlen]; show 1 < N.length; omega)
  refine ⟨_, _, _, S3, ?_⟩
  rw [he1]
  intro R1 H1 σ1 env1 _ S4 hq
  subst hq
  refine ⟨_, _, _, S4.forget, ?_⟩
  rw [he]
  exact fun R1 H1 σ1 env1 _ _ b hb => by cases hb; exact hQ _
end
end Dz
set_option maxRecDepth 100000
set_option maxHeartbeats 4000000
/-! Part T: the top's facts, from the head. -/
namespace Dz
open PySem L2
/-! ### a table of texts -/
def relTab : List DictEntry → List (Str × Str) → Bool
  | [], [] => true
  | e :: r, (k, v) :: s => (match e.key, e.val with
    | .str x _, .str y _ => decide (x = k) && decide (y = v)
    | _, _ => false) && relTab r s
  | _, _ => false
def tabC (K : PySem.W.Frag) (a : Addr) (kvs : List (Str × Str)) : Bool := match K.lookup a with
  | some ⟨_, _, .dict es _, _⟩ => relTab es.toList kvs
  | _ => false
def mkOf (kvs : List (Str × Str)) : List MKey := kvs.map fun p => .str p.1.cps.toList
def mvOf (kvs : List (Str × Str)) : List MV := kvs.map fun p => .str p.2.cps.toList
theorem isStr_eq {x n : Str} {t : Tok} : (Value.str x t).isStr n = (x == n) := rfl
theorem relTab_find : ∀ (l : List DictEntry) (kvs : List (Str × Str)) (z : List Nat), relTab l kvs = true →
    (match lookK (.str z) (mkOf kvs) (mvOf kvs) with
      | some v => ∃ e y t, l.find? (·.key.isStr ⟨z.toArray⟩) = some e ∧ e.val = .str y t ∧ v = .str y.cps.toList
      | none => l.find? (·.key.isStr ⟨z.toArray⟩) = none) ∧ l.any (·.refKey) = false
  | [], [], z, _ => ⟨rfl, rfl⟩
  | [], _ :: _, z, h => by cases h
  | _ :: _, [], z, h => by cases h
  | e :: r, (k, v) :: s, z, h => by
    obtain ⟨h1, h2⟩ := Bool.and_eq_true_iff.mp h
    obtain ⟨g1, g2⟩ := relTab_find r s z h2
    obtain ⟨eh, ek, ev⟩ := e
    dsimp only at h1
    split at h1
    · rename_i x tx y ty
      obtain ⟨a1, a2⟩ := Bool.and_eq_true_iff.mp h1
      have a1 := of_decide_eq_true a1
      have a2 := of_decide_eq_true a2
      subst a1 a2
      refine ⟨?_, ?_⟩
      · show match (if MKey.beq (.str x.cps.toList) (.str z) then some (MV.str y.cps.toList) else lookK (.str z) (mkOf s) (mvOf s)) with
          | some v => ∃ e y1 t, List.find? (·.key.isStr ⟨z.toArray⟩) (⟨eh, .str x tx, .str y ty⟩ :: r) = some e ∧ e.val = .str y1 t ∧ v = .str y1.cps.toList
          | none => List.find? (·.key.isStr ⟨z.toArray⟩) (⟨eh, .str x tx, .str y ty⟩ :: r) = none
        by_cases q : x.cps.toList = z
        · have hb : MKey.beq (.str x.cps.toList) (.str z) = true := by
            show (x.cps.toList == z) = true
            exact beq_iff_eq.mpr q
          rw [if_pos hb]
          refine ⟨⟨eh, .str x tx, .str y ty⟩, y, ty, ?_, rfl, rfl⟩
          rw [List.find?_cons]
          have : (Value.str x tx).isStr ⟨z.toArray⟩ = true := by
            rw [isStr_eq]
            subst q
            simp
          rw [this]
        · have hb : ¬ MKey.beq (.str x.cps.toList) (.str z) = true := fun w => q (beq_iff_eq.mp (show (x.cps.toList == z) = true from w))
          rw [if_neg hb]
          have e2 : (Value.str x tx).isStr ⟨z.toArray⟩ = false := by
            rw [isStr_eq]
            apply beq_eq_false_iff_ne.mpr
            intro w
            exact q (by rw [w])
          cases ql : lookK (.str z) (mkOf s) (mvOf s) with
          | some v2 =>
            rw [ql] at g1
            obtain ⟨e, y1, t1, f1, f2, f3⟩ := g1
            refine ⟨e, y1, t1, ?_, f2, f3⟩
            rw [List.find?_cons, e2]
            exact f1
          | none =>
            rw [ql] at g1
            show List.find? _ _ = none
            rw [List.find?_cons, e2]
            exact g1
      · rw [List.any_cons, g2]
        rfl
    · cases h1
theorem tabC_ok {K : PySem.W.Frag} {a : Addr} {kvs : List (Str × Str)} (h : tabC K a kvs = true) (G : GI) (z : List Nat) : match lookK (.str z) (mkOf kvs) (mvOf kvs) with
    | some v => ∃ u0 v0, PySem.W.nsIn K a ⟨z.toArray⟩ = some (some u0) ∧ RelV v0 u0 ∧ ∀ R, RelM G R v v0
    | none => PySem.W.nsIn K a ⟨z.toArray⟩ = some none := by
  unfold tabC at h
  cases q : K.lookup a with
  | none => rw [q] at h; cases h
  | some o =>
    obtain ⟨oc, od, dt, osl⟩ := o
    rw [q] at h
    cases dt with
    | dict es n =>
      obtain ⟨g1, g2⟩ := relTab_find es.toList kvs z h
      have en : ∀ nm, PySem.W.nsIn K a nm = (match es.toList.find? (·.key.isStr nm) with
        | some e => some (some e.val)
        | none => if es.toList.any (·.refKey) then none else some none) := fun nm => by
        unfold PySem.W.nsIn
        rw [q]
        rfl
      cases ql : lookK (.str z) (mkOf kvs) (mvOf kvs) with
      | some v =>
        rw [ql] at g1
        obtain ⟨e, y, t, f1, f2, f3⟩ := g1
        refine ⟨.str y t, .str y, ?_, ⟨t, rfl⟩, fun R => ?_⟩
        · rw [en, f1, ← f2]
        · rw [f3]
          have := RelM.str (G := G) (R := R) y.cps.toList
          simpa using this
      | none =>
        rw [ql] at g1
        show PySem.W.nsIn K a ⟨z.toArray⟩ = some none
        rw [en, show List.find? (fun x => x.key.isStr ⟨z.toArray⟩) es.toList = none from g1, g2]
        rfl
    | _ => cases h
/-! ### own exceptions -/
def clsB (K : PySem.W.Frag) (C : Addr) : Bool := match K.lookup C with
  | some ⟨.type c, _, .cls cd, sl⟩ => decide (c = "type") && (match cd.mro, sl.toList with
    | .ref C' :: bm, [_, _, _, _, some (.builtin n), _] => decide (C' = C) && (decide (n = "ValueError.__new__") && (!cd.hasDel && (cd.hasDict && PySem.HandSPX.refsVE bm)))
    | _, _ => false)
  | _ => false
theorem clsB_ok {K : PySem.W.Frag} {C : Addr} (h : clsB K C = true) : ∃ nm q N bs bm sn sub ab col dd k0 k1 k2 k3 k5, K.lookup C = some (excClassObj nm q C N bs bm true sn sub ab col dd k0 k1 k2 k3 k5 "ValueError.__new__") ∧ PySem.HandSPX.refsVE bm = true := by
  unfold clsB at h
  split at h
  · rename_i c dd cd sl ho
    obtain ⟨h0, h⟩ := Bool.and_eq_true_iff.mp h
    split at h
    · rename_i C' bm k0 k1 k2 k3 n k5 hm hs
      obtain ⟨h1, h⟩ := Bool.and_eq_true_iff.mp h
      obtain ⟨h2, h⟩ := Bool.and_eq_true_iff.mp h
      obtain ⟨h3, h⟩ := Bool.and_eq_true_iff.mp h
      obtain ⟨h4, h5⟩ := Bool.and_eq_true_iff.mp h
      have h0 := of_decide_eq_true h0
      have h1 := of_decide_eq_true h1
      have h2 := of_decide_eq_true h2
      have w3 : cd.hasDel = false := by
        cases q : cd.hasDel with
        | false => rfl
        | true => rw [q] at h3; cases h3
      subst h0 h1 h2
      obtain ⟨nm, bs, mro, ns, qn, hd, sn, sub, ab, col, del⟩ := cd
      dsimp only at hm w3 h4
      subst hm w3 h4
      have hsl : sl = #[k0, k1, k2, k3, some (.builtin "ValueError.__new__"), k5] := by
        obtain ⟨l⟩ := sl
        simp only at hs
        rw [hs]
      subst hsl
      exact ⟨_, _, _, _, _, _, _, _, _, _, _, _, _, _, _, ho, h5⟩
    · cases h
  · cases h
def oexB (K : PySem.W.Frag) (C : Addr) : Bool := clsB K C && (He.eqO (PySem.W.findIn K (.ref C) "__setattr__") (some (some (.builtin "object.__setattr__"))) && (decide (PySem.W.subIn K (.ref C) (.type "BaseException") = some true) &&
  (decide (PySem.W.typeIn K (.ref C) = some (.type "type")) && PySem.W.keepIn K (.ref C))))
theorem oexB_ok {K : PySem.W.Frag} {C : Addr} (h : oexB K C = true) : OexC K C := by
  obtain ⟨h1, h⟩ := Bool.and_eq_true_iff.mp h
  obtain ⟨h2, h⟩ := Bool.and_eq_true_iff.mp h
  obtain ⟨h3, h⟩ := Bool.and_eq_true_iff.mp h
  obtain ⟨h4, h5⟩ := Bool.and_eq_true_iff.mp h
  exact ⟨clsB_ok h1, He.eqO_ok h2, of_decide_eq_true h3, of_decide_eq_true h4, h5⟩
/-! ### their __init__ -/
section
variable {P : Program} {w : World} {K : PySem.W.Frag} {mg : Str → Option Value} {base : Heap} {CX : CXT} {x q : Str} {params : Arguments} {scope : Scope} {fI C : Addr} {fd : FuncData}
theorem visp {N ps : List Str} {sc : Scope} (S : FnScope N ps sc) {y : Str} (h : y ∈ ps) : Vis sc y := (S.par y h).elim Or.inl fun h => Or.inr (Or.inl h)
theorem ini_one {f : Str} {p1 p2 p3 p4 : Pos} (F : FunD K x q params [.Assign [.Attribute (.Name "self" p1) f p2] (.Name f p3) p4] scope [] [] fI fd) (S : FnScope ["self", f] ["self", f] scope) (T : OexC K C)
    (no : PySem.W.findIn K (.ref C) f = some none) (d1 : (f == ("__debug__" : Str)) = false) (d2 : (f == ("__classdict__" : Str)) = false) : FnOk P w K mg base CX 1 fI fd ["self", f] (initSp C [f]) := by
  refine F.ok S (fun vs H Q E h => ?_) (fun cdv A outer s H vs Q E hr h => ⟨tOst K f (tVar 0) (tVar 1), PSs.nox (pss_one (ps_ost (pe_var rfl (visp S (by simp)) (by decide) (by decide)) (pe_var rfl (visp S (by simp)) d1 d2))), ?_⟩)
  · obtain ⟨a, us, rfl, hl, _⟩ := h
    rw [List.length_cons, hl]
    rfl
  · obtain ⟨a, us, rfl, hl, ha, k⟩ := h
    match us, hl with
    | [u], _ =>
      refine ⟨u, rfl, .ref a, rfl, a, C, rfl, T, no, .inl ⟨ha, fun d hd ne => ?_⟩⟩
      exact k d _ hd ne upd_same (by rw [upd_ne ne]; exact upd_same) fun b h1 h2 => by rw [upd_ne h1, upd_ne h2]
theorem ini_two {f g : Str} {p1 p2 p3 p4 q1 q2 q3 q4 : Pos} (F : FunD K x q params [.Assign [.Attribute (.Name "self" p1) f p2] (.Name f p3) p4, .Assign [.Attribute (.Name "self" q1) g q2] (.Name g q3) q4] scope [] [] fI fd)
    (S : FnScope ["self", f, g] ["self", f, g] scope) (T : OexC K C) (no : PySem.W.findIn K (.ref C) f = some none) (no2 : PySem.W.findIn K (.ref C) g = some none) (d1 : (f == ("__debug__" : Str)) = false) (d2 : (f == ("__classdict__" : Str)) = false)
    (e1 : (g == ("__debug__" : Str)) = false) (e2 : (g == ("__classdict__" : Str)) = false) : FnOk P w K mg base CX 1 fI fd ["self", f, g] (initSp C [f, g]) := by
  refine F.ok S (fun vs H Q E h => ?_) (fun cdv A outer s H vs Q E hr h => ⟨tSeq (tOst K f (tVar 0) (tVar 1)) (tOst K g (tVar 0) (tVar 2)),
    PSs.nox (pss_cons (ps_ost (pe_var rfl (visp S (by simp)) (by decide) (by decide)) (pe_var rfl (visp S (by simp)) d1 d2)) (pss_one (ps_ost (pe_var rfl (visp S (by simp)) (by decide) (by decide)) (pe_var rfl (visp S (by simp)) e1 e2)))), ?_⟩)
  · obtain ⟨a, us, rfl, hl, _⟩ := h
    rw [List.length_cons, hl]
    rfl
  · obtain ⟨a, us, rfl, hl, ha, k⟩ := h
    match us, hl with
    | [u, v], _ =>
      refine ⟨u, rfl, .ref a, rfl, a, C, rfl, T, no, .inl ⟨ha, fun d hd ne => ?_⟩⟩
      refine ⟨v, rfl, .ref a, rfl, a, C, rfl, T, no2, .inr ⟨d, [(f, u)], upd_same, by rw [upd_ne ne]; exact upd_same, Nat.le_of_ble_eq_true rfl, ?_⟩⟩
      exact k d _ hd ne (by rw [upd_ne ne.symm]; exact upd_same) upd_same fun b h1 h2 => by rw [upd_ne h2, upd_ne h1, upd_ne h2]
end
end Dz

set_option maxRecDepth 100000
set_option maxHeartbeats 4000000
/-! Part U: one law's data, the top's facts from it. -/
namespace Dz
open PySem L2
/-- a def of the top: its name, parameters, body, scope, the slots' names, the parameters' names -/
structure DD where
  x : Str
  params : Arguments
  body : List Stmt
  scope : Scope
  N : List Str
  ps : List Str
def DD.d (a : DD) : He.DefD := ⟨(a.x, none), a.x, a.x, a.params, a.body, a.scope, [], []⟩
def DD.q (a : DD) : Str := a.x ++ ".<locals>."
/-- an own exception: its name, its __init__, its fields -/
structure XD where
  x : Str
  q : Str
  params : Arguments
  body : List Stmt
  scope : Scope
  fl : List Str
def XD.d (a : XD) : He.DefD := ⟨(a.x, some "__init__"), "__init__", a.q, a.params, a.body, a.scope, [], []⟩
inductive CtD where
  | tab (kvs : List (Str × Str))
  | str (z : Str)
  | int (i : Int)
def CtD.mv : CtD → MV
  | .tab kvs => .wdi (mkOf kvs) (mvOf kvs)
  | .str z => .str z.cps.toList
  | .int i => .int i
def CtD.fa (x : Str) : CtD → He.Fa
  | .tab _ => .glo x
  | .str z => .str x z
  | .int i => .int x i
def CtD.ex (K : PySem.W.Frag) (x : Str) : CtD → Bool
  | .tab kvs => tabC K (He.ga K x) kvs
  | _ => true
def tabsOf : List (Str × CtD) → List He.Tab
  | [] => []
  | (x, .tab kvs) :: r => ((fun K => He.ga K x), kvs.map (·.1)) :: tabsOf r
  | _ :: r => tabsOf r
structure LD where
  P : Prg
  D : Dat
  dds : List DD
  law : DD
  lawF : FDef
  xds : List XD
  cts : List (Str × CtD)
def scB (N ps : List Str) (sc : Scope) : Bool := decide (sc.kind = .function) && (!sc.isCoroutine && (!sc.isGenerator && (decide N.Nodup && (decide (N.take ps.length = ps) && ((ps.all fun x => match sc.names.lookup x with
  | some .local => true
  | some .cell => true
  | _ => false) && sc.names.all fun y => match y.2 with
  | .free => false
  | _ => true)))))
theorem scB_ok {N ps : List Str} {sc : Scope} (h : scB N ps sc = true) : FnScope N ps sc := by
  unfold scB at h
  simp only [Bool.and_eq_true, Bool.not_eq_true', decide_eq_true_eq, List.all_eq_true] at h
  obtain ⟨h1, h2, h3, h4, h5, h6, h7⟩ := h
  refine ⟨h1, h2, h3, h4, h5, fun x hx => ?_, fun y hy z => ?_⟩
  · have := h6 x hx
    split at this
    · rename_i e; exact .inl e
    · rename_i e; exact .inr e
    · cases this
  · have := h7 y hy
    rw [z] at this
    cases this
def celO (N : List Str) (sc : Scope) (i : Nat) : Bool := match N[i]? with
  | some x => (match sc.names.lookup x with
    | some .cell => true
    | _ => false)
  | none => false
theorem celO_ok {N : List Str} {sc : Scope} {i : Nat} (h : celO N sc i = true) : ∃ x, N[i]? = some x ∧ sc.names.lookup x = some .cell := by
  unfold celO at h
  split at h
  · rename_i x e
    refine ⟨x, e, ?_⟩
    split at h
    · assumption
    · cases h
  · cases h
def ddB (D : Dat) (P : Prg) (dd : DD) (fd : FDef) : Bool := scB dd.N dd.ps dd.scope && (decide (dd.ps.length = fd.np) && (decide (dd.N.length = fd.nsl) && (fd.cels.all (celO dd.N dd.scope) && decide fd.cels.Nodup)))
structure DOk (D : Dat) (P : Prg) (dd : DD) (fd : FDef) : Prop where
  body : dd.body = unB fd.body
  st : ddB D P dd fd = true
  wf : wfB D P ⟨dd.N, dd.scope, fun _ => true, dd.q, fd.lam⟩ fd.body = true
  lams : lamHold D (lamListB fd.body)
  bind : ∀ (kV doc pm : Value) (an : Option Addr) (cdv ct : Value) (us : List Value), us.length = dd.ps.length → bindArgs (PySem.W.fnOf dd.x dd.x dd.params dd.body dd.scope .none kV doc pm an cdv ct) ⟨us, []⟩ = pure (dd.ps.zip us)
/-- an own exception's text: each parameter becomes the field of its name -/
inductive InitB : List Str → List Stmt → Prop
  | one (f : Str) (p1 p2 p3 p4 : Pos) : (f == ("__debug__" : Str)) = false → (f == ("__classdict__" : Str)) = false → InitB [f] [.Assign [.Attribute (.Name "self" p1) f p2] (.Name f p3) p4]
  | two (f g : Str) (p1 p2 p3 p4 q1 q2 q3 q4 : Pos) : (f == ("__debug__" : Str)) = false → (f == ("__classdict__" : Str)) = false → (g == ("__debug__" : Str)) = false → (g == ("__classdict__" : Str)) = false →
      InitB [f, g] [.Assign [.Attribute (.Name "self" p1) f p2] (.Name f p3) p4, .Assign [.Attribute (.Name "self" q1) g q2] (.Name g q3) q4]
structure XdOk (xd : XD) : Prop where
  body : InitB xd.fl xd.body
  sc : scB (("self" : Str) :: xd.fl) (("self" : Str) :: xd.fl) xd.scope = true
  bind : ∀ (kV doc pm : Value) (an : Option Addr) (cdv ct : Value) (us : List Value), us.length = (("self" : Str) :: xd.fl).length → bindArgs (PySem.W.fnOf "__init__" xd.q xd.params xd.body xd.scope .none kV doc pm an cdv ct) ⟨us, []⟩ = pure ((("self" : Str) :: xd.fl).zip us)
/-! ### what the head's Hook looks at -/
section
variable (L : LD)
def LD.tf : List DD := ((L.dds.zip (L.P.fns.map (·.lam))).filterMap fun p => if p.2 then some p.1 else none) ++ if L.lawF.lam then [L.law] else []
def LD.exms : List He.Fa := (List.range L.xds.length).flatMap fun i => (List.range L.xds.length).filterMap fun j => match L.xds[i]?, L.xds[j]? with
  | some a, some b => some (.exm a.x b.x (decide (i = j)))
  | _, _ => none
def LD.xfa : List He.Fa := L.xds.flatMap fun a => He.Fa.glo a.x :: He.Fa.meth a.x "__init__" :: a.fl.map (He.Fa.noat a.x)
def LD.fa : List He.Fa := bltNames.map He.Fa.free ++ (L.dds.map (fun a => He.Fa.glo a.x) ++ (He.Fa.glo L.law.x :: (L.cts.map (fun c => c.2.fa c.1) ++ (L.xfa ++ L.exms))))
def LD.fn : List He.DefD := L.dds.map DD.d ++ (L.law.d :: L.xds.map XD.d)
def LD.ex (K : PySem.W.Frag) : Bool := L.cts.all (fun c => c.2.ex K c.1) && (L.xds.all (fun a => oexB K (He.ga K a.x) && xfB K (He.ga K a.x)) && decide ((L.tf.map fun a => (He.cT K a.d.at_).2).Nodup))
def LD.hook : PySem.W.Hook := He.hookX 7 L.fa L.fn (tabsOf L.cts) (L.tf.map fun a => a.d.at_) L.ex
def LD.ob (s : PySem.W.SharedT) : He.AlX := He.obsX 7 L.fa L.fn (tabsOf L.cts) (L.tf.map fun a => a.d.at_) L.ex (HandSHeadRun.getT s)
theorem LD.ob_eq (s : PySem.W.SharedT) : L.ob s = L.hook.obs s.abs := He.obsX_eq (HandSHeadRun.getT_eq s)
def LD.gi (K : PySem.W.Frag) : GI where
  fa := fun i => (L.dds[i]?).map fun a => He.ga K a.x
  wd := fun a ks vs => ∃ x kvs, (x, CtD.tab kvs) ∈ L.cts ∧ a = He.ga K x ∧ ks = mkOf kvs ∧ vs = mvOf kvs
  lam := fun j => L.D.lms[j]?
  cls := fun c => (L.xds[c]?).elim 0 fun a => He.ga K a.x
  fld := fun c => ((L.xds[c]?).map (·.fl)).getD []
def LD.tl (K : PySem.W.Frag) : List (Addr × Str) := L.tf.map fun a => ((He.cT K a.d.at_).2, a.q ++ "<lambda>")
/-- the text is as it was printed -/
structure LD.Ok : Prop where
  fnm : L.D.fnm = L.dds.map (·.x)
  ctm : L.D.ctm = L.cts.map (·.1)
  clm : L.D.clm = L.xds.map (·.x)
  cst : L.P.consts = L.cts.map fun c => c.2.mv
  flds : L.D.flds = L.xds.map (·.fl)
  ncls : L.P.ncls = L.xds.length
  dok : ∀ (i : Nat) dd fd, L.dds[i]? = some dd → L.P.fns[i]? = some fd → DOk L.D L.P dd fd
  xok : ∀ xd ∈ L.xds, XdOk xd
  lok : ∀ (j : Nat) l, L.D.lms[j]? = some l → ∃ d, L.P.lams[j]? = some d ∧ LOk L.D L.P d l
end
theorem tabsOf_mem : ∀ {cts : List (Str × CtD)} {x : Str} {kvs : List (Str × Str)}, (x, CtD.tab kvs) ∈ cts → ∃ t ∈ tabsOf cts, ∀ K, t.1 K = He.ga K x
  | (y, c) :: r, x, kvs, h => by
    cases h with
    | head => exact ⟨_, List.mem_cons_self, fun _ => rfl⟩
    | tail _ h =>
      obtain ⟨t, ht, e⟩ := tabsOf_mem h
      refine ⟨t, ?_, e⟩
      cases c with
      | tab k => exact List.mem_cons_of_mem _ ht
      | _ => exact ht
section
variable {L : LD} {w : World} {h : Heap} {K : PySem.W.Frag} {mg : Str → Option Value} {base : Heap} {prog0 : Program}
abbrev LD.Says (L : LD) (w : World) (h : Heap) (K : PySem.W.Frag) : Prop := He.SaysX L.fa L.fn (tabsOf L.cts) (L.tf.map fun a => a.d.at_) L.ex w h K
theorem LD.fact (c : L.Says w h K) {f : He.Fa} (hf : f ∈ L.fa) : f.ok K = true := c.t.d.facts hf
theorem LD.glo_d (X : K.In h) (Gm : h.Ns mainGlobals mg) (c : L.Says w h K) {a : DD} (ha : a ∈ L.dds) : mg a.x = some (.ref (He.ga K a.x)) := He.glo_ok X Gm (L.fact c (by
  unfold LD.fa
  exact List.mem_append_right _ (List.mem_append_left _ (List.mem_map.mpr ⟨a, ha, rfl⟩))))
theorem LD.free (X : K.In h) (Gm : h.Ns mainGlobals mg) (c : L.Says w h K) {x : Str} (hx : x ∈ bltNames) : mg x = none := He.free_ok X Gm (L.fact c (by
  unfold LD.fa
  exact List.mem_append_left _ (List.mem_map.mpr ⟨x, hx, rfl⟩)))
theorem LD.funD (c : L.Says w h K) {a : DD} (ha : a ∈ L.dds) : ∃ fd, FunD K a.x a.x a.params a.body a.scope [] [] (He.ga K a.x) fd := c.t.d.defs (d := a.d) (by
  unfold LD.fn
  exact List.mem_append_left _ (List.mem_map.mpr ⟨a, ha, rfl⟩))
theorem LD.funL (c : L.Says w h K) : ∃ fd, FunD K L.law.x L.law.x L.law.params L.law.body L.law.scope [] [] (He.ga K L.law.x) fd := c.t.d.defs (d := L.law.d) (by
  unfold LD.fn
  exact List.mem_append_right _ List.mem_cons_self)
theorem LD.funX (c : L.Says w h K) {a : XD} (ha : a ∈ L.xds) : ∃ fd, FunD K "__init__" a.q a.params a.body a.scope [] [] (He.ma K (He.ga K a.x) "__init__") fd := c.t.d.defs (d := a.d) (by
  unfold LD.fn
  exact List.mem_append_right _ (List.mem_cons_of_mem _ (List.mem_map.mpr ⟨a, ha, rfl⟩)))
theorem LD.ct_fact (c : L.Says w h K) {p : Str × CtD} (hp : p ∈ L.cts) : (p.2.fa p.1).ok K = true := L.fact c (by
  unfold LD.fa
  exact List.mem_append_right _ (List.mem_append_right _ (List.mem_cons_of_mem _ (List.mem_append_left _ (List.mem_map.mpr ⟨p, hp, rfl⟩)))))
theorem LD.x_fact (c : L.Says w h K) {f : He.Fa} (hp : f ∈ L.xfa) : f.ok K = true := L.fact c (by
  unfold LD.fa
  exact List.mem_append_right _ (List.mem_append_right _ (List.mem_cons_of_mem _ (List.mem_append_right _ (List.mem_append_left _ hp)))))
theorem LD.m_fact (c : L.Says w h K) {f : He.Fa} (hp : f ∈ L.exms) : f.ok K = true := L.fact c (by
  unfold LD.fa
  exact List.mem_append_right _ (List.mem_append_right _ (List.mem_cons_of_mem _ (List.mem_append_right _ (List.mem_append_right _ hp)))))
theorem LD.ex_cts (c : L.Says w h K) {p : Str × CtD} (hp : p ∈ L.cts) : p.2.ex K p.1 = true := List.all_eq_true.mp (Bool.and_eq_true_iff.mp (show (L.cts.all (fun c => c.2.ex K c.1) && _) = true from c.more)).1 p hp
theorem LD.ex_x (c : L.Says w h K) {a : XD} (ha : a ∈ L.xds) : OexC K (He.ga K a.x) ∧ XfC K (He.ga K a.x) := by
  have h1 := (Bool.and_eq_true_iff.mp (Bool.and_eq_true_iff.mp (show (L.cts.all (fun c => c.2.ex K c.1) && (L.xds.all (fun a => oexB K (He.ga K a.x) && xfB K (He.ga K a.x)) && decide ((L.tf.map fun a => (He.cT K a.d.at_).2).Nodup))) = true from c.more)).2).1
  obtain ⟨h2, h3⟩ := Bool.and_eq_true_iff.mp (List.all_eq_true.mp h1 a ha)
  exact ⟨oexB_ok h2, xfB_ok h3⟩
theorem LD.ex_nd (c : L.Says w h K) : (L.tf.map fun a => (He.cT K a.d.at_).2).Nodup :=
  of_decide_eq_true (Bool.and_eq_true_iff.mp (Bool.and_eq_true_iff.mp (show (L.cts.all (fun c => c.2.ex K c.1) && (L.xds.all (fun a => oexB K (He.ga K a.x) && xfB K (He.ga K a.x)) && decide ((L.tf.map fun a => (He.cT K a.d.at_).2).Nodup))) = true from c.more)).2).2
theorem nodup_inj {α β : Type} {f : α → β} : ∀ {l : List α}, (l.map f).Nodup → ∀ {a b : α}, a ∈ l → b ∈ l → f a = f b → a = b
  | x :: r, hn, a, b, ha, hb, e => by
    rw [List.map_cons] at hn
    obtain ⟨h1, h2⟩ := List.nodup_cons.mp hn
    rcases List.mem_cons.mp ha with ha | ha
    · rcases List.mem_cons.mp hb with hb | hb
      · rw [ha, hb]
      · exact absurd (List.mem_map.mpr ⟨b, hb, by rw [← e, ha]⟩) h1
    · rcases List.mem_cons.mp hb with hb | hb
      · exact absurd (List.mem_map.mpr ⟨a, ha, by rw [e, hb]⟩) h1
      · exact nodup_inj h2 ha hb e
theorem LD.mem_tf {i : Nat} {dd : DD} {fd : FDef} (h1 : L.dds[i]? = some dd) (h2 : L.P.fns[i]? = some fd) (hl : fd.lam = true) : dd ∈ L.tf := by
  unfold LD.tf
  refine List.mem_append_left _ (List.mem_filterMap.mpr ⟨(dd, true), ?_, rfl⟩)
  refine List.mem_of_getElem? (i := i) ?_
  rw [List.getElem?_zip_eq_some]
  exact ⟨h1, by rw [List.getElem?_map, h2]; exact congrArg some hl⟩
/-- the code object of a def with lambdas -/
theorem LD.lam_of (c : L.Says w h K) (TB : ∀ p ∈ L.tf.map fun a => He.cT K a.d.at_, LamX.TabB base mg p.1 p.2) {a : DD} (ha : a ∈ L.tf) {oc : Value} {od : Option Addr} {osl : Array (Option Value)} {fd : FuncData}
    (lk : K.lookup (He.ga K a.x) = some ⟨oc, od, .func fd, osl⟩) (hcd : PySem.W.codeIn K fd.code a.x = true) :
    ∃ c Pt, fd.code = .ref c ∧ LamX.TabB base mg c Pt ∧ (Pt, a.x ++ ".<locals>." ++ "<lambda>") ∈ L.tl K ∧ ∀ p ∈ L.tl K, p.1 = Pt → p.2 = a.x ++ ".<locals>." ++ "<lambda>" := by
  obtain ⟨c', e⟩ := He.codeIn_ref hcd
  have e2 : He.codeOf K a.d.at_ = c' := He.codeOf_eq lk e
  have hm : He.cT K a.d.at_ ∈ L.tf.map fun a => He.cT K a.d.at_ := List.mem_map.mpr ⟨a, ha, rfl⟩
  have tb := TB _ hm
  refine ⟨c', (He.cT K a.d.at_).2, e, ?_, List.mem_map.mpr ⟨a, ha, rfl⟩, fun p hp q => ?_⟩
  · have : (He.cT K a.d.at_).1 = c' := e2
    rw [← this]; exact tb
  · obtain ⟨b, hb, rfl⟩ := List.mem_map.mp hp
    have : b = a := nodup_inj (f := fun a : DD => (He.cT K a.d.at_).2) (LD.ex_nd c) hb ha q
    rw [this]; rfl
theorem LD.fok (ok : L.Ok) (c : L.Says w h K) (TB : ∀ p ∈ L.tf.map fun a => He.cT K a.d.at_, LamX.TabB base mg p.1 p.2) {i : Nat} {dd : DD} {fd : FDef} (h1 : L.dds[i]? = some dd) (h2 : L.P.fns[i]? = some fd) :
    ∃ name qual params scope dV kV doc pm cdv ct oc an od osl N ps, FOk K mg base (L.tl K) L.P L.D fd (He.ga K dd.x) name qual params scope dV kV doc pm cdv ct oc an od osl N ps := by
  obtain ⟨f0, F⟩ := LD.funD c (List.mem_of_getElem? h1)
  obtain ⟨oc, od, dV, kV, doc, pm, an, cdv, ct, osl, rfl, lk, hcd, hD, _⟩ := F.ex
  have o := ok.dok i dd fd h1 h2
  have st := o.st
  unfold ddB at st
  simp only [Bool.and_eq_true, decide_eq_true_eq, List.all_eq_true] at st
  obtain ⟨s1, s2, s3, s4, s5⟩ := st
  rcases hD with ⟨_, rfl⟩ | ⟨e, _⟩
  · have hb := o.body
    refine ⟨dd.x, dd.x, dd.params, dd.scope, .none, kV, doc, pm, cdv, ct, oc, an, od, osl, dd.N, dd.ps, ⟨by rw [← hb]; exact lk, hcd, scB_ok s1, fun us hl => by rw [← hb]; exact o.bind kV doc pm an cdv ct us hl, s2, s3, fun i hi => celO_ok (s4 i hi), s5, ⟨o.wf, o.lams⟩, fun hl => ?_, F.kp⟩⟩
    exact LD.lam_of c TB (LD.mem_tf h1 h2 hl) lk hcd
  · exact absurd rfl e
theorem LD.top (ok : L.Ok) (X : K.In h) (Gm : h.Ns mainGlobals mg) (c : L.Says w h K) (TB : ∀ p ∈ L.tf.map fun a => He.cT K a.d.at_, LamX.TabB base mg p.1 p.2) : Top prog0 w K mg base (L.tl K) (L.gi K) L.P L.D where
  free := fun x hx => LD.free X Gm c hx
  wd := fun a ks vs ⟨x, kvs, hm, ea, ek, ev⟩ => by
    subst ea ek ev
    refine ⟨?_, fun z => ?_⟩
    · obtain ⟨t, ht, e⟩ := tabsOf_mem hm
      obtain ⟨i, hi, ei⟩ := List.mem_iff_getElem.mp ht
      obtain ⟨es, n, k⟩ := c.t.tab i (t := t) (by rw [List.getElem?_eq_getElem hi, ei])
      exact ⟨es, n, by rw [← e K]; exact k⟩
    · exact tabC_ok (show tabC K (He.ga K x) kvs = true from LD.ex_cts c hm) _ z
  fn := fun i x hx => by
    rw [ok.fnm, List.getElem?_map] at hx
    cases q : L.dds[i]? with
    | none => rw [q] at hx; cases hx
    | some dd =>
      rw [q] at hx
      obtain rfl : dd.x = x := Option.some.inj hx
      obtain ⟨fd, F⟩ := LD.funD c (List.mem_of_getElem? q)
      exact ⟨_, LD.glo_d X Gm c (List.mem_of_getElem? q), by show (L.dds[i]?).map _ = _; rw [q]; rfl, F.kp⟩
  ct := fun g x hx => by
    rw [ok.ctm, List.getElem?_map] at hx
    cases q : L.cts[g]? with
    | none => rw [q] at hx; cases hx
    | some p =>
      rw [q] at hx
      obtain rfl : p.1 = x := Option.some.inj hx
      have hm := List.mem_of_getElem? q
      have hf := LD.ct_fact c hm
      have hv : ∀ v, L.P.consts[g]? = some v → v = p.2.mv := fun v hv => by
        rw [ok.cst, List.getElem?_map, q] at hv
        exact (Option.some.inj hv).symm
      obtain ⟨x, cd⟩ := p
      cases cd with
      | tab kvs => exact ⟨_, .ref (He.ga K x), He.glo_ok X Gm hf, rfl, fun v e R => by rw [hv v e]; exact .wd ⟨x, kvs, hm, rfl, rfl, rfl⟩⟩
      | str z =>
        obtain ⟨t, e⟩ := He.str_ok X Gm hf
        refine ⟨_, .str z, e, ⟨t, rfl⟩, fun v e R => ?_⟩
        rw [hv v e]
        have := RelM.str (G := L.gi K) (R := R) z.cps.toList
        simpa [CtD.mv] using this
      | int i =>
        obtain ⟨t, e⟩ := He.int_ok X Gm hf
        exact ⟨_, .int i, e, ⟨t, rfl⟩, fun v e R => by rw [hv v e]; exact .int i⟩
  fns := fun i d hd a ha => by
    have ha : (L.dds[i]?).map (fun a => He.ga K a.x) = some a := ha
    cases q : L.dds[i]? with
    | none => rw [q] at ha; cases ha
    | some dd =>
      rw [q] at ha
      obtain rfl : He.ga K dd.x = a := Option.some.inj ha
      exact LD.fok ok c TB q hd
  hfn := fun i a ha => by
    have ha : (L.dds[i]?).map (fun a => He.ga K a.x) = some a := ha
    cases q : L.dds[i]? with
    | none => rw [q] at ha; cases ha
    | some dd =>
      rw [q] at ha
      obtain rfl : He.ga K dd.x = a := Option.some.inj ha
      obtain ⟨f0, F⟩ := LD.funD c (List.mem_of_getElem? q)
      obtain ⟨oc, od, dV, kV, doc, pm, an, cdv, ct, osl, rfl, lk, _⟩ := F.ex
      exact ⟨_, _, _, _, lk⟩
  lam := fun j => rfl
  lok := fun j l hl => ok.lok j l hl
theorem initB_ok {P : Program} {CX : CXT} {x q : Str} {params : Arguments} {scope : Scope} {fI C : Addr} {fd : FuncData} {fl : List Str} {b : List Stmt} (hb : InitB fl b) (F : FunD K x q params b scope [] [] fI fd) (S : FnScope (("self" : Str) :: fl) (("self" : Str) :: fl) scope) (T : OexC K C)
    (no : ∀ f ∈ fl, PySem.W.findIn K (.ref C) f = some none) : FnOk P w K mg base CX 1 fI fd (("self" : Str) :: fl) (initSp C fl) := by
  cases hb with
  | one f p1 p2 p3 p4 d1 d2 => exact ini_one F S T (no f (by simp)) d1 d2
  | two f g p1 p2 p3 p4 q1 q2 q3 q4 d1 d2 e1 e2 => exact ini_two F S T (no f (by simp)) (no g (by simp)) d1 d2 e1 e2
theorem InitB.len {fl : List Str} {b : List Stmt} (hb : InitB fl b) : fl.length ≤ 900 := by cases hb <;> exact Nat.le_of_ble_eq_true rfl
theorem LD.topx (ok : L.Ok) (X : K.In h) (Gm : h.Ns mainGlobals mg) (c : L.Says w h K) : TopX prog0 w K mg base (L.gi K) L.P L.D where
  cls := fun i x hx => by
    rw [ok.clm, List.getElem?_map] at hx
    cases q : L.xds[i]? with
    | none => rw [q] at hx; cases hx
    | some a =>
      rw [q] at hx
      obtain rfl : a.x = x := Option.some.inj hx
      have hm := List.mem_of_getElem? q
      have ec : (L.gi K).cls i = He.ga K a.x := by show (L.xds[i]?).elim 0 _ = _; rw [q]; rfl
      have ef : (L.gi K).fld i = a.fl := by show ((L.xds[i]?).map _).getD [] = _; rw [q]; rfl
      obtain ⟨fd, F⟩ := LD.funX c hm
      obtain ⟨oe, xf⟩ := LD.ex_x c hm
      have xo := ok.xok a hm
      have mem : ∀ {f : He.Fa}, f ∈ He.Fa.glo a.x :: He.Fa.meth a.x "__init__" :: a.fl.map (He.Fa.noat a.x) → f.ok K = true := fun hf => LD.x_fact c (List.mem_flatMap.mpr ⟨a, hm, hf⟩)
      have mt := He.meth_ok (mem (List.mem_cons_of_mem _ List.mem_cons_self))
      have no : ∀ f ∈ a.fl, PySem.W.findIn K (.ref (He.ga K a.x)) f = some none := fun f hf => He.noat_ok (mem (List.mem_cons_of_mem _ (List.mem_cons_of_mem _ (List.mem_map.mpr ⟨f, hf, rfl⟩))))
      refine ⟨by rw [ec]; exact He.glo_ok X Gm (mem List.mem_cons_self), by rw [ec]; exact oe, ⟨_, fd, ("self" : Str) :: a.fl, by rw [ec]; exact mt.1, eq_of_beq mt.2, by rw [ec, ef]; exact initB_ok xo.body F (scB_ok xo.sc) oe no, F.bindsN xo.bind⟩, by rw [ec]; exact xf, fun f hf => ?_, by rw [ef]; exact xo.body.len⟩
      rw [ef] at hf
      rw [ec]
      exact no f hf
  fld := fun i => by
    rw [ok.flds, List.getElem?_map]
    rfl
  exm := fun i j x hi hj => by
    rw [ok.clm, List.getElem?_map] at hj
    rw [ok.ncls] at hi
    cases q : L.xds[j]? with
    | none => rw [q] at hj; cases hj
    | some b =>
      obtain ⟨a, qa⟩ : ∃ a, L.xds[i]? = some a := ⟨_, List.getElem?_eq_getElem hi⟩
      have ec : (L.gi K).cls i = He.ga K a.x := by show (L.xds[i]?).elim 0 _ = _; rw [qa]; rfl
      have ed : (L.gi K).cls j = He.ga K b.x := by show (L.xds[j]?).elim 0 _ = _; rw [q]; rfl
      rw [ec, ed]
      refine He.exm_ok (LD.m_fact c (f := .exm a.x b.x (decide (i = j))) ?_)
      unfold LD.exms
      refine List.mem_flatMap.mpr ⟨i, List.mem_range.mpr hi, List.mem_filterMap.mpr ⟨j, List.mem_range.mpr (List.getElem?_eq_some_iff.mp q).1, ?_⟩⟩
      rw [qa, q]
  nc := by rw [ok.clm, ok.ncls, List.length_map]
end
end Dz

set_option maxRecDepth 100000
set_option maxHeartbeats 4000000
/-! Part V: the law's def from the head. -/
namespace Dz
open PySem L2
/-- _law_stream(script): [list(script), 0, 0, 17] -/
def streamBody (p1 p2 p3 p4 p5 p6 p7 p8 : Pos) : List Stmt := [.Return (some (.List [.Call (.Name "list" p1) [.Name "script" p2] [] p3, .Constant (.int 0) 0 p4, .Constant (.int 0) 0 p5, .Constant (.int 17) 0 p6] p7)) p8]
section
variable {P : Program} {w : World} {K : PySem.W.Frag} {mg : Str → Option Value} {base : Heap} {f : Addr} {fd : FuncData}
theorem ok_streamD {params : Arguments} {scope : Scope} {p1 p2 p3 p4 p5 p6 p7 p8 : Pos} (F : FunD K "_law_stream" "_law_stream" params (streamBody p1 p2 p3 p4 p5 p6 p7 p8) scope [] [] f fd) (S : FnScope ["script"] ["script"] scope)
    (gl : scope.names.lookup ("list" : Str) = some .globalImplicit) (ml : mg "list" = none) : FnOk P w K mg base CX0 1 f fd ["script"] (spStream K) := by
  refine F.ok S (fun vs H Q E h => ?_) (fun cdv A outer s H vs Q E hr h => ?_)
  · obtain ⟨a, ns, rfl, _⟩ := h
    rfl
  obtain ⟨a, ns, rfl, hS, q⟩ := h
  refine ⟨_, PSs.nox (pss_one (ps_ret (pe_lst (pa_cons (pe_callTy call_list_of gl ml (by decide +kernel) (pa_cons (pv 0 rfl (visp S (by simp))) pa_nil)) (pa_cons pe_int (pa_cons pe_int (pa_cons pe_int pa_nil))))))), ?_⟩
  refine ⟨_, rfl, a, _, rfl, .inl hS, fun p hp => ?_⟩
  exact ⟨(by show 4 ≤ sizeLine; decide), fun t ht => q p t hp ht⟩
end
theorem blk_app {f : MEnv → MS → MSt → Res (Fl × MEnv)} : ∀ {a : List MS} {env env1 : MEnv} {s s1 : MSt}, blk f env a s = .ok (.nxt, env1) s1 → ∀ b, blk f env (a ++ b) s = blk f env1 b s1
  | [], _, _, _, _, h, b => by cases h; rfl
  | m :: r, env, env1, s, s1, h, b => by
    have h : ((f env m s).bind fun fe s => match fe.1 with
      | .nxt => blk f fe.2 r s
      | _ => .ok fe s) = .ok (.nxt, env1) s1 := h
    show ((f env m s).bind fun fe s => match fe.1 with
      | .nxt => blk f fe.2 (r ++ b) s
      | _ => .ok fe s) = _
    cases e : f env m s with
    | ok fe s2 =>
      rw [e] at h
      obtain ⟨fl, env2⟩ := fe
      cases fl with
      | nxt => exact blk_app h b
      | _ => cases h
    | _ => rw [e] at h; cases h
theorem s_app {P : Prg} {n : Nat} {a : List MS} {env env1 : MEnv} {s s1 : MSt} (h : (ev P n).s env a s = .ok (.nxt, env1) s1) (b : List MS) : (ev P n).s env (a ++ b) s = (ev P n).s env1 b s1 := by
  cases n with
  | zero => cases h
  | succ n => exact blk_app h b
/-- the law's def is as it was printed: the stream, a statement with draws, the rest -/
structure LawD (L : LD) (m2 : MS) (rest : List MS) : Prop where
  body : ∃ p1 p2 p3 p4 p5, L.law.body = .Assign [.Name "stream" p1] (.Call (.Name "_law_stream" p2) [.Name "script" p3] [] p4) p5 :: unM m2 :: unB rest
  sc : scB L.law.N L.law.ps L.law.scope = true
  ps : L.law.ps = [("script" : Str)]
  n0 : L.law.N[0]? = some ("script" : Str)
  n1 : L.law.N[1]? = some ("stream" : Str)
  loc : locB L.law.scope "stream" = true
  gl : L.law.scope.names.lookup ("_law_stream" : Str) = some .globalImplicit
  nsl : L.law.N.length = L.lawF.nsl
  n2 : 2 ≤ L.lawF.nsl
  cels : L.lawF.cels.all (celO L.law.N L.law.scope) = true
  cnd : L.lawF.cels.Nodup
  c0 : 0 ∉ L.lawF.cels
  c1 : 1 ∉ L.lawF.cels
  w2 : wfS L.D L.P ⟨L.law.N, L.law.scope, fun _ => true, L.law.q, L.lawF.lam⟩ m2 = true
  l2 : lamHold L.D (lamListS m2)
  wr : wfB L.D L.P ⟨L.law.N, L.law.scope, fun _ => true, L.law.q, L.lawF.lam⟩ rest = true
  lr : lamHold L.D (lamListB rest)
  bind : ∀ (kV doc pm : Value) (an : Option Addr) (cdv ct : Value) (us : List Value), us.length = 1 → bindArgs (PySem.W.fnOf L.law.x L.law.x L.law.params L.law.body L.law.scope .none kV doc pm an cdv ct) ⟨us, []⟩ = pure ([("script" : Str)].zip us)
  stream : ∃ (i : Nat) (dd : DD) (fd : FDef) (p1 p2 p3 p4 p5 p6 p7 p8 : Pos), L.dds[i]? = some dd ∧ L.P.fns[i]? = some fd ∧ dd.x = "_law_stream" ∧ dd.N = [("script" : Str)] ∧ dd.ps = [("script" : Str)] ∧ dd.scope.names.lookup ("list" : Str) = some NameKind.globalImplicit ∧ dd.body = streamBody p1 p2 p3 p4 p5 p6 p7 p8
section
variable {L : LD} {m2 : MS} {rest : List MS} {l : PySem.W.OpenLaw} {w : World} {h : Heap} {K : PySem.W.Frag} {mg : Str → Option Value} {n : Nat}
theorem LD.glo_l (X : K.In h) (Gm : h.Ns mainGlobals mg) (c : L.Says w h K) : mg L.law.x = some (.ref (He.ga K L.law.x)) := He.glo_ok X Gm (L.fact c (by
  unfold LD.fa
  exact List.mem_append_right _ (List.mem_append_right _ List.mem_cons_self)))
theorem LD.lawAt (ok : L.Ok) (lw : LawD L m2 rest) (X : K.In h) (Gm : h.Ns mainGlobals mg) (c : L.Says w h K)
    (hev : ∀ ns : List Int, ns.length ≤ 63 → ∃ env1 s1 env' s', stm L.P.ncls (ev L.P n) ⟨none :: some (.ref 1) :: List.replicate (L.lawF.nsl - 2) none, cellsFor L.lawF.cels L.lawF.nsl 0, 0⟩ m2 (stS ns L.lawF.cels.length) = .ok (.nxt, env1) s1 ∧
      (ev L.P n).s env1 rest { s1 with refs := s1.refs.map fun _ => MO.dead } = .ok (.ret (.bl true), env') s') :
    LamX.LawAtS l w K (L2.CX l.prog w) (n + 3) 63 "script" mg (He.ga K L.law.x) h := by
  obtain ⟨fd0, F⟩ := LD.funL c
  obtain ⟨oc, od, dV, kV, doc, pm, an, cdv, ct, osl, rfl, lk, hcd, hD, _⟩ := F.ex
  rcases hD with ⟨_, rfl⟩ | ⟨e, _⟩
  case inr => exact absurd rfl e
  have hm : ∀ p ∈ L.tf.map (fun a => He.cT K a.d.at_), ∃ q ∈ L.tf.map (fun a => a.d.at_), p = He.cT K q := fun p hp => by
    obtain ⟨a, ha, rfl⟩ := List.mem_map.mp hp
    exact ⟨_, List.mem_map.mpr ⟨a, ha, rfl⟩, rfl⟩
  refine ⟨PySem.W.fnOf L.law.x L.law.x L.law.params L.law.body L.law.scope .none kV doc pm an cdv ct, L.tf.map fun a => He.cT K a.d.at_, lawSp K (L.tl K), fun p hp => ?_, fun p hp => ?_, fun p hp => ?_, fun s u => ?_, fun H a ns hl _ hT hS => ?_, fun base Xb Gb TB => ?_⟩
  · obtain ⟨q, hq, rfl⟩ := hm p hp
    exact c.empty q hq
  · obtain ⟨q, hq, rfl⟩ := hm p hp
    exact c.out q hq
  · obtain ⟨q, hq, rfl⟩ := hm p hp
    exact PySem.W.codeHd_of_K X (c.hd q hq)
  · exact .of_eq (lw.bind kV doc pm an cdv ct [u] rfl)
  · refine ⟨a, ns, rfl, hS, hl, fun p hp => ?_, fun H' => rfl⟩
    obtain ⟨b, hb, rfl⟩ := List.mem_map.mp hp
    exact ⟨#[], hT _ (List.mem_map.mpr ⟨b, hb, rfl⟩), trivial, fun pos cv e => by cases e⟩
  · have Tp := LD.top (prog0 := l.prog) ok X Gm c TB
    have TX := LD.topx (prog0 := l.prog) (base := base) ok X Gm c
    obtain ⟨hp, _, _, hb⟩ := sound Tp TX n
    obtain ⟨p1, p2, p3, p4, p5, eb⟩ := lw.body
    obtain ⟨i, dd, fdd, q1, q2, q3, q4, q5, q6, q7, q8, h1, h1f, ex, eN, eps, egl, ebd⟩ := lw.stream
    have hmem := List.mem_of_getElem? h1
    obtain ⟨fdS, FS⟩ := LD.funD c hmem
    have dok := ok.dok i dd _ h1 h1f
    have scS : FnScope dd.N dd.ps dd.scope := scB_ok (Bool.and_eq_true_iff.mp dok.st).1
    have bS : Binds K fdS dd.ps [] := FS.bindsN dok.bind
    have gS := LD.glo_d X Gm c hmem
    rw [eN, eps] at scS
    rw [eps] at bS
    rw [ex] at gS
    have kS := FS.kp
    rw [ex, ebd] at FS
    rw [ex] at kS
    have mlist : mg "list" = none := LD.free X Gm c (by decide)
    have fS := ok_streamD (P := l.prog) (w := w) (mg := mg) (base := base) FS scS egl mlist
    have sc := scB_ok lw.sc
    rw [lw.ps] at sc
    have hlam : L.lawF.lam = true → ∃ c Pt, cdv = .ref c ∧ LamX.TabB base mg c Pt ∧ (Pt, L.law.x ++ ".<locals>." ++ "<lambda>") ∈ L.tl K ∧ ∀ p ∈ L.tl K, p.1 = Pt → p.2 = L.law.x ++ ".<locals>." ++ "<lambda>" := fun hl => by
      refine LD.lam_of c TB ?_ lk hcd
      unfold LD.tf
      refine List.mem_append_right _ ?_
      rw [hl]
      exact List.mem_cons_self
    have lk2 := lk
    rw [eb] at lk2
    have key := law_fn2 (n := n) (d := L.lawF) (m2 := m2) (rest := rest) (G := L.gi K) (D := L.D) (T := L.tl K) hb lk2 hcd sc L.lawF.lam lw.n0 lw.n1 (visp sc (by simp)) (loc_of lw.loc) lw.gl lw.nsl lw.n2 (fun i hi => celO_ok (List.all_eq_true.mp lw.cels i hi)) lw.cnd lw.c0 lw.c1
      (fun X' W SC => s1_all Tp TX hp hb SC m2 ⟨lw.w2, lw.l2⟩) ⟨lw.wr, lw.lr⟩ hlam fS gS kS bS hev
    rw [← eb] at key
    exact key
end
end Dz

set_option maxRecDepth 100000
set_option maxHeartbeats 0
namespace K8
open PySem L2 Dz
def top (i : Nat) : Stmt := PySem.Challenge.pw_denserows_k08_machine_refused.main.body.getD i (.Pass ⟨0, 0, 0, 0⟩)
def initOf (s : Stmt) : Stmt := match s with
  | .ClassDef _ _ _ b _ _ _ _ _ _ _ => b.getD 0 (.Pass ⟨0, 0, 0, 0⟩)
  | _ => .Pass ⟨0, 0, 0, 0⟩
def lA0 : Arguments := ⟨[], [⟨"odd", none, ⟨232,23,232,26⟩⟩], none, [], [], none, []⟩
def lS0 : Scope := ⟨.function, [("odd", .local), ("begun", .globalImplicit)], false, false, []⟩
def lB0 : ME := (.call 3 "begun" [(.var 0 "odd" ⟨232,34,232,37⟩), (.cst .non .none 0 ⟨232,39,232,43⟩)] ⟨232,28,232,33⟩ ⟨232,28,232,44⟩)
def lA1 : Arguments := ⟨[], [⟨"odd", none, ⟨233,23,233,26⟩⟩], none, [], [], none, []⟩
def lS1 : Scope := ⟨.function, [("odd", .local), ("is_state", .globalImplicit)], false, false, []⟩
def lB1 : ME := (.call 4 "is_state" [(.var 0 "odd" ⟨233,37,233,40⟩), (.cst .non .none 0 ⟨233,42,233,46⟩)] ⟨233,28,233,36⟩ ⟨233,28,233,47⟩)
def lA2 : Arguments := ⟨[], [⟨"odd", none, ⟨234,23,234,26⟩⟩], none, [], [], none, []⟩
def lS2 : Scope := ⟨.function, [("odd", .local), ("next_state", .globalImplicit)], false, false, []⟩
def lB2 : ME := (.call 5 "next_state" [(.var 0 "odd" ⟨234,39,234,42⟩), (.cst .non .none 0 ⟨234,44,234,48⟩)] ⟨234,28,234,38⟩ ⟨234,28,234,49⟩)
def lA3 : Arguments := ⟨[], [⟨"odd", none, ⟨235,23,235,26⟩⟩], none, [], [], none, []⟩
def lS3 : Scope := ⟨.function, [("odd", .local), ("run", .globalImplicit)], false, false, []⟩
def lB3 : ME := (.call 6 "run" [(.var 0 "odd" ⟨235,32,235,35⟩), (.cst .non .none 0 ⟨235,37,235,41⟩), (.cst .non .none 0 ⟨235,43,235,47⟩)] ⟨235,28,235,31⟩ ⟨235,28,235,48⟩)
def lA4 : Arguments := ⟨[], [⟨"odd", none, ⟨236,23,236,26⟩⟩], none, [], [], none, []⟩
def lS4 : Scope := ⟨.function, [("odd", .local), ("state_after", .globalImplicit)], false, false, []⟩
def lB4 : ME := (.call 7 "state_after" [(.var 0 "odd" ⟨236,40,236,43⟩), (.cst .non .none 0 ⟨236,45,236,49⟩), (.cst .non .none 0 ⟨236,51,236,55⟩)] ⟨236,28,236,39⟩ ⟨236,28,236,56⟩)
def lA5 : Arguments := ⟨[], [⟨"odd", none, ⟨237,23,237,26⟩⟩], none, [], [], none, []⟩
def lS5 : Scope := ⟨.function, [("odd", .local), ("trace", .globalImplicit)], false, false, []⟩
def lB5 : ME := (.call 8 "trace" [(.var 0 "odd" ⟨237,34,237,37⟩), (.cst .non .none 0 ⟨237,39,237,43⟩), (.cst .non .none 0 ⟨237,45,237,49⟩)] ⟨237,28,237,33⟩ ⟨237,28,237,50⟩)
def lA6 : Arguments := ⟨[], [⟨"odd", none, ⟨238,23,238,26⟩⟩], none, [], [], none, []⟩
def lS6 : Scope := ⟨.function, [("odd", .local), ("counts_run", .globalImplicit)], false, false, []⟩
def lB6 : ME := (.call 9 "counts_run" [(.var 0 "odd" ⟨238,39,238,42⟩), (.cst .non .none 0 ⟨238,44,238,48⟩), (.cst .non .none 0 ⟨238,50,238,54⟩)] ⟨238,28,238,38⟩ ⟨238,28,238,55⟩)
def lA7 : Arguments := ⟨[], [⟨"odd", none, ⟨241,19,241,22⟩⟩], none, [], [], none, []⟩
def lS7 : Scope := ⟨.function, [("odd", .local), ("some", .free), ("begun", .globalImplicit)], false, false, []⟩
def lB7 : ME := (.call 3 "begun" [(.var 1 "some" ⟨241,30,241,34⟩), (.var 0 "odd" ⟨241,36,241,39⟩)] ⟨241,24,241,29⟩ ⟨241,24,241,40⟩)
def lA8 : Arguments := ⟨[], [⟨"odd", none, ⟨242,23,242,26⟩⟩], none, [], [], none, []⟩
def lS8 : Scope := ⟨.function, [("odd", .local), ("some", .free), ("run", .globalImplicit)], false, false, []⟩
def lB8 : ME := (.call 6 "run" [(.var 1 "some" ⟨242,32,242,36⟩), (.var 0 "odd" ⟨242,38,242,41⟩), (.cst .non .none 0 ⟨242,43,242,47⟩)] ⟨242,28,242,31⟩ ⟨242,28,242,48⟩)
def lA9 : Arguments := ⟨[], [⟨"odd", none, ⟨243,23,243,26⟩⟩], none, [], [], none, []⟩
def lS9 : Scope := ⟨.function, [("odd", .local), ("some", .free), ("state_after", .globalImplicit)], false, false, []⟩
def lB9 : ME := (.call 7 "state_after" [(.var 1 "some" ⟨243,40,243,44⟩), (.var 0 "odd" ⟨243,46,243,49⟩), (.cst .non .none 0 ⟨243,51,243,55⟩)] ⟨243,28,243,39⟩ ⟨243,28,243,56⟩)
def lA10 : Arguments := ⟨[], [⟨"odd", none, ⟨244,23,244,26⟩⟩], none, [], [], none, []⟩
def lS10 : Scope := ⟨.function, [("odd", .local), ("some", .free), ("trace", .globalImplicit)], false, false, []⟩
def lB10 : ME := (.call 8 "trace" [(.var 1 "some" ⟨244,34,244,38⟩), (.var 0 "odd" ⟨244,40,244,43⟩), (.cst .non .none 0 ⟨244,45,244,49⟩)] ⟨244,28,244,33⟩ ⟨244,28,244,50⟩)
def lA11 : Arguments := ⟨[], [⟨"odd", none, ⟨245,23,245,26⟩⟩], none, [], [], none, []⟩
def lS11 : Scope := ⟨.function, [("odd", .local), ("some", .free), ("counts_run", .globalImplicit)], false, false, []⟩
def lB11 : ME := (.call 9 "counts_run" [(.var 1 "some" ⟨245,39,245,43⟩), (.var 0 "odd" ⟨245,45,245,48⟩), (.cst .non .none 0 ⟨245,50,245,54⟩)] ⟨245,28,245,38⟩ ⟨245,28,245,55⟩)
def lA12 : Arguments := ⟨[], [⟨"odd", none, ⟨250,51,250,54⟩⟩], none, [], [], none, []⟩
def lS12 : Scope := ⟨.function, [("odd", .local), ("some", .free), ("next_state", .globalImplicit)], false, false, []⟩
def lB12 : ME := (.call 5 "next_state" [(.var 1 "some" ⟨250,67,250,71⟩), (.var 0 "odd" ⟨250,73,250,76⟩)] ⟨250,56,250,66⟩ ⟨250,56,250,77⟩)
def lA13 : Arguments := ⟨[], [⟨"odd", none, ⟨252,19,252,22⟩⟩], none, [], [], none, []⟩
def lS13 : Scope := ⟨.function, [("odd", .local), ("some", .free), ("run", .globalImplicit)], false, false, []⟩
def lB13 : ME := (.call 6 "run" [(.var 1 "some" ⟨252,28,252,32⟩), (.lst false [] ⟨252,34,252,36⟩), (.var 0 "odd" ⟨252,38,252,41⟩)] ⟨252,24,252,27⟩ ⟨252,24,252,42⟩)
def lA14 : Arguments := ⟨[], [⟨"odd", none, ⟨253,23,253,26⟩⟩], none, [], [], none, []⟩
def lS14 : Scope := ⟨.function, [("odd", .local), ("some", .free), ("trace", .globalImplicit)], false, false, []⟩
def lB14 : ME := (.call 8 "trace" [(.var 1 "some" ⟨253,34,253,38⟩), (.lst false [] ⟨253,40,253,42⟩), (.var 0 "odd" ⟨253,44,253,47⟩)] ⟨253,28,253,33⟩ ⟨253,28,253,48⟩)
def lA15 : Arguments := ⟨[], [⟨"odd", none, ⟨254,23,254,26⟩⟩], none, [], [], none, []⟩
def lS15 : Scope := ⟨.function, [("odd", .local), ("some", .free), ("counts_run", .globalImplicit)], false, false, []⟩
def lB15 : ME := (.call 9 "counts_run" [(.var 1 "some" ⟨254,39,254,43⟩), (.lst false [] ⟨254,45,254,47⟩), (.var 0 "odd" ⟨254,49,254,52⟩)] ⟨254,28,254,38⟩ ⟨254,28,254,53⟩)
def lA16 : Arguments := ⟨[], [⟨"odd", none, ⟨257,76,257,79⟩⟩], none, [], [], none, []⟩
def lS16 : Scope := ⟨.function, [("odd", .local), ("some", .free), ("state_after", .globalImplicit)], false, false, []⟩
def lB16 : ME := (.call 7 "state_after" [(.var 1 "some" ⟨257,93,257,97⟩), (.lst false [] ⟨257,99,257,101⟩), (.var 0 "odd" ⟨257,103,257,106⟩)] ⟨257,81,257,92⟩ ⟨257,81,257,107⟩)
def lA17 : Arguments := ⟨[], [], none, [], [], none, []⟩
def lS17 : Scope := ⟨.function, [("ask", .free), ("odd", .free)], false, false, []⟩
def lB17 : ME := (.cal 1 "ask" [(.var 0 "odd" ⟨212,51,212,54⟩)] ⟨212,47,212,50⟩ ⟨212,47,212,55⟩)
def lA18 : Arguments := ⟨[], [], none, [], [], none, []⟩
def lS18 : Scope := ⟨.function, [("ask", .free), ("odd", .free)], false, false, []⟩
def lB18 : ME := (.cal 1 "ask" [(.var 0 "odd" ⟨207,33,207,36⟩)] ⟨207,29,207,32⟩ ⟨207,29,207,37⟩)
def b_law_stream : List MS := [.ret (.lst true [(.blt false .list "list" [(.var 0 "script" ⟨178,17,178,23⟩)] ⟨178,12,178,16⟩ ⟨178,12,178,24⟩), (.cst (.int 0) (.int 0) 0 ⟨178,26,178,27⟩), (.cst (.int 0) (.int 0) 0 ⟨178,29,178,30⟩), (.cst (.int 17) (.int 17) 0 ⟨178,32,178,34⟩)] ⟨178,11,178,35⟩) ⟨178,4,178,35⟩]
def d_law_stream : FDef := ⟨1, 1, [], b_law_stream, true, false⟩
def b_law_draw : List MS := [.asS (.var 0 "stream" ⟨180,4,180,10⟩) (.cst (.int 2) (.int 2) 0 ⟨180,11,180,12⟩) (.bin (.sub (.var 0 "stream" ⟨180,16,180,22⟩) (.cst (.int 2) (.int 2) 0 ⟨180,23,180,24⟩) ⟨180,16,180,25⟩) .Add (.cst (.int 1) (.int 1) 0 ⟨180,28,180,29⟩) ⟨180,16,180,29⟩) ⟨180,4,180,13⟩ ⟨180,4,180,29⟩,
  .whl (.andE [(.cmp (.sub (.var 0 "stream" ⟨181,10,181,16⟩) (.cst (.int 1) (.int 1) 0 ⟨181,17,181,18⟩) ⟨181,10,181,19⟩) .Eq (.cst (.int 0) (.int 0) 0 ⟨181,23,181,24⟩) ⟨181,10,181,24⟩), (.cmp (.sub (.var 0 "stream" ⟨181,29,181,35⟩) (.cst (.int 0) (.int 0) 0 ⟨181,36,181,37⟩) ⟨181,29,181,38⟩) .NotEq (.lst false [] ⟨181,42,181,44⟩) ⟨181,29,181,44⟩)] ⟨181,10,181,44⟩) [.asg (.var 2 "cell" ⟨182,8,182,12⟩) (.blt false .abs "abs" [(.mth false .popAt (.sub (.var 0 "stream" ⟨182,19,182,25⟩) (.cst (.int 0) (.int 0) 0 ⟨182,26,182,27⟩) ⟨182,19,182,28⟩) "pop" [(.cst (.int 0) (.int 0) 0 ⟨182,33,182,34⟩)] ⟨182,19,182,32⟩ ⟨182,19,182,35⟩)] ⟨182,15,182,18⟩ ⟨182,15,182,36⟩) ⟨182,8,182,36⟩, .asS (.var 0 "stream" ⟨183,8,183,14⟩) (.cst (.int 3) (.int 3) 0 ⟨183,15,183,16⟩) (.bin (.blt false .int "int" [(.bin (.bin (.bin (.sub (.var 0 "stream" ⟨183,24,183,30⟩) (.cst (.int 3) (.int 3) 0 ⟨183,31,183,32⟩) ⟨183,24,183,33⟩) .Mult (.cst (.int 8191) (.int 8191) 0 ⟨183,36,183,40⟩) ⟨183,24,183,40⟩) .Add (.var 2 "cell" ⟨183,43,183,47⟩) ⟨183,24,183,47⟩) .Add (.cst (.int 3) (.int 3) 0 ⟨183,50,183,51⟩) ⟨183,24,183,51⟩)] ⟨183,20,183,23⟩ ⟨183,20,183,52⟩) .Mod (.cst (.int 2147483647) (.int 2147483647) 0 ⟨183,55,183,65⟩) ⟨183,20,183,65⟩) ⟨183,8,183,17⟩ ⟨183,8,183,65⟩, .asS (.var 0 "stream" ⟨184,8,184,14⟩) (.cst (.int 1) (.int 1) 0 ⟨184,15,184,16⟩) (.ife (.cmp (.var 2 "cell" ⟨184,28,184,32⟩) .GtE (.bin (.cst (.int 10) (.int 10) 0 ⟨184,36,184,38⟩) .Pow (.cst (.int 18) (.int 18) 0 ⟨184,42,184,44⟩) ⟨184,36,184,44⟩) ⟨184,28,184,44⟩) (.var 2 "cell" ⟨184,20,184,24⟩) (.cst (.int 0) (.int 0) 0 ⟨184,50,184,51⟩) ⟨184,20,184,51⟩) ⟨184,8,184,17⟩ ⟨184,8,184,51⟩] ⟨181,4,184,51⟩,
  .iff (.cmp (.sub (.var 0 "stream" ⟨185,7,185,13⟩) (.cst (.int 1) (.int 1) 0 ⟨185,14,185,15⟩) ⟨185,7,185,16⟩) .Gt (.cst (.int 0) (.int 0) 0 ⟨185,19,185,20⟩) ⟨185,7,185,20⟩) [.asg (.var 3 "digit" ⟨186,8,186,13⟩) (.bin (.blt false .int "int" [(.sub (.var 0 "stream" ⟨186,20,186,26⟩) (.cst (.int 1) (.int 1) 0 ⟨186,27,186,28⟩) ⟨186,20,186,29⟩)] ⟨186,16,186,19⟩ ⟨186,16,186,30⟩) .Mod (.var 1 "many" ⟨186,33,186,37⟩) ⟨186,16,186,37⟩) ⟨186,8,186,37⟩, .asS (.var 0 "stream" ⟨187,8,187,14⟩) (.cst (.int 1) (.int 1) 0 ⟨187,15,187,16⟩) (.bin (.sub (.var 0 "stream" ⟨187,20,187,26⟩) (.cst (.int 1) (.int 1) 0 ⟨187,27,187,28⟩) ⟨187,20,187,29⟩) .FloorDiv (.var 1 "many" ⟨187,33,187,37⟩) ⟨187,20,187,37⟩) ⟨187,8,187,17⟩ ⟨187,8,187,37⟩, .ret (.var 3 "digit" ⟨188,15,188,20⟩) ⟨188,8,188,20⟩] [] ⟨185,4,188,20⟩,
  .asg (.var 4 "mixed" ⟨189,4,189,9⟩) (.bin (.blt false .int "int" [(.bin (.bin (.bin (.sub (.var 0 "stream" ⟨189,17,189,23⟩) (.cst (.int 3) (.int 3) 0 ⟨189,24,189,25⟩) ⟨189,17,189,26⟩) .Add (.bin (.cst (.int 7919) (.int 7919) 0 ⟨189,29,189,33⟩) .Mult (.sub (.var 0 "stream" ⟨189,36,189,42⟩) (.cst (.int 2) (.int 2) 0 ⟨189,43,189,44⟩) ⟨189,36,189,45⟩) ⟨189,29,189,45⟩) ⟨189,17,189,45⟩) .Add (.cst (.int 104729) (.int 104729) 0 ⟨189,48,189,54⟩) ⟨189,17,189,54⟩) .Pow (.cst (.int 5) (.int 5) 0 ⟨189,59,189,60⟩) ⟨189,16,189,60⟩)] ⟨189,12,189,15⟩ ⟨189,12,189,61⟩) .Mod (.cst (.int 2147483629) (.int 2147483629) 0 ⟨189,64,189,74⟩) ⟨189,12,189,74⟩) ⟨189,4,189,74⟩,
  .ret (.bin (.bin (.blt false .int "int" [(.bin (.bin (.bin (.bin (.var 4 "mixed" ⟨190,16,190,21⟩) .Mult (.cst (.int 48271) (.int 48271) 0 ⟨190,24,190,29⟩) ⟨190,16,190,29⟩) .Add (.bin (.cst (.int 30011) (.int 30011) 0 ⟨190,32,190,37⟩) .Mult (.sub (.var 0 "stream" ⟨190,40,190,46⟩) (.cst (.int 2) (.int 2) 0 ⟨190,47,190,48⟩) ⟨190,40,190,49⟩) ⟨190,32,190,49⟩) ⟨190,16,190,49⟩) .Add (.cst (.int 29) (.int 29) 0 ⟨190,52,190,54⟩) ⟨190,16,190,54⟩) .Pow (.cst (.int 3) (.int 3) 0 ⟨190,59,190,60⟩) ⟨190,15,190,60⟩)] ⟨190,11,190,14⟩ ⟨190,11,190,61⟩) .Mod (.cst (.int 1000000007) (.int 1000000007) 0 ⟨190,64,190,74⟩) ⟨190,11,190,74⟩) .Mod (.var 1 "many" ⟨190,77,190,81⟩) ⟨190,11,190,81⟩) ⟨190,4,190,81⟩]
def d_law_draw : FDef := ⟨2, 5, [], b_law_draw, false, false⟩
def b_counts : List MS := [.ret (.call 11 "counted" [(.call 12 "need_program" [(.var 0 "program" ⟨170,32,170,39⟩)] ⟨170,19,170,31⟩ ⟨170,19,170,40⟩)] ⟨170,11,170,18⟩ ⟨170,11,170,41⟩) ⟨170,4,170,41⟩]
def d_counts : FDef := ⟨1, 1, [], b_counts, false, false⟩
def b_begun : List MS := [.exp (.call 12 "need_program" [(.var 0 "program" ⟨75,17,75,24⟩)] ⟨75,4,75,16⟩ ⟨75,4,75,25⟩) ⟨75,4,75,25⟩,
  .ret (.tup [(.cst (.int 0) (.int 0) 0 ⟨76,12,76,13⟩), (.call 13 "need_cells" [(.var 1 "cells" ⟨76,26,76,31⟩)] ⟨76,15,76,25⟩ ⟨76,15,76,32⟩), (.bin (.lst false [(.cst (.int 0) (.int 0) 0 ⟨76,35,76,36⟩)] ⟨76,34,76,37⟩) .Mult (.cst (.int 32) (.int 32) 0 ⟨76,40,76,42⟩) ⟨76,34,76,42⟩), (.lst false [] ⟨76,44,76,46⟩), (.cst (.int 0) (.int 0) 0 ⟨76,48,76,49⟩)] 0 ⟨76,11,76,50⟩) ⟨76,4,76,50⟩]
def d_begun : FDef := ⟨2, 2, [], b_begun, false, false⟩
def b_is_state : List MS := [.ret (.isN (.call 14 "kept_state" [(.call 12 "need_program" [(.var 0 "program" ⟨69,35,69,42⟩)] ⟨69,22,69,34⟩ ⟨69,22,69,43⟩), (.var 1 "thing" ⟨69,45,69,50⟩)] ⟨69,11,69,21⟩ ⟨69,11,69,51⟩) true 0 ⟨69,59,69,63⟩ ⟨69,11,69,63⟩) ⟨69,4,69,63⟩]
def d_is_state : FDef := ⟨2, 2, [], b_is_state, false, false⟩
def b_next_state : List MS := [.asg (.var 2 "kept" ⟨118,4,118,8⟩) (.call 12 "need_program" [(.var 0 "program" ⟨118,24,118,31⟩)] ⟨118,11,118,23⟩ ⟨118,11,118,32⟩) ⟨118,4,118,32⟩,
  .asg (.var 3 "own" ⟨119,4,119,7⟩) (.call 14 "kept_state" [(.var 2 "kept" ⟨119,21,119,25⟩), (.var 1 "state" ⟨119,27,119,32⟩)] ⟨119,10,119,20⟩ ⟨119,10,119,33⟩) ⟨119,4,119,33⟩,
  .iff (.isN (.var 3 "own" ⟨120,7,120,10⟩) false 0 ⟨120,14,120,18⟩ ⟨120,7,120,18⟩) [.rai 0 "BadState" [(.var 1 "state" ⟨121,23,121,28⟩)] ⟨121,14,121,22⟩ ⟨121,14,121,29⟩ ⟨121,8,121,29⟩] [] ⟨120,4,121,29⟩,
  .nev ((defBody (top 27)).getD 3 (.Pass ⟨0,0,0,0⟩)),
  .nev ((defBody (top 27)).getD 4 (.Pass ⟨0,0,0,0⟩)),
  .nev ((defBody (top 27)).getD 5 (.Pass ⟨0,0,0,0⟩))]
def d_next_state : FDef := ⟨2, 6, [], b_next_state, false, false⟩
def b_run : List MS := [.asg (.tup [(.var 3 "kept" ⟨140,4,140,8⟩), (.var 4 "own" ⟨140,10,140,13⟩)] 0 ⟨140,4,140,13⟩) (.call 15 "need_run" [(.var 0 "program" ⟨140,25,140,32⟩), (.var 1 "cells" ⟨140,34,140,39⟩), (.var 2 "most" ⟨140,41,140,45⟩)] ⟨140,16,140,24⟩ ⟨140,16,140,46⟩) ⟨140,4,140,46⟩,
  .asg (.tup [(.var 5 "plain" ⟨141,4,141,9⟩), (.var 6 "end" ⟨141,11,141,14⟩)] 0 ⟨141,4,141,14⟩) (.call 16 "led" [(.var 3 "kept" ⟨141,21,141,25⟩), (.var 4 "own" ⟨141,27,141,30⟩), (.var 2 "most" ⟨141,32,141,36⟩), (.lst false [] ⟨141,38,141,40⟩)] ⟨141,17,141,20⟩ ⟨141,17,141,41⟩) ⟨141,4,141,41⟩,
  .nev ((defBody (top 30)).getD 2 (.Pass ⟨0,0,0,0⟩))]
def d_run : FDef := ⟨3, 7, [], b_run, false, false⟩
def b_state_after : List MS := [.asg (.var 3 "kept" ⟨144,4,144,8⟩) (.call 12 "need_program" [(.var 0 "program" ⟨144,24,144,31⟩)] ⟨144,11,144,23⟩ ⟨144,11,144,32⟩) ⟨144,4,144,32⟩,
  .asg (.var 4 "own" ⟨145,4,145,7⟩) (.call 13 "need_cells" [(.var 1 "cells" ⟨145,21,145,26⟩)] ⟨145,10,145,20⟩ ⟨145,10,145,27⟩) ⟨145,4,145,27⟩,
  .iff (.notE (.call 17 "is_number" [(.var 2 "steps" ⟨146,21,146,26⟩)] ⟨146,11,146,20⟩ ⟨146,11,146,27⟩) ⟨146,7,146,27⟩) [.rai 1 "BadSteps" [(.var 2 "steps" ⟨147,23,147,28⟩)] ⟨147,14,147,22⟩ ⟨147,14,147,29⟩ ⟨147,8,147,29⟩] [] ⟨146,4,147,29⟩,
  .asg (.tup [(.var 5 "plain" ⟨148,4,148,9⟩), (.var 6 "end" ⟨148,11,148,14⟩)] 0 ⟨148,4,148,14⟩) (.call 16 "led" [(.var 3 "kept" ⟨148,21,148,25⟩), (.var 4 "own" ⟨148,27,148,30⟩), (.var 2 "steps" ⟨148,32,148,37⟩), (.lst false [] ⟨148,39,148,41⟩)] ⟨148,17,148,20⟩ ⟨148,17,148,42⟩) ⟨148,4,148,42⟩,
  .nev ((defBody (top 31)).getD 4 (.Pass ⟨0,0,0,0⟩))]
def d_state_after : FDef := ⟨3, 7, [], b_state_after, false, false⟩
def b_trace : List MS := [.asg (.tup [(.var 3 "kept" ⟨151,4,151,8⟩), (.var 4 "own" ⟨151,10,151,13⟩)] 0 ⟨151,4,151,13⟩) (.call 15 "need_run" [(.var 0 "program" ⟨151,25,151,32⟩), (.var 1 "cells" ⟨151,34,151,39⟩), (.var 2 "most" ⟨151,41,151,45⟩)] ⟨151,16,151,24⟩ ⟨151,16,151,46⟩) ⟨151,4,151,46⟩,
  .asg (.var 5 "seen" ⟨152,4,152,8⟩) (.lst false [] ⟨152,11,152,13⟩) ⟨152,4,152,13⟩,
  .exp (.call 16 "led" [(.var 3 "kept" ⟨153,8,153,12⟩), (.var 4 "own" ⟨153,14,153,17⟩), (.var 2 "most" ⟨153,19,153,23⟩), (.var 5 "seen" ⟨153,25,153,29⟩)] ⟨153,4,153,7⟩ ⟨153,4,153,30⟩) ⟨153,4,153,30⟩,
  .ret (.var 5 "seen" ⟨154,11,154,15⟩) ⟨154,4,154,15⟩]
def d_trace : FDef := ⟨3, 6, [], b_trace, false, false⟩
def b_counts_run : List MS := [.asg (.tup [(.var 3 "kept" ⟨172,4,172,8⟩), (.var 4 "own" ⟨172,10,172,13⟩)] 0 ⟨172,4,172,13⟩) (.call 15 "need_run" [(.var 0 "program" ⟨172,25,172,32⟩), (.var 1 "cells" ⟨172,34,172,39⟩), (.var 2 "most" ⟨172,41,172,45⟩)] ⟨172,16,172,24⟩ ⟨172,16,172,46⟩) ⟨172,4,172,46⟩,
  .asg (.var 5 "seen" ⟨173,4,173,8⟩) (.lst false [] ⟨173,11,173,13⟩) ⟨173,4,173,13⟩,
  .exp (.call 16 "led" [(.var 3 "kept" ⟨174,8,174,12⟩), (.var 4 "own" ⟨174,14,174,17⟩), (.var 2 "most" ⟨174,19,174,23⟩), (.var 5 "seen" ⟨174,25,174,29⟩)] ⟨174,4,174,7⟩ ⟨174,4,174,30⟩) ⟨174,4,174,30⟩,
  .ret (.call 11 "counted" [(.lcm false (.sub (.var 3 "kept" ⟨175,20,175,24⟩) (.var 6 "index" ⟨175,25,175,30⟩) ⟨175,20,175,31⟩) (.var 6 "index" ⟨175,36,175,41⟩) (.var 5 "seen" ⟨175,45,175,49⟩) [] ⟨.function, [(".0", .local), ("index", .local), ("kept", .free)], false, false, []⟩ (none, [3]) ⟨175,19,175,50⟩)] ⟨175,11,175,18⟩ ⟨175,11,175,51⟩) ⟨175,4,175,51⟩]
def d_counts_run : FDef := ⟨3, 7, [3], b_counts_run, false, false⟩
def b_law_all_refused : List MS := [.for (.var 3 "ask" ⟨211,8,211,11⟩) (.var 2 "asks" ⟨211,15,211,19⟩) [.iff (.orE [(.notE (.allC (.call 18 "_law_same" [(.call 19 "_law_met" [(.lam 17 lA17 lB17 lS17 ⟨212,39,212,55⟩)] ⟨212,30,212,38⟩ ⟨212,30,212,56⟩), (.tup [(.var 0 "word" ⟨212,59,212,63⟩), (.var 4 "odd" ⟨212,65,212,68⟩)] 0 ⟨212,58,212,69⟩)] ⟨212,20,212,29⟩ ⟨212,20,212,70⟩) (.var 4 "odd" ⟨212,75,212,78⟩) (.var 1 "odds" ⟨212,82,212,86⟩) [] ⟨.function, [(".0", .local), ("odd", .cell), ("_law_same", .globalImplicit), ("_law_met", .globalImplicit), ("ask", .free), ("word", .free)], false, false, []⟩ (some 4, [3, 0]) ⟨212,19,212,87⟩ ⟨212,15,212,18⟩ ⟨212,15,212,88⟩) ⟨212,11,212,88⟩), (.notE (.call 20 "_law_is_very" [(.var 0 "word" ⟨212,109,212,113⟩), (.var 3 "ask" ⟨212,115,212,118⟩)] ⟨212,96,212,108⟩ ⟨212,96,212,119⟩) ⟨212,92,212,119⟩)] ⟨212,11,212,119⟩) [.ret (.cst (.bl false) (.bool false) 0 ⟨213,19,213,24⟩) ⟨213,12,213,24⟩] [] ⟨212,8,213,24⟩] ⟨211,4,213,24⟩,
  .ret (.cst (.bl true) (.bool true) 0 ⟨214,11,214,15⟩) ⟨214,4,214,15⟩]
def d_law_all_refused : FDef := ⟨3, 5, [0, 3], b_law_all_refused, false, true⟩
def b_counted : List MS := [.nev ((defBody (top 36)).getD 0 (.Pass ⟨0,0,0,0⟩)),
  .nev ((defBody (top 36)).getD 1 (.Pass ⟨0,0,0,0⟩)),
  .nev ((defBody (top 36)).getD 2 (.Pass ⟨0,0,0,0⟩))]
def d_counted : FDef := ⟨1, 5, [1], b_counted, false, false⟩
def b_need_program : List MS := [.iff (.notE (.call 21 "is_program" [(.var 0 "program" ⟨54,22,54,29⟩)] ⟨54,11,54,21⟩ ⟨54,11,54,30⟩) ⟨54,7,54,30⟩) [.rai 2 "BadProgram" [(.var 0 "program" ⟨55,25,55,32⟩)] ⟨55,14,55,24⟩ ⟨55,14,55,33⟩ ⟨55,8,55,33⟩] [] ⟨54,4,55,33⟩,
  .ret (.lcm false (.blt false .tuple "tuple" [(.var 1 "row" ⟨56,18,56,21⟩)] ⟨56,12,56,17⟩ ⟨56,12,56,22⟩) (.var 1 "row" ⟨56,27,56,30⟩) (.var 0 "program" ⟨56,34,56,41⟩) [] ⟨.function, [(".0", .local), ("row", .local), ("tuple", .globalImplicit)], false, false, []⟩ (none, []) ⟨56,11,56,42⟩) ⟨56,4,56,42⟩]
def d_need_program : FDef := ⟨1, 2, [], b_need_program, false, false⟩
def b_need_cells : List MS := [.iff (.orE [(.notE (.call 22 "is_list" [(.var 0 "cells" ⟨71,19,71,24⟩)] ⟨71,11,71,18⟩ ⟨71,11,71,25⟩) ⟨71,7,71,25⟩), (.cmp (.blt false .len "len" [(.var 0 "cells" ⟨71,33,71,38⟩)] ⟨71,29,71,32⟩ ⟨71,29,71,39⟩) .Gt (.cst (.int 8) (.int 8) 0 ⟨71,42,71,43⟩) ⟨71,29,71,43⟩), (.notE (.allC (.call 23 "is_value" [(.var 1 "one" ⟨71,66,71,69⟩)] ⟨71,57,71,65⟩ ⟨71,57,71,70⟩) (.var 1 "one" ⟨71,75,71,78⟩) (.var 0 "cells" ⟨71,82,71,87⟩) [] ⟨.function, [(".0", .local), ("one", .local), ("is_value", .globalImplicit)], false, false, []⟩ (none, []) ⟨71,56,71,88⟩ ⟨71,52,71,55⟩ ⟨71,52,71,89⟩) ⟨71,48,71,89⟩)] ⟨71,7,71,90⟩) [.rai 3 "BadCells" [(.var 0 "cells" ⟨72,23,72,28⟩)] ⟨72,14,72,22⟩ ⟨72,14,72,29⟩ ⟨72,8,72,29⟩] [] ⟨71,4,72,29⟩,
  .ret (.lst false [(.star (.var 0 "cells" ⟨73,13,73,18⟩) ⟨73,12,73,18⟩), (.star (.bin (.lst false [(.cst (.int 0) (.int 0) 0 ⟨73,22,73,23⟩)] ⟨73,21,73,24⟩) .Mult (.bin (.cst (.int 8) (.int 8) 0 ⟨73,28,73,29⟩) .Sub (.blt false .len "len" [(.var 0 "cells" ⟨73,36,73,41⟩)] ⟨73,32,73,35⟩ ⟨73,32,73,42⟩) ⟨73,28,73,42⟩) ⟨73,21,73,43⟩) ⟨73,20,73,43⟩)] ⟨73,11,73,44⟩) ⟨73,4,73,44⟩]
def d_need_cells : FDef := ⟨1, 2, [], b_need_cells, false, false⟩
def b_kept_state : List MS := [.iff (.orE [(.notE (.call 24 "is_row" [(.var 1 "thing" ⟨61,18,61,23⟩), (.cst (.int 5) (.int 5) 0 ⟨61,25,61,26⟩)] ⟨61,11,61,17⟩ ⟨61,11,61,27⟩) ⟨61,7,61,27⟩), (.notE (.call 17 "is_number" [(.sub (.var 1 "thing" ⟨61,45,61,50⟩) (.cst (.int 0) (.int 0) 0 ⟨61,51,61,52⟩) ⟨61,45,61,53⟩)] ⟨61,35,61,44⟩ ⟨61,35,61,54⟩) ⟨61,31,61,54⟩), (.cmp (.sub (.var 1 "thing" ⟨61,58,61,63⟩) (.cst (.int 0) (.int 0) 0 ⟨61,64,61,65⟩) ⟨61,58,61,66⟩) .Gt (.blt false .len "len" [(.var 0 "program" ⟨61,73,61,80⟩)] ⟨61,69,61,72⟩ ⟨61,69,61,81⟩) ⟨61,58,61,81⟩), (.notE (.call 17 "is_number" [(.sub (.var 1 "thing" ⟨61,100,61,105⟩) (.cst (.int 4) (.int 4) 0 ⟨61,106,61,107⟩) ⟨61,100,61,108⟩)] ⟨61,90,61,99⟩ ⟨61,90,61,109⟩) ⟨61,86,61,109⟩)] ⟨61,7,61,110⟩) [.ret (.cst .non .none 0 ⟨62,15,62,19⟩) ⟨62,8,62,19⟩] [] ⟨61,4,62,19⟩,
  .iff (.orE [(.notE (.call 25 "are_values" [(.sub (.var 1 "thing" ⟨63,22,63,27⟩) (.cst (.int 1) (.int 1) 0 ⟨63,28,63,29⟩) ⟨63,22,63,30⟩), (.cst (.int 8) (.int 8) 0 ⟨63,32,63,33⟩)] ⟨63,11,63,21⟩ ⟨63,11,63,34⟩) ⟨63,7,63,34⟩), (.notE (.call 25 "are_values" [(.sub (.var 1 "thing" ⟨63,53,63,58⟩) (.cst (.int 2) (.int 2) 0 ⟨63,59,63,60⟩) ⟨63,53,63,61⟩), (.cst (.int 32) (.int 32) 0 ⟨63,63,63,65⟩)] ⟨63,42,63,52⟩ ⟨63,42,63,66⟩) ⟨63,38,63,66⟩), (.notE (.call 22 "is_list" [(.sub (.var 1 "thing" ⟨63,83,63,88⟩) (.cst (.int 3) (.int 3) 0 ⟨63,89,63,90⟩) ⟨63,83,63,91⟩)] ⟨63,75,63,82⟩ ⟨63,75,63,92⟩) ⟨63,71,63,92⟩)] ⟨63,7,63,93⟩) [.ret (.cst .non .none 0 ⟨64,15,64,19⟩) ⟨64,8,64,19⟩] [] ⟨63,4,64,19⟩,
  .iff (.notE (.allC (.call 23 "is_value" [(.var 2 "one" ⟨65,25,65,28⟩)] ⟨65,16,65,24⟩ ⟨65,16,65,29⟩) (.var 2 "one" ⟨65,34,65,37⟩) (.sub (.var 1 "thing" ⟨65,41,65,46⟩) (.cst (.int 3) (.int 3) 0 ⟨65,47,65,48⟩) ⟨65,41,65,49⟩) [] ⟨.function, [(".0", .local), ("one", .local), ("is_value", .globalImplicit)], false, false, []⟩ (none, []) ⟨65,15,65,50⟩ ⟨65,11,65,14⟩ ⟨65,11,65,51⟩) ⟨65,7,65,51⟩) [.ret (.cst .non .none 0 ⟨66,15,66,19⟩) ⟨66,8,66,19⟩] [] ⟨65,4,66,19⟩,
  .ret (.tup [(.sub (.var 1 "thing" ⟨67,12,67,17⟩) (.cst (.int 0) (.int 0) 0 ⟨67,18,67,19⟩) ⟨67,12,67,20⟩), (.blt false .list "list" [(.sub (.var 1 "thing" ⟨67,27,67,32⟩) (.cst (.int 1) (.int 1) 0 ⟨67,33,67,34⟩) ⟨67,27,67,35⟩)] ⟨67,22,67,26⟩ ⟨67,22,67,36⟩), (.blt false .list "list" [(.sub (.var 1 "thing" ⟨67,43,67,48⟩) (.cst (.int 2) (.int 2) 0 ⟨67,49,67,50⟩) ⟨67,43,67,51⟩)] ⟨67,38,67,42⟩ ⟨67,38,67,52⟩), (.blt false .list "list" [(.sub (.var 1 "thing" ⟨67,59,67,64⟩) (.cst (.int 3) (.int 3) 0 ⟨67,65,67,66⟩) ⟨67,59,67,67⟩)] ⟨67,54,67,58⟩ ⟨67,54,67,68⟩), (.sub (.var 1 "thing" ⟨67,70,67,75⟩) (.cst (.int 4) (.int 4) 0 ⟨67,76,67,77⟩) ⟨67,70,67,78⟩)] 0 ⟨67,11,67,79⟩) ⟨67,4,67,79⟩]
def d_kept_state : FDef := ⟨2, 3, [], b_kept_state, false, false⟩
def b_need_run : List MS := [.asg (.var 3 "kept" ⟨134,4,134,8⟩) (.call 12 "need_program" [(.var 0 "program" ⟨134,24,134,31⟩)] ⟨134,11,134,23⟩ ⟨134,11,134,32⟩) ⟨134,4,134,32⟩,
  .asg (.var 4 "own" ⟨135,4,135,7⟩) (.call 13 "need_cells" [(.var 1 "cells" ⟨135,21,135,26⟩)] ⟨135,10,135,20⟩ ⟨135,10,135,27⟩) ⟨135,4,135,27⟩,
  .iff (.notE (.call 17 "is_number" [(.var 2 "most" ⟨136,21,136,25⟩)] ⟨136,11,136,20⟩ ⟨136,11,136,26⟩) ⟨136,7,136,26⟩) [.rai 4 "BadMost" [(.var 2 "most" ⟨137,22,137,26⟩)] ⟨137,14,137,21⟩ ⟨137,14,137,27⟩ ⟨137,8,137,27⟩] [] ⟨136,4,137,27⟩,
  .ret (.tup [(.var 3 "kept" ⟨138,12,138,16⟩), (.var 4 "own" ⟨138,18,138,21⟩)] 0 ⟨138,11,138,22⟩) ⟨138,4,138,22⟩]
def d_need_run : FDef := ⟨3, 5, [], b_need_run, false, false⟩
def b_led : List MS := [.nev ((defBody (top 28)).getD 0 (.Pass ⟨0,0,0,0⟩)),
  .nev ((defBody (top 28)).getD 1 (.Pass ⟨0,0,0,0⟩)),
  .nev ((defBody (top 28)).getD 2 (.Pass ⟨0,0,0,0⟩))]
def d_led : FDef := ⟨4, 7, [], b_led, false, false⟩
def b_is_number : List MS := [.ret (.andE [(.call 26 "is_whole" [(.var 0 "thing" ⟨7,20,7,25⟩)] ⟨7,11,7,19⟩ ⟨7,11,7,26⟩), (.cmp (.var 0 "thing" ⟨7,31,7,36⟩) .GtE (.cst (.int 0) (.int 0) 0 ⟨7,40,7,41⟩) ⟨7,31,7,41⟩)] ⟨7,11,7,41⟩) ⟨7,4,7,41⟩]
def d_is_number : FDef := ⟨1, 1, [], b_is_number, false, false⟩
def b_law_same : List MS := [.iff (.isi (.var 1 "due" ⟨192,18,192,21⟩) [(4, "list", ⟨192,24,192,28⟩), (5, "tuple", ⟨192,30,192,35⟩)] false 0 ⟨192,7,192,17⟩ ⟨192,23,192,36⟩ ⟨192,7,192,37⟩) [.iff (.orE [(.cmp (.isi (.var 0 "found" ⟨193,22,193,27⟩) [(4, "list", ⟨193,29,193,33⟩)] true 0 ⟨193,11,193,21⟩ ⟨193,29,193,33⟩ ⟨193,11,193,34⟩) .NotEq (.isi (.var 1 "due" ⟨193,49,193,52⟩) [(4, "list", ⟨193,54,193,58⟩)] true 0 ⟨193,38,193,48⟩ ⟨193,54,193,58⟩ ⟨193,38,193,59⟩) ⟨193,11,193,59⟩), (.cmp (.isi (.var 0 "found" ⟨193,74,193,79⟩) [(5, "tuple", ⟨193,81,193,86⟩)] true 0 ⟨193,63,193,73⟩ ⟨193,81,193,86⟩ ⟨193,63,193,87⟩) .NotEq (.isi (.var 1 "due" ⟨193,102,193,105⟩) [(5, "tuple", ⟨193,107,193,112⟩)] true 0 ⟨193,91,193,101⟩ ⟨193,107,193,112⟩ ⟨193,91,193,113⟩) ⟨193,63,193,113⟩)] ⟨193,11,193,113⟩) [.ret (.cst (.bl false) (.bool false) 0 ⟨194,19,194,24⟩) ⟨194,12,194,24⟩] [] ⟨193,8,194,24⟩, .ret (.andE [(.cmp (.blt false .len "len" [(.var 0 "found" ⟨195,19,195,24⟩)] ⟨195,15,195,18⟩ ⟨195,15,195,25⟩) .Eq (.blt false .len "len" [(.var 1 "due" ⟨195,33,195,36⟩)] ⟨195,29,195,32⟩ ⟨195,29,195,37⟩) ⟨195,15,195,37⟩), (.allC (.call 18 "_law_same" [(.var 2 "mine" ⟨195,57,195,61⟩), (.var 3 "theirs" ⟨195,63,195,69⟩)] ⟨195,47,195,56⟩ ⟨195,47,195,70⟩) (.tup [(.var 2 "mine" ⟨195,75,195,79⟩), (.var 3 "theirs" ⟨195,81,195,87⟩)] 0 ⟨195,75,195,87⟩) (.zip (.var 0 "found" ⟨195,95,195,100⟩) (.var 1 "due" ⟨195,102,195,105⟩) ⟨195,91,195,94⟩ ⟨195,91,195,106⟩) [] ⟨.function, [(".0", .local), ("mine", .local), ("theirs", .local), ("_law_same", .globalImplicit)], false, false, []⟩ (none, []) ⟨195,46,195,107⟩ ⟨195,42,195,45⟩ ⟨195,42,195,108⟩)] ⟨195,15,195,108⟩) ⟨195,8,195,108⟩] [] ⟨192,4,195,108⟩,
  .iff (.isi (.var 1 "due" ⟨196,18,196,21⟩) [(6, "dict", ⟨196,23,196,27⟩)] true 0 ⟨196,7,196,17⟩ ⟨196,23,196,27⟩ ⟨196,7,196,28⟩) [.ret (.andE [(.isi (.var 0 "found" ⟨197,26,197,31⟩) [(6, "dict", ⟨197,33,197,37⟩)] true 0 ⟨197,15,197,25⟩ ⟨197,33,197,37⟩ ⟨197,15,197,38⟩), (.call 18 "_law_same" [(.itm false (.var 0 "found" ⟨197,58,197,63⟩) ⟨197,53,197,57⟩ ⟨197,58,197,69⟩ ⟨197,58,197,71⟩ ⟨197,53,197,72⟩), (.itm false (.var 1 "due" ⟨197,79,197,82⟩) ⟨197,74,197,78⟩ ⟨197,79,197,88⟩ ⟨197,79,197,90⟩ ⟨197,74,197,91⟩)] ⟨197,43,197,52⟩ ⟨197,43,197,92⟩)] ⟨197,15,197,92⟩) ⟨197,8,197,92⟩] [] ⟨196,4,197,92⟩,
  .iff (.orE [(.isi (.var 1 "due" ⟨198,18,198,21⟩) [(3, "bool", ⟨198,23,198,27⟩)] true 0 ⟨198,7,198,17⟩ ⟨198,23,198,27⟩ ⟨198,7,198,28⟩), (.isi (.var 0 "found" ⟨198,43,198,48⟩) [(3, "bool", ⟨198,50,198,54⟩)] true 0 ⟨198,32,198,42⟩ ⟨198,50,198,54⟩ ⟨198,32,198,55⟩)] ⟨198,7,198,55⟩) [.ret (.andE [(.isi (.var 1 "due" ⟨199,26,199,29⟩) [(3, "bool", ⟨199,31,199,35⟩)] true 0 ⟨199,15,199,25⟩ ⟨199,31,199,35⟩ ⟨199,15,199,36⟩), (.isi (.var 0 "found" ⟨199,52,199,57⟩) [(3, "bool", ⟨199,59,199,63⟩)] true 0 ⟨199,41,199,51⟩ ⟨199,59,199,63⟩ ⟨199,41,199,64⟩), (.cmp (.var 0 "found" ⟨199,70,199,75⟩) .Eq (.var 1 "due" ⟨199,79,199,82⟩) ⟨199,70,199,82⟩)] ⟨199,15,199,83⟩) ⟨199,8,199,83⟩] [] ⟨198,4,199,83⟩,
  .iff (.orE [(.isN (.var 1 "due" ⟨200,7,200,10⟩) false 0 ⟨200,14,200,18⟩ ⟨200,7,200,18⟩), (.isN (.var 0 "found" ⟨200,22,200,27⟩) false 0 ⟨200,31,200,35⟩ ⟨200,22,200,35⟩)] ⟨200,7,200,35⟩) [.ret (.andE [(.isN (.var 1 "due" ⟨201,15,201,18⟩) false 0 ⟨201,22,201,26⟩ ⟨201,15,201,26⟩), (.isN (.var 0 "found" ⟨201,31,201,36⟩) false 0 ⟨201,40,201,44⟩ ⟨201,31,201,44⟩)] ⟨201,15,201,44⟩) ⟨201,8,201,44⟩] [] ⟨200,4,201,44⟩,
  .iff (.orE [(.cmp (.isi (.var 1 "due" ⟨202,18,202,21⟩) [(1, "int", ⟨202,23,202,26⟩)] true 0 ⟨202,7,202,17⟩ ⟨202,23,202,26⟩ ⟨202,7,202,27⟩) .NotEq (.isi (.var 0 "found" ⟨202,42,202,47⟩) [(1, "int", ⟨202,49,202,52⟩)] true 0 ⟨202,31,202,41⟩ ⟨202,49,202,52⟩ ⟨202,31,202,53⟩) ⟨202,7,202,53⟩), (.cmp (.isi (.var 1 "due" ⟨202,68,202,71⟩) [(2, "str", ⟨202,73,202,76⟩)] true 0 ⟨202,57,202,67⟩ ⟨202,73,202,76⟩ ⟨202,57,202,77⟩) .NotEq (.isi (.var 0 "found" ⟨202,92,202,97⟩) [(2, "str", ⟨202,99,202,102⟩)] true 0 ⟨202,81,202,91⟩ ⟨202,99,202,102⟩ ⟨202,81,202,103⟩) ⟨202,57,202,103⟩)] ⟨202,7,202,103⟩) [.ret (.cst (.bl false) (.bool false) 0 ⟨203,15,203,20⟩) ⟨203,8,203,20⟩] [] ⟨202,4,203,20⟩,
  .ret (.andE [(.notE (.isi (.var 0 "found" ⟨204,26,204,31⟩) [(4, "list", ⟨204,34,204,38⟩), (5, "tuple", ⟨204,40,204,45⟩), (6, "dict", ⟨204,47,204,51⟩)] false 0 ⟨204,15,204,25⟩ ⟨204,33,204,52⟩ ⟨204,15,204,53⟩) ⟨204,11,204,53⟩), (.cmp (.var 0 "found" ⟨204,58,204,63⟩) .Eq (.var 1 "due" ⟨204,67,204,70⟩) ⟨204,58,204,70⟩)] ⟨204,11,204,70⟩) ⟨204,4,204,70⟩]
def d_law_same : FDef := ⟨2, 4, [], b_law_same, false, false⟩
def b_law_met : List MS := [.try1 [.ret (.tup [(.cst (.str [116, 111, 108, 100]) (.str "told") 0 ⟨217,16,217,22⟩), (.cal 0 "ask" [] ⟨217,24,217,27⟩ ⟨217,24,217,29⟩)] 0 ⟨217,15,217,30⟩) ⟨217,8,217,30⟩] [(3, "BadCells", ⟨218,11,218,19⟩, (some "e"), (.tup [(.cst (.str [99, 101, 108, 108, 115]) (.str "cells") 0 ⟨219,16,219,23⟩), (.xfl 1 "e" "cells" 0 ⟨219,25,219,26⟩ ⟨219,25,219,32⟩)] 0 ⟨219,15,219,33⟩), ⟨219,8,219,33⟩, ⟨218,4,219,33⟩), (4, "BadMost", ⟨220,11,220,18⟩, (some "e"), (.tup [(.cst (.str [109, 111, 115, 116]) (.str "most") 0 ⟨221,16,221,22⟩), (.xfl 1 "e" "most" 0 ⟨221,24,221,25⟩ ⟨221,24,221,30⟩)] 0 ⟨221,15,221,31⟩), ⟨221,8,221,31⟩, ⟨220,4,221,31⟩), (2, "BadProgram", ⟨222,11,222,21⟩, (some "e"), (.tup [(.cst (.str [112, 114, 111, 103, 114, 97, 109]) (.str "program") 0 ⟨223,16,223,25⟩), (.xfl 1 "e" "program" 0 ⟨223,27,223,28⟩ ⟨223,27,223,36⟩)] 0 ⟨223,15,223,37⟩), ⟨223,8,223,37⟩, ⟨222,4,223,37⟩), (0, "BadState", ⟨224,11,224,19⟩, (some "e"), (.tup [(.cst (.str [115, 116, 97, 116, 101]) (.str "state") 0 ⟨225,16,225,23⟩), (.xfl 1 "e" "state" 0 ⟨225,25,225,26⟩ ⟨225,25,225,32⟩)] 0 ⟨225,15,225,33⟩), ⟨225,8,225,33⟩, ⟨224,4,225,33⟩), (1, "BadSteps", ⟨226,11,226,19⟩, (some "e"), (.tup [(.cst (.str [115, 116, 101, 112, 115]) (.str "steps") 0 ⟨227,16,227,23⟩), (.xfl 1 "e" "steps" 0 ⟨227,25,227,26⟩ ⟨227,25,227,32⟩)] 0 ⟨227,15,227,33⟩), ⟨227,8,227,33⟩, ⟨226,4,227,33⟩)] ⟨216,4,227,33⟩]
def d_law_met : FDef := ⟨1, 2, [], b_law_met, false, false⟩
def b_law_is_very : List MS := [.asg (.var 3 "odd" ⟨206,4,206,7⟩) (.lst true [(.cst (.str [111, 100, 100]) (.str "odd") 0 ⟨206,11,206,16⟩)] ⟨206,10,206,17⟩) ⟨206,4,206,17⟩,
  .asg (.var 2 "found" ⟨207,4,207,9⟩) (.call 19 "_law_met" [(.lam 18 lA18 lB18 lS18 ⟨207,21,207,37⟩)] ⟨207,12,207,20⟩ ⟨207,12,207,38⟩) ⟨207,4,207,38⟩,
  .exp (.mth false .append (.var 3 "odd" ⟨208,4,208,7⟩) "append" [(.cst (.str [108, 97, 116, 101]) (.str "late") 0 ⟨208,15,208,21⟩)] ⟨208,4,208,14⟩ ⟨208,4,208,22⟩) ⟨208,4,208,22⟩,
  .ret (.call 18 "_law_same" [(.var 2 "found" ⟨209,21,209,26⟩), (.tup [(.var 0 "word" ⟨209,29,209,33⟩), (.var 3 "odd" ⟨209,35,209,38⟩)] 0 ⟨209,28,209,39⟩)] ⟨209,11,209,20⟩ ⟨209,11,209,40⟩) ⟨209,4,209,40⟩]
def d_law_is_very : FDef := ⟨2, 4, [1, 3], b_law_is_very, false, true⟩
def b_is_program : List MS := [.ret (.andE [(.call 22 "is_list" [(.var 0 "thing" ⟨52,19,52,24⟩)] ⟨52,11,52,18⟩ ⟨52,11,52,25⟩), (.allC (.call 27 "is_row_of" [(.var 1 "row" ⟨52,45,52,48⟩), (.blt false .len "len" [(.var 0 "thing" ⟨52,54,52,59⟩)] ⟨52,50,52,53⟩ ⟨52,50,52,60⟩)] ⟨52,35,52,44⟩ ⟨52,35,52,61⟩) (.var 1 "row" ⟨52,66,52,69⟩) (.var 0 "thing" ⟨52,73,52,78⟩) [] ⟨.function, [(".0", .local), ("row", .local), ("is_row_of", .globalImplicit), ("len", .globalImplicit), ("thing", .free)], false, false, []⟩ (none, [0]) ⟨52,34,52,79⟩ ⟨52,30,52,33⟩ ⟨52,30,52,80⟩)] ⟨52,11,52,80⟩) ⟨52,4,52,80⟩]
def d_is_program : FDef := ⟨1, 2, [0], b_is_program, false, false⟩
def b_is_list : List MS := [.ret (.isi (.var 0 "thing" ⟨3,22,3,27⟩) [(4, "list", ⟨3,30,3,34⟩), (5, "tuple", ⟨3,36,3,41⟩)] false 0 ⟨3,11,3,21⟩ ⟨3,29,3,42⟩ ⟨3,11,3,43⟩) ⟨3,4,3,43⟩]
def d_is_list : FDef := ⟨1, 1, [], b_is_list, false, false⟩
def b_is_value : List MS := [.ret (.andE [(.call 17 "is_number" [(.var 0 "thing" ⟨36,21,36,26⟩)] ⟨36,11,36,20⟩ ⟨36,11,36,27⟩), (.cmp (.var 0 "thing" ⟨36,32,36,37⟩) .LtE (.cst (.int 255) (.int 255) 0 ⟨36,41,36,44⟩) ⟨36,32,36,44⟩)] ⟨36,11,36,44⟩) ⟨36,4,36,44⟩]
def d_is_value : FDef := ⟨1, 1, [], b_is_value, false, false⟩
def b_is_row : List MS := [.ret (.andE [(.call 22 "is_list" [(.var 0 "thing" ⟨9,19,9,24⟩)] ⟨9,11,9,18⟩ ⟨9,11,9,25⟩), (.cmp (.blt false .len "len" [(.var 0 "thing" ⟨9,34,9,39⟩)] ⟨9,30,9,33⟩ ⟨9,30,9,40⟩) .Eq (.var 1 "many" ⟨9,44,9,48⟩) ⟨9,30,9,48⟩)] ⟨9,11,9,48⟩) ⟨9,4,9,48⟩]
def d_is_row : FDef := ⟨2, 2, [], b_is_row, false, false⟩
def b_are_values : List MS := [.ret (.andE [(.call 24 "is_row" [(.var 0 "thing" ⟨59,18,59,23⟩), (.var 1 "many" ⟨59,25,59,29⟩)] ⟨59,11,59,17⟩ ⟨59,11,59,30⟩), (.allC (.call 23 "is_value" [(.var 2 "one" ⟨59,49,59,52⟩)] ⟨59,40,59,48⟩ ⟨59,40,59,53⟩) (.var 2 "one" ⟨59,58,59,61⟩) (.var 0 "thing" ⟨59,65,59,70⟩) [] ⟨.function, [(".0", .local), ("one", .local), ("is_value", .globalImplicit)], false, false, []⟩ (none, []) ⟨59,39,59,71⟩ ⟨59,35,59,38⟩ ⟨59,35,59,72⟩)] ⟨59,11,59,72⟩) ⟨59,4,59,72⟩]
def d_are_values : FDef := ⟨2, 3, [], b_are_values, false, false⟩
def b_is_whole : List MS := [.ret (.andE [(.isi (.var 0 "thing" ⟨5,22,5,27⟩) [(1, "int", ⟨5,29,5,32⟩)] true 0 ⟨5,11,5,21⟩ ⟨5,29,5,32⟩ ⟨5,11,5,33⟩), (.notE (.isi (.var 0 "thing" ⟨5,54,5,59⟩) [(3, "bool", ⟨5,61,5,65⟩)] true 0 ⟨5,43,5,53⟩ ⟨5,61,5,65⟩ ⟨5,43,5,66⟩) ⟨5,39,5,66⟩)] ⟨5,11,5,67⟩) ⟨5,4,5,67⟩]
def d_is_whole : FDef := ⟨1, 1, [], b_is_whole, false, false⟩
def b_is_row_of : List MS := [.iff (.orE [(.notE (.call 22 "is_list" [(.var 0 "thing" ⟨40,19,40,24⟩)] ⟨40,11,40,18⟩ ⟨40,11,40,25⟩) ⟨40,7,40,25⟩), (.cmp (.blt false .len "len" [(.var 0 "thing" ⟨40,33,40,38⟩)] ⟨40,29,40,32⟩ ⟨40,29,40,39⟩) .Eq (.cst (.int 0) (.int 0) 0 ⟨40,43,40,44⟩) ⟨40,29,40,44⟩), (.tyS (.sub (.var 0 "thing" ⟨40,53,40,58⟩) (.cst (.int 0) (.int 0) 0 ⟨40,59,40,60⟩) ⟨40,53,40,61⟩) true ⟨40,48,40,52⟩ ⟨40,48,40,62⟩ ⟨40,70,40,73⟩ ⟨40,48,40,73⟩), (.cmp (.sub (.var 0 "thing" ⟨40,78,40,83⟩) (.cst (.int 0) (.int 0) 0 ⟨40,84,40,85⟩) ⟨40,78,40,86⟩) .NotIn (.gct 0 "FIELDS" ⟨40,94,40,100⟩) ⟨40,78,40,100⟩)] ⟨40,7,40,101⟩) [.ret (.cst (.bl false) (.bool false) 0 ⟨41,15,41,20⟩) ⟨41,8,41,20⟩] [] ⟨40,4,41,20⟩,
  .asg (.var 2 "kinds" ⟨42,4,42,9⟩) (.sub (.gct 0 "FIELDS" ⟨42,12,42,18⟩) (.sub (.var 0 "thing" ⟨42,19,42,24⟩) (.cst (.int 0) (.int 0) 0 ⟨42,25,42,26⟩) ⟨42,19,42,27⟩) ⟨42,12,42,28⟩) ⟨42,4,42,28⟩,
  .iff (.cmp (.blt false .len "len" [(.var 0 "thing" ⟨43,11,43,16⟩)] ⟨43,7,43,10⟩ ⟨43,7,43,17⟩) .NotEq (.bin (.blt false .len "len" [(.var 2 "kinds" ⟨43,25,43,30⟩)] ⟨43,21,43,24⟩ ⟨43,21,43,31⟩) .Add (.cst (.int 1) (.int 1) 0 ⟨43,34,43,35⟩) ⟨43,21,43,35⟩) ⟨43,7,43,35⟩) [.ret (.cst (.bl false) (.bool false) 0 ⟨44,15,44,20⟩) ⟨44,8,44,20⟩] [] ⟨43,4,44,20⟩,
  .for (.tup [(.var 3 "kind" ⟨45,8,45,12⟩), (.var 4 "part" ⟨45,14,45,18⟩)] 0 ⟨45,8,45,18⟩) (.zip (.var 2 "kinds" ⟨45,26,45,31⟩) (.slc false (.var 0 "thing" ⟨45,33,45,38⟩) (some (.cst (.int 1) (.int 1) 0 ⟨45,39,45,40⟩)) none ⟨45,39,45,41⟩ ⟨45,33,45,42⟩) ⟨45,22,45,25⟩ ⟨45,22,45,43⟩) [.iff (.orE [(.andE [(.cmp (.var 3 "kind" ⟨46,11,46,15⟩) .Eq (.cst (.str [99]) (.str "c") 0 ⟨46,19,46,22⟩) ⟨46,11,46,22⟩), (.notE (.call 28 "is_cell" [(.var 4 "part" ⟨46,40,46,44⟩)] ⟨46,32,46,39⟩ ⟨46,32,46,45⟩) ⟨46,28,46,45⟩)] ⟨46,11,46,46⟩), (.andE [(.cmp (.var 3 "kind" ⟨46,51,46,55⟩) .Eq (.cst (.str [110]) (.str "n") 0 ⟨46,59,46,62⟩) ⟨46,51,46,62⟩), (.notE (.call 23 "is_value" [(.var 4 "part" ⟨46,81,46,85⟩)] ⟨46,72,46,80⟩ ⟨46,72,46,86⟩) ⟨46,68,46,86⟩)] ⟨46,51,46,87⟩)] ⟨46,11,46,88⟩) [.ret (.cst (.bl false) (.bool false) 0 ⟨47,19,47,24⟩) ⟨47,12,47,24⟩] [] ⟨46,8,47,24⟩, .iff (.andE [(.cmp (.var 3 "kind" ⟨48,11,48,15⟩) .Eq (.cst (.str [108]) (.str "l") 0 ⟨48,19,48,22⟩) ⟨48,11,48,22⟩), (.orE [(.notE (.call 17 "is_number" [(.var 4 "part" ⟨48,42,48,46⟩)] ⟨48,32,48,41⟩ ⟨48,32,48,47⟩) ⟨48,28,48,47⟩), (.cmp (.var 4 "part" ⟨48,51,48,55⟩) .Gt (.var 1 "labels" ⟨48,58,48,64⟩) ⟨48,51,48,64⟩)] ⟨48,28,48,64⟩)] ⟨48,11,48,65⟩) [.ret (.cst (.bl false) (.bool false) 0 ⟨49,19,49,24⟩) ⟨49,12,49,24⟩] [] ⟨48,8,49,24⟩] ⟨45,4,49,24⟩,
  .ret (.cst (.bl true) (.bool true) 0 ⟨50,11,50,15⟩) ⟨50,4,50,15⟩]
def d_is_row_of : FDef := ⟨2, 5, [], b_is_row_of, false, false⟩
def b_is_cell : List MS := [.ret (.andE [(.call 17 "is_number" [(.var 0 "thing" ⟨38,21,38,26⟩)] ⟨38,11,38,20⟩ ⟨38,11,38,27⟩), (.cmp (.var 0 "thing" ⟨38,32,38,37⟩) .LtE (.cst (.int 7) (.int 7) 0 ⟨38,41,38,42⟩) ⟨38,32,38,42⟩)] ⟨38,11,38,42⟩) ⟨38,4,38,42⟩]
def d_is_cell : FDef := ⟨1, 1, [], b_is_cell, false, false⟩
def b_law : List MS := [.asg (.var 1 "stream" ⟨229,4,229,10⟩) (.call 0 "_law_stream" [(.var 0 "script" ⟨229,25,229,31⟩)] ⟨229,13,229,24⟩ ⟨229,13,229,32⟩) ⟨229,4,229,32⟩,
  .asg (.var 5 "some" ⟨230,4,230,8⟩) (.lst false [(.tup [(.cst (.str [115, 101, 116]) (.str "set") 0 ⟨230,13,230,18⟩), (.call 1 "_law_draw" [(.var 1 "stream" ⟨230,30,230,36⟩), (.cst (.int 8) (.int 8) 0 ⟨230,38,230,39⟩)] ⟨230,20,230,29⟩ ⟨230,20,230,40⟩), (.cst (.int 5) (.int 5) 0 ⟨230,42,230,43⟩)] 0 ⟨230,12,230,44⟩), (.tup [(.cst (.str [122, 101, 114, 111]) (.str "zero") 0 ⟨230,47,230,53⟩), (.cst (.int 1) (.int 1) 0 ⟨230,55,230,56⟩), (.cst (.int 2) (.int 2) 0 ⟨230,58,230,59⟩)] 0 ⟨230,46,230,60⟩)] ⟨230,11,230,61⟩) ⟨230,4,230,61⟩,
  .asg (.var 2 "asks" ⟨231,4,231,8⟩) (.lst true [(.gfn 2 "counts" ⟨231,12,231,18⟩)] ⟨231,11,231,19⟩) ⟨231,4,231,19⟩,
  .exp (.mth false .append (.var 2 "asks" ⟨232,4,232,8⟩) "append" [(.lam 0 lA0 lB0 lS0 ⟨232,16,232,44⟩)] ⟨232,4,232,15⟩ ⟨232,4,232,45⟩) ⟨232,4,232,45⟩,
  .exp (.mth false .append (.var 2 "asks" ⟨233,4,233,8⟩) "append" [(.lam 1 lA1 lB1 lS1 ⟨233,16,233,47⟩)] ⟨233,4,233,15⟩ ⟨233,4,233,48⟩) ⟨233,4,233,48⟩,
  .exp (.mth false .append (.var 2 "asks" ⟨234,4,234,8⟩) "append" [(.lam 2 lA2 lB2 lS2 ⟨234,16,234,49⟩)] ⟨234,4,234,15⟩ ⟨234,4,234,50⟩) ⟨234,4,234,50⟩,
  .exp (.mth false .append (.var 2 "asks" ⟨235,4,235,8⟩) "append" [(.lam 3 lA3 lB3 lS3 ⟨235,16,235,48⟩)] ⟨235,4,235,15⟩ ⟨235,4,235,49⟩) ⟨235,4,235,49⟩,
  .exp (.mth false .append (.var 2 "asks" ⟨236,4,236,8⟩) "append" [(.lam 4 lA4 lB4 lS4 ⟨236,16,236,56⟩)] ⟨236,4,236,15⟩ ⟨236,4,236,57⟩) ⟨236,4,236,57⟩,
  .exp (.mth false .append (.var 2 "asks" ⟨237,4,237,8⟩) "append" [(.lam 5 lA5 lB5 lS5 ⟨237,16,237,50⟩)] ⟨237,4,237,15⟩ ⟨237,4,237,51⟩) ⟨237,4,237,51⟩,
  .exp (.mth false .append (.var 2 "asks" ⟨238,4,238,8⟩) "append" [(.lam 6 lA6 lB6 lS6 ⟨238,16,238,55⟩)] ⟨238,4,238,15⟩ ⟨238,4,238,56⟩) ⟨238,4,238,56⟩,
  .iff (.notE (.call 10 "_law_all_refused" [(.cst (.str [112, 114, 111, 103, 114, 97, 109]) (.str "program") 0 ⟨239,28,239,37⟩), (.lst false [(.cst .non .none 0 ⟨239,40,239,44⟩), (.cst (.int 5) (.int 5) 0 ⟨239,46,239,47⟩), (.cst (.str [104, 97, 108, 116]) (.str "halt") 0 ⟨239,49,239,55⟩), (.dic false [] [] ⟨239,57,239,59⟩), (.lst false [(.tup [] 0 ⟨239,62,239,64⟩)] ⟨239,61,239,65⟩), (.lst false [(.tup [(.cst (.str [106, 117, 109, 112]) (.str "jump") 0 ⟨239,69,239,75⟩), (.cst (.int 2) (.int 2) 0 ⟨239,77,239,78⟩)] 0 ⟨239,68,239,79⟩)] ⟨239,67,239,80⟩), (.lst false [(.tup [(.cst (.str [115, 101, 116]) (.str "set") 0 ⟨239,84,239,89⟩), (.cst (.int 0) (.int 0) 0 ⟨239,91,239,92⟩), (.cst (.int 256) (.int 256) 0 ⟨239,94,239,97⟩)] 0 ⟨239,83,239,98⟩)] ⟨239,82,239,99⟩), (.lst false [(.tup [(.cst (.str [98, 97, 99, 107]) (.str "back") 0 ⟨239,103,239,109⟩)] 0 ⟨239,102,239,111⟩)] ⟨239,101,239,112⟩)] ⟨239,39,239,113⟩), (.var 2 "asks" ⟨239,115,239,119⟩)] ⟨239,11,239,27⟩ ⟨239,11,239,120⟩) ⟨239,7,239,120⟩) [.ret (.cst (.bl false) (.bool false) 0 ⟨240,15,240,20⟩) ⟨240,8,240,20⟩] [] ⟨239,4,240,20⟩,
  .asg (.var 2 "asks" ⟨241,4,241,8⟩) (.lst true [(.lam 7 lA7 lB7 lS7 ⟨241,12,241,40⟩)] ⟨241,11,241,41⟩) ⟨241,4,241,41⟩,
  .exp (.mth false .append (.var 2 "asks" ⟨242,4,242,8⟩) "append" [(.lam 8 lA8 lB8 lS8 ⟨242,16,242,48⟩)] ⟨242,4,242,15⟩ ⟨242,4,242,49⟩) ⟨242,4,242,49⟩,
  .exp (.mth false .append (.var 2 "asks" ⟨243,4,243,8⟩) "append" [(.lam 9 lA9 lB9 lS9 ⟨243,16,243,56⟩)] ⟨243,4,243,15⟩ ⟨243,4,243,57⟩) ⟨243,4,243,57⟩,
  .exp (.mth false .append (.var 2 "asks" ⟨244,4,244,8⟩) "append" [(.lam 10 lA10 lB10 lS10 ⟨244,16,244,50⟩)] ⟨244,4,244,15⟩ ⟨244,4,244,51⟩) ⟨244,4,244,51⟩,
  .exp (.mth false .append (.var 2 "asks" ⟨245,4,245,8⟩) "append" [(.lam 11 lA11 lB11 lS11 ⟨245,16,245,55⟩)] ⟨245,4,245,15⟩ ⟨245,4,245,56⟩) ⟨245,4,245,56⟩,
  .iff (.notE (.call 10 "_law_all_refused" [(.cst (.str [99, 101, 108, 108, 115]) (.str "cells") 0 ⟨246,28,246,35⟩), (.lst false [(.cst .non .none 0 ⟨246,38,246,42⟩), (.cst (.int 5) (.int 5) 0 ⟨246,44,246,45⟩), (.cst (.str [48, 48]) (.str "00") 0 ⟨246,47,246,51⟩), (.dic false [] [] ⟨246,53,246,55⟩), (.bin (.lst false [(.cst (.int 0) (.int 0) 0 ⟨246,58,246,59⟩)] ⟨246,57,246,60⟩) .Mult (.cst (.int 9) (.int 9) 0 ⟨246,63,246,64⟩) ⟨246,57,246,64⟩), (.lst false [(.cst (.int 256) (.int 256) 0 ⟨246,67,246,70⟩)] ⟨246,66,246,71⟩), (.lst false [(.neg (.cst (.int 1) (.int 1) 0 ⟨246,75,246,76⟩) ⟨246,74,246,76⟩)] ⟨246,73,246,77⟩), (.lst false [(.cst (.bl true) (.bool true) 0 ⟨246,80,246,84⟩)] ⟨246,79,246,85⟩), (.lst false [(.cst .non .none 0 ⟨246,88,246,92⟩)] ⟨246,87,246,93⟩)] ⟨246,37,246,94⟩), (.var 2 "asks" ⟨246,96,246,100⟩)] ⟨246,11,246,27⟩ ⟨246,11,246,101⟩) ⟨246,7,246,101⟩) [.ret (.cst (.bl false) (.bool false) 0 ⟨247,15,247,20⟩) ⟨247,8,247,20⟩] [] ⟨246,4,247,20⟩,
  .asg (.var 3 "right" ⟨248,4,248,9⟩) (.tup [(.cst (.int 2) (.int 2) 0 ⟨248,13,248,14⟩), (.bin (.lst false [(.cst (.int 0) (.int 0) 0 ⟨248,17,248,18⟩)] ⟨248,16,248,19⟩) .Mult (.cst (.int 8) (.int 8) 0 ⟨248,22,248,23⟩) ⟨248,16,248,23⟩), (.bin (.lst false [(.cst (.int 0) (.int 0) 0 ⟨248,26,248,27⟩)] ⟨248,25,248,28⟩) .Mult (.cst (.int 32) (.int 32) 0 ⟨248,31,248,33⟩) ⟨248,25,248,33⟩), (.lst false [] ⟨248,35,248,37⟩), (.cst (.int 0) (.int 0) 0 ⟨248,39,248,40⟩)] 0 ⟨248,12,248,41⟩) ⟨248,4,248,41⟩,
  .asg (.var 4 "odds" ⟨249,4,249,8⟩) (.lst false [(.cst .non .none 0 ⟨249,12,249,16⟩), (.cst (.int 5) (.int 5) 0 ⟨249,18,249,19⟩), (.dic false [] [] ⟨249,21,249,23⟩), (.tup [] 0 ⟨249,25,249,27⟩), (.slc false (.var 3 "right" ⟨249,29,249,34⟩) none (some (.cst (.int 4) (.int 4) 0 ⟨249,36,249,37⟩)) ⟨249,35,249,37⟩ ⟨249,29,249,38⟩), (.bin (.tup [(.cst (.int 3) (.int 3) 0 ⟨249,41,249,42⟩)] 0 ⟨249,40,249,44⟩) .Add (.slc false (.var 3 "right" ⟨249,47,249,52⟩) (some (.cst (.int 1) (.int 1) 0 ⟨249,53,249,54⟩)) none ⟨249,53,249,55⟩ ⟨249,47,249,56⟩) ⟨249,40,249,56⟩), (.bin (.tup [(.cst (.int 2) (.int 2) 0 ⟨249,59,249,60⟩), (.bin (.lst false [(.cst (.int 0) (.int 0) 0 ⟨249,63,249,64⟩)] ⟨249,62,249,65⟩) .Mult (.cst (.int 7) (.int 7) 0 ⟨249,68,249,69⟩) ⟨249,62,249,69⟩)] 0 ⟨249,58,249,70⟩) .Add (.slc false (.var 3 "right" ⟨249,73,249,78⟩) (some (.cst (.int 2) (.int 2) 0 ⟨249,79,249,80⟩)) none ⟨249,79,249,81⟩ ⟨249,73,249,82⟩) ⟨249,58,249,82⟩), (.tup [(.cst (.int 2) (.int 2) 0 ⟨249,85,249,86⟩), (.bin (.lst false [(.cst (.int 0) (.int 0) 0 ⟨249,89,249,90⟩)] ⟨249,88,249,91⟩) .Mult (.cst (.int 8) (.int 8) 0 ⟨249,94,249,95⟩) ⟨249,88,249,95⟩), (.bin (.lst false [(.cst (.int 0) (.int 0) 0 ⟨249,98,249,99⟩)] ⟨249,97,249,100⟩) .Mult (.cst (.int 33) (.int 33) 0 ⟨249,103,249,105⟩) ⟨249,97,249,105⟩), (.lst false [] ⟨249,107,249,109⟩), (.cst (.int 0) (.int 0) 0 ⟨249,111,249,112⟩)] 0 ⟨249,84,249,113⟩), (.bin (.slc false (.var 3 "right" ⟨249,115,249,120⟩) none (some (.cst (.int 3) (.int 3) 0 ⟨249,122,249,123⟩)) ⟨249,121,249,123⟩ ⟨249,115,249,124⟩) .Add (.tup [(.lst false [(.cst (.int 256) (.int 256) 0 ⟨249,129,249,132⟩)] ⟨249,128,249,133⟩), (.cst (.int 0) (.int 0) 0 ⟨249,135,249,136⟩)] 0 ⟨249,127,249,137⟩) ⟨249,115,249,137⟩), (.bin (.slc false (.var 3 "right" ⟨249,139,249,144⟩) none (some (.cst (.int 4) (.int 4) 0 ⟨249,146,249,147⟩)) ⟨249,145,249,147⟩ ⟨249,139,249,148⟩) .Add (.tup [(.neg (.cst (.int 1) (.int 1) 0 ⟨249,153,249,154⟩) ⟨249,152,249,154⟩)] 0 ⟨249,151,249,156⟩) ⟨249,139,249,156⟩), (.bin (.slc false (.var 3 "right" ⟨249,158,249,163⟩) none (some (.cst (.int 4) (.int 4) 0 ⟨249,165,249,166⟩)) ⟨249,164,249,166⟩ ⟨249,158,249,167⟩) .Add (.tup [(.cst (.bl true) (.bool true) 0 ⟨249,171,249,175⟩)] 0 ⟨249,170,249,177⟩) ⟨249,158,249,177⟩), (.bin (.var 3 "right" ⟨249,179,249,184⟩) .Add (.tup [(.cst (.int 0) (.int 0) 0 ⟨249,188,249,189⟩)] 0 ⟨249,187,249,191⟩) ⟨249,179,249,191⟩)] ⟨249,11,249,192⟩) ⟨249,4,249,192⟩,
  .iff (.notE (.call 10 "_law_all_refused" [(.cst (.str [115, 116, 97, 116, 101]) (.str "state") 0 ⟨250,28,250,35⟩), (.var 4 "odds" ⟨250,37,250,41⟩), (.lst false [(.lam 12 lA12 lB12 lS12 ⟨250,44,250,77⟩)] ⟨250,43,250,78⟩)] ⟨250,11,250,27⟩ ⟨250,11,250,79⟩) ⟨250,7,250,79⟩) [.ret (.cst (.bl false) (.bool false) 0 ⟨251,15,251,20⟩) ⟨251,8,251,20⟩] [] ⟨250,4,251,20⟩,
  .asg (.var 2 "asks" ⟨252,4,252,8⟩) (.lst true [(.lam 13 lA13 lB13 lS13 ⟨252,12,252,42⟩)] ⟨252,11,252,43⟩) ⟨252,4,252,43⟩,
  .exp (.mth false .append (.var 2 "asks" ⟨253,4,253,8⟩) "append" [(.lam 14 lA14 lB14 lS14 ⟨253,16,253,48⟩)] ⟨253,4,253,15⟩ ⟨253,4,253,49⟩) ⟨253,4,253,49⟩,
  .exp (.mth false .append (.var 2 "asks" ⟨254,4,254,8⟩) "append" [(.lam 15 lA15 lB15 lS15 ⟨254,16,254,53⟩)] ⟨254,4,254,15⟩ ⟨254,4,254,54⟩) ⟨254,4,254,54⟩,
  .iff (.notE (.call 10 "_law_all_refused" [(.cst (.str [109, 111, 115, 116]) (.str "most") 0 ⟨255,28,255,34⟩), (.lst false [(.cst .non .none 0 ⟨255,37,255,41⟩), (.neg (.cst (.int 1) (.int 1) 0 ⟨255,44,255,45⟩) ⟨255,43,255,45⟩), (.cst (.str [51]) (.str "3") 0 ⟨255,47,255,50⟩), (.lst false [] ⟨255,52,255,54⟩), (.cst (.bl true) (.bool true) 0 ⟨255,56,255,60⟩), (.dic false [] [] ⟨255,62,255,64⟩)] ⟨255,36,255,65⟩), (.var 2 "asks" ⟨255,67,255,71⟩)] ⟨255,11,255,27⟩ ⟨255,11,255,72⟩) ⟨255,7,255,72⟩) [.ret (.cst (.bl false) (.bool false) 0 ⟨256,15,256,20⟩) ⟨256,8,256,20⟩] [] ⟨255,4,256,20⟩,
  .ret (.call 10 "_law_all_refused" [(.cst (.str [115, 116, 101, 112, 115]) (.str "steps") 0 ⟨257,28,257,35⟩), (.lst false [(.cst .non .none 0 ⟨257,38,257,42⟩), (.neg (.cst (.int 1) (.int 1) 0 ⟨257,45,257,46⟩) ⟨257,44,257,46⟩), (.cst (.str [51]) (.str "3") 0 ⟨257,48,257,51⟩), (.lst false [] ⟨257,53,257,55⟩), (.cst (.bl true) (.bool true) 0 ⟨257,57,257,61⟩), (.dic false [] [] ⟨257,63,257,65⟩)] ⟨257,37,257,66⟩), (.lst false [(.lam 16 lA16 lB16 lS16 ⟨257,69,257,107⟩)] ⟨257,68,257,108⟩)] ⟨257,11,257,27⟩ ⟨257,11,257,109⟩) ⟨257,4,257,109⟩]
def lDef0 : LDef := ⟨1, 1, [], lB0⟩
def lInfo0 : LInfo := ⟨"law.<locals>.<lambda>", lA0, un lB0, lS0, ["odd"], [], ["odd"]⟩
def lDef1 : LDef := ⟨1, 1, [], lB1⟩
def lInfo1 : LInfo := ⟨"law.<locals>.<lambda>", lA1, un lB1, lS1, ["odd"], [], ["odd"]⟩
def lDef2 : LDef := ⟨1, 1, [], lB2⟩
def lInfo2 : LInfo := ⟨"law.<locals>.<lambda>", lA2, un lB2, lS2, ["odd"], [], ["odd"]⟩
def lDef3 : LDef := ⟨1, 1, [], lB3⟩
def lInfo3 : LInfo := ⟨"law.<locals>.<lambda>", lA3, un lB3, lS3, ["odd"], [], ["odd"]⟩
def lDef4 : LDef := ⟨1, 1, [], lB4⟩
def lInfo4 : LInfo := ⟨"law.<locals>.<lambda>", lA4, un lB4, lS4, ["odd"], [], ["odd"]⟩
def lDef5 : LDef := ⟨1, 1, [], lB5⟩
def lInfo5 : LInfo := ⟨"law.<locals>.<lambda>", lA5, un lB5, lS5, ["odd"], [], ["odd"]⟩
def lDef6 : LDef := ⟨1, 1, [], lB6⟩
def lInfo6 : LInfo := ⟨"law.<locals>.<lambda>", lA6, un lB6, lS6, ["odd"], [], ["odd"]⟩
def lDef7 : LDef := ⟨1, 2, [(0, 5)], lB7⟩
def lInfo7 : LInfo := ⟨"law.<locals>.<lambda>", lA7, un lB7, lS7, ["odd"], ["some"], ["odd", "some"]⟩
def lDef8 : LDef := ⟨1, 2, [(0, 5)], lB8⟩
def lInfo8 : LInfo := ⟨"law.<locals>.<lambda>", lA8, un lB8, lS8, ["odd"], ["some"], ["odd", "some"]⟩
def lDef9 : LDef := ⟨1, 2, [(0, 5)], lB9⟩
def lInfo9 : LInfo := ⟨"law.<locals>.<lambda>", lA9, un lB9, lS9, ["odd"], ["some"], ["odd", "some"]⟩
def lDef10 : LDef := ⟨1, 2, [(0, 5)], lB10⟩
def lInfo10 : LInfo := ⟨"law.<locals>.<lambda>", lA10, un lB10, lS10, ["odd"], ["some"], ["odd", "some"]⟩
def lDef11 : LDef := ⟨1, 2, [(0, 5)], lB11⟩
def lInfo11 : LInfo := ⟨"law.<locals>.<lambda>", lA11, un lB11, lS11, ["odd"], ["some"], ["odd", "some"]⟩
def lDef12 : LDef := ⟨1, 2, [(0, 5)], lB12⟩
def lInfo12 : LInfo := ⟨"law.<locals>.<lambda>", lA12, un lB12, lS12, ["odd"], ["some"], ["odd", "some"]⟩
def lDef13 : LDef := ⟨1, 2, [(0, 5)], lB13⟩
def lInfo13 : LInfo := ⟨"law.<locals>.<lambda>", lA13, un lB13, lS13, ["odd"], ["some"], ["odd", "some"]⟩
def lDef14 : LDef := ⟨1, 2, [(0, 5)], lB14⟩
def lInfo14 : LInfo := ⟨"law.<locals>.<lambda>", lA14, un lB14, lS14, ["odd"], ["some"], ["odd", "some"]⟩
def lDef15 : LDef := ⟨1, 2, [(0, 5)], lB15⟩
def lInfo15 : LInfo := ⟨"law.<locals>.<lambda>", lA15, un lB15, lS15, ["odd"], ["some"], ["odd", "some"]⟩
def lDef16 : LDef := ⟨1, 2, [(0, 5)], lB16⟩
def lInfo16 : LInfo := ⟨"law.<locals>.<lambda>", lA16, un lB16, lS16, ["odd"], ["some"], ["odd", "some"]⟩
def lDef17 : LDef := ⟨0, 2, [(0, 4), (1, 3)], lB17⟩
def lInfo17 : LInfo := ⟨"_law_all_refused.<locals>.<lambda>", lA17, un lB17, lS17, [], ["odd", "ask"], ["odd", "ask"]⟩
def lDef18 : LDef := ⟨0, 2, [(0, 3), (1, 1)], lB18⟩
def lInfo18 : LInfo := ⟨"_law_is_very.<locals>.<lambda>", lA18, un lB18, lS18, [], ["odd", "ask"], ["odd", "ask"]⟩
def lDefs : List LDef := [lDef0, lDef1, lDef2, lDef3, lDef4, lDef5, lDef6, lDef7, lDef8, lDef9, lDef10, lDef11, lDef12, lDef13, lDef14, lDef15, lDef16, lDef17, lDef18]
def lInfos : List LInfo := [lInfo0, lInfo1, lInfo2, lInfo3, lInfo4, lInfo5, lInfo6, lInfo7, lInfo8, lInfo9, lInfo10, lInfo11, lInfo12, lInfo13, lInfo14, lInfo15, lInfo16, lInfo17, lInfo18]
def consts : List MV := [.wdi [.str [115, 101, 116], .str [109, 111, 118, 101], .str [97, 100, 100], .str [115, 117, 98], .str [109, 117, 108], .str [108, 101, 115, 115], .str [108, 111, 97, 100], .str [115, 116, 111, 114, 101], .str [112, 114, 105, 110, 116], .str [106, 117, 109, 112], .str [122, 101, 114, 111], .str [104, 97, 108, 116]] [.str [99, 110], .str [99, 99], .str [99, 99], .str [99, 99], .str [99, 99], .str [99, 99], .str [99, 99], .str [99, 99], .str [99], .str [108], .str [99, 108], .str []]]
def P : Prg := ⟨[d_law_stream, d_law_draw, d_counts, d_begun, d_is_state, d_next_state, d_run, d_state_after, d_trace, d_counts_run, d_law_all_refused, d_counted, d_need_program, d_need_cells, d_kept_state, d_need_run, d_led, d_is_number, d_law_same, d_law_met, d_law_is_very, d_is_program, d_is_list, d_is_value, d_is_row, d_are_values, d_is_whole, d_is_row_of, d_is_cell], lDefs, consts, 5⟩
def D : Dat := ⟨["_law_stream", "_law_draw", "counts", "begun", "is_state", "next_state", "run", "state_after", "trace", "counts_run", "_law_all_refused", "counted", "need_program", "need_cells", "kept_state", "need_run", "led", "is_number", "_law_same", "_law_met", "_law_is_very", "is_program", "is_list", "is_value", "is_row", "are_values", "is_whole", "is_row_of", "is_cell"], ["FIELDS"], ["BadState", "BadSteps", "BadProgram", "BadCells", "BadMost"], [["state"], ["steps"], ["program"], ["cells"], ["most"]], lInfos⟩
def n_law_stream : List Str := ["script"]
def n_law_draw : List Str := ["stream", "many", "cell", "digit", "mixed"]
def n_counts : List Str := ["program"]
def n_begun : List Str := ["program", "cells"]
def n_is_state : List Str := ["program", "thing"]
def n_next_state : List Str := ["program", "state", "kept", "own", "plain", "end"]
def n_run : List Str := ["program", "cells", "most", "kept", "own", "plain", "end"]
def n_state_after : List Str := ["program", "cells", "steps", "kept", "own", "plain", "end"]
def n_trace : List Str := ["program", "cells", "most", "kept", "own", "seen"]
def n_counts_run : List Str := ["program", "cells", "most", "kept", "own", "seen", "index"]
def n_law_all_refused : List Str := ["word", "odds", "asks", "ask", "odd"]
def n_counted : List Str := ["rows", "found", "row", "kind", "symbol"]
def n_need_program : List Str := ["program", "row"]
def n_need_cells : List Str := ["cells", "one"]
def n_kept_state : List Str := ["program", "thing", "one"]
def n_need_run : List Str := ["program", "cells", "most", "kept", "own"]
def n_led : List Str := ["program", "cells", "most", "seen", "plain", "end", "here"]
def n_is_number : List Str := ["thing"]
def n_law_same : List Str := ["found", "due", "mine", "theirs"]
def n_law_met : List Str := ["ask", "e"]
def n_law_is_very : List Str := ["word", "ask", "found", "odd"]
def n_is_program : List Str := ["thing", "row"]
def n_is_list : List Str := ["thing"]
def n_is_value : List Str := ["thing"]
def n_is_row : List Str := ["thing", "many"]
def n_are_values : List Str := ["thing", "many", "one"]
def n_is_whole : List Str := ["thing"]
def n_is_row_of : List Str := ["thing", "labels", "kinds", "kind", "part"]
def n_is_cell : List Str := ["thing"]
def n_law : List Str := ["script", "stream", "asks", "right", "odds", "some"]
def a_law_stream : DD := ⟨"_law_stream", defArgs (top 40), unB b_law_stream, defScope (top 40), n_law_stream, ["script"]⟩
def a_law_draw : DD := ⟨"_law_draw", defArgs (top 41), unB b_law_draw, defScope (top 41), n_law_draw, ["stream", "many"]⟩
def a_counts : DD := ⟨"counts", defArgs (top 37), unB b_counts, defScope (top 37), n_counts, ["program"]⟩
def a_begun : DD := ⟨"begun", defArgs (top 24), unB b_begun, defScope (top 24), n_begun, ["program", "cells"]⟩
def a_is_state : DD := ⟨"is_state", defArgs (top 22), unB b_is_state, defScope (top 22), n_is_state, ["program", "thing"]⟩
def a_next_state : DD := ⟨"next_state", defArgs (top 27), unB b_next_state, defScope (top 27), n_next_state, ["program", "state"]⟩
def a_run : DD := ⟨"run", defArgs (top 30), unB b_run, defScope (top 30), n_run, ["program", "cells", "most"]⟩
def a_state_after : DD := ⟨"state_after", defArgs (top 31), unB b_state_after, defScope (top 31), n_state_after, ["program", "cells", "steps"]⟩
def a_trace : DD := ⟨"trace", defArgs (top 32), unB b_trace, defScope (top 32), n_trace, ["program", "cells", "most"]⟩
def a_counts_run : DD := ⟨"counts_run", defArgs (top 38), unB b_counts_run, defScope (top 38), n_counts_run, ["program", "cells", "most"]⟩
def a_law_all_refused : DD := ⟨"_law_all_refused", defArgs (top 44), unB b_law_all_refused, defScope (top 44), n_law_all_refused, ["word", "odds", "asks"]⟩
def a_counted : DD := ⟨"counted", defArgs (top 36), unB b_counted, defScope (top 36), n_counted, ["rows"]⟩
def a_need_program : DD := ⟨"need_program", defArgs (top 18), unB b_need_program, defScope (top 18), n_need_program, ["program"]⟩
def a_need_cells : DD := ⟨"need_cells", defArgs (top 23), unB b_need_cells, defScope (top 23), n_need_cells, ["cells"]⟩
def a_kept_state : DD := ⟨"kept_state", defArgs (top 21), unB b_kept_state, defScope (top 21), n_kept_state, ["program", "thing"]⟩
def a_need_run : DD := ⟨"need_run", defArgs (top 29), unB b_need_run, defScope (top 29), n_need_run, ["program", "cells", "most"]⟩
def a_led : DD := ⟨"led", defArgs (top 28), unB b_led, defScope (top 28), n_led, ["program", "cells", "most", "seen"]⟩
def a_is_number : DD := ⟨"is_number", defArgs (top 3), unB b_is_number, defScope (top 3), n_is_number, ["thing"]⟩
def a_law_same : DD := ⟨"_law_same", defArgs (top 42), unB b_law_same, defScope (top 42), n_law_same, ["found", "due"]⟩
def a_law_met : DD := ⟨"_law_met", defArgs (top 45), unB b_law_met, defScope (top 45), n_law_met, ["ask"]⟩
def a_law_is_very : DD := ⟨"_law_is_very", defArgs (top 43), unB b_law_is_very, defScope (top 43), n_law_is_very, ["word", "ask"]⟩
def a_is_program : DD := ⟨"is_program", defArgs (top 17), unB b_is_program, defScope (top 17), n_is_program, ["thing"]⟩
def a_is_list : DD := ⟨"is_list", defArgs (top 1), unB b_is_list, defScope (top 1), n_is_list, ["thing"]⟩
def a_is_value : DD := ⟨"is_value", defArgs (top 14), unB b_is_value, defScope (top 14), n_is_value, ["thing"]⟩
def a_is_row : DD := ⟨"is_row", defArgs (top 4), unB b_is_row, defScope (top 4), n_is_row, ["thing", "many"]⟩
def a_are_values : DD := ⟨"are_values", defArgs (top 20), unB b_are_values, defScope (top 20), n_are_values, ["thing", "many"]⟩
def a_is_whole : DD := ⟨"is_whole", defArgs (top 2), unB b_is_whole, defScope (top 2), n_is_whole, ["thing"]⟩
def a_is_row_of : DD := ⟨"is_row_of", defArgs (top 16), unB b_is_row_of, defScope (top 16), n_is_row_of, ["thing", "labels"]⟩
def a_is_cell : DD := ⟨"is_cell", defArgs (top 15), unB b_is_cell, defScope (top 15), n_is_cell, ["thing"]⟩
def a_law : DD := ⟨"law", defArgs (top 46), unB b_law, defScope (top 46), n_law, ["script"]⟩
def d_law : FDef := ⟨1, 6, [5], b_law, false, true⟩
def x_BadState : XD := ⟨"BadState", "BadState.__init__", defArgs (initOf (top 9)), defBody (initOf (top 9)), defScope (initOf (top 9)), ["state"]⟩
def x_BadSteps : XD := ⟨"BadSteps", "BadSteps.__init__", defArgs (initOf (top 11)), defBody (initOf (top 11)), defScope (initOf (top 11)), ["steps"]⟩
def x_BadProgram : XD := ⟨"BadProgram", "BadProgram.__init__", defArgs (initOf (top 7)), defBody (initOf (top 7)), defScope (initOf (top 7)), ["program"]⟩
def x_BadCells : XD := ⟨"BadCells", "BadCells.__init__", defArgs (initOf (top 8)), defBody (initOf (top 8)), defScope (initOf (top 8)), ["cells"]⟩
def x_BadMost : XD := ⟨"BadMost", "BadMost.__init__", defArgs (initOf (top 10)), defBody (initOf (top 10)), defScope (initOf (top 10)), ["most"]⟩
def L : LD := ⟨P, D, [a_law_stream, a_law_draw, a_counts, a_begun, a_is_state, a_next_state, a_run, a_state_after, a_trace, a_counts_run, a_law_all_refused, a_counted, a_need_program, a_need_cells, a_kept_state, a_need_run, a_led, a_is_number, a_law_same, a_law_met, a_law_is_very, a_is_program, a_is_list, a_is_value, a_is_row, a_are_values, a_is_whole, a_is_row_of, a_is_cell], a_law, d_law, [x_BadState, x_BadSteps, x_BadProgram, x_BadCells, x_BadMost], [("FIELDS", .tab [("set", "cn"), ("move", "cc"), ("add", "cc"), ("sub", "cc"), ("mul", "cc"), ("less", "cc"), ("load", "cc"), ("store", "cc"), ("print", "c"), ("jump", "l"), ("zero", "cl"), ("halt", "")])]⟩
theorem k_law_stream : DOk D P a_law_stream d_law_stream := ⟨rfl, by decide +kernel, by decide +kernel, .nil, fun _ _ _ _ _ _ us hl => match us, hl with | [_], _ => rfl⟩
theorem k_law_draw : DOk D P a_law_draw d_law_draw := ⟨rfl, by decide +kernel, by decide +kernel, .nil, fun _ _ _ _ _ _ us hl => match us, hl with | [_, _], _ => rfl⟩
theorem k_counts : DOk D P a_counts d_counts := ⟨rfl, by decide +kernel, by decide +kernel, .nil, fun _ _ _ _ _ _ us hl => match us, hl with | [_], _ => rfl⟩
theorem k_begun : DOk D P a_begun d_begun := ⟨rfl, by decide +kernel, by decide +kernel, .nil, fun _ _ _ _ _ _ us hl => match us, hl with | [_, _], _ => rfl⟩
theorem k_is_state : DOk D P a_is_state d_is_state := ⟨rfl, by decide +kernel, by decide +kernel, .nil, fun _ _ _ _ _ _ us hl => match us, hl with | [_, _], _ => rfl⟩
theorem k_next_state : DOk D P a_next_state d_next_state := ⟨rfl, by decide +kernel, by decide +kernel, .nil, fun _ _ _ _ _ _ us hl => match us, hl with | [_, _], _ => rfl⟩
theorem k_run : DOk D P a_run d_run := ⟨rfl, by decide +kernel, by decide +kernel, .nil, fun _ _ _ _ _ _ us hl => match us, hl with | [_, _, _], _ => rfl⟩
theorem k_state_after : DOk D P a_state_after d_state_after := ⟨rfl, by decide +kernel, by decide +kernel, .nil, fun _ _ _ _ _ _ us hl => match us, hl with | [_, _, _], _ => rfl⟩
theorem k_trace : DOk D P a_trace d_trace := ⟨rfl, by decide +kernel, by decide +kernel, .nil, fun _ _ _ _ _ _ us hl => match us, hl with | [_, _, _], _ => rfl⟩
theorem k_counts_run : DOk D P a_counts_run d_counts_run := ⟨rfl, by decide +kernel, by decide +kernel, .nil, fun _ _ _ _ _ _ us hl => match us, hl with | [_, _, _], _ => rfl⟩
theorem k_law_all_refused : DOk D P a_law_all_refused d_law_all_refused := ⟨rfl, by decide +kernel, by decide +kernel, by repeat (first | exact lamHold.nil | refine lamHold.cons rfl rfl rfl rfl ?_), fun _ _ _ _ _ _ us hl => match us, hl with | [_, _, _], _ => rfl⟩
theorem k_counted : DOk D P a_counted d_counted := ⟨rfl, by decide +kernel, by decide +kernel, .nil, fun _ _ _ _ _ _ us hl => match us, hl with | [_], _ => rfl⟩
theorem k_need_program : DOk D P a_need_program d_need_program := ⟨rfl, by decide +kernel, by decide +kernel, .nil, fun _ _ _ _ _ _ us hl => match us, hl with | [_], _ => rfl⟩
theorem k_need_cells : DOk D P a_need_cells d_need_cells := ⟨rfl, by decide +kernel, by decide +kernel, .nil, fun _ _ _ _ _ _ us hl => match us, hl with | [_], _ => rfl⟩
theorem k_kept_state : DOk D P a_kept_state d_kept_state := ⟨rfl, by decide +kernel, by decide +kernel, .nil, fun _ _ _ _ _ _ us hl => match us, hl with | [_, _], _ => rfl⟩
theorem k_need_run : DOk D P a_need_run d_need_run := ⟨rfl, by decide +kernel, by decide +kernel, .nil, fun _ _ _ _ _ _ us hl => match us, hl with | [_, _, _], _ => rfl⟩
theorem k_led : DOk D P a_led d_led := ⟨rfl, by decide +kernel, by decide +kernel, .nil, fun _ _ _ _ _ _ us hl => match us, hl with | [_, _, _, _], _ => rfl⟩
theorem k_is_number : DOk D P a_is_number d_is_number := ⟨rfl, by decide +kernel, by decide +kernel, .nil, fun _ _ _ _ _ _ us hl => match us, hl with | [_], _ => rfl⟩
theorem k_law_same : DOk D P a_law_same d_law_same := ⟨rfl, by decide +kernel, by decide +kernel, .nil, fun _ _ _ _ _ _ us hl => match us, hl with | [_, _], _ => rfl⟩
theorem k_law_met : DOk D P a_law_met d_law_met := ⟨rfl, by decide +kernel, by decide +kernel, .nil, fun _ _ _ _ _ _ us hl => match us, hl with | [_], _ => rfl⟩
theorem k_law_is_very : DOk D P a_law_is_very d_law_is_very := ⟨rfl, by decide +kernel, by decide +kernel, by repeat (first | exact lamHold.nil | refine lamHold.cons rfl rfl rfl rfl ?_), fun _ _ _ _ _ _ us hl => match us, hl with | [_, _], _ => rfl⟩
theorem k_is_program : DOk D P a_is_program d_is_program := ⟨rfl, by decide +kernel, by decide +kernel, .nil, fun _ _ _ _ _ _ us hl => match us, hl with | [_], _ => rfl⟩
theorem k_is_list : DOk D P a_is_list d_is_list := ⟨rfl, by decide +kernel, by decide +kernel, .nil, fun _ _ _ _ _ _ us hl => match us, hl with | [_], _ => rfl⟩
theorem k_is_value : DOk D P a_is_value d_is_value := ⟨rfl, by decide +kernel, by decide +kernel, .nil, fun _ _ _ _ _ _ us hl => match us, hl with | [_], _ => rfl⟩
theorem k_is_row : DOk D P a_is_row d_is_row := ⟨rfl, by decide +kernel, by decide +kernel, .nil, fun _ _ _ _ _ _ us hl => match us, hl with | [_, _], _ => rfl⟩
theorem k_are_values : DOk D P a_are_values d_are_values := ⟨rfl, by decide +kernel, by decide +kernel, .nil, fun _ _ _ _ _ _ us hl => match us, hl with | [_, _], _ => rfl⟩
theorem k_is_whole : DOk D P a_is_whole d_is_whole := ⟨rfl, by decide +kernel, by decide +kernel, .nil, fun _ _ _ _ _ _ us hl => match us, hl with | [_], _ => rfl⟩
theorem k_is_row_of : DOk D P a_is_row_of d_is_row_of := ⟨rfl, by decide +kernel, by decide +kernel, .nil, fun _ _ _ _ _ _ us hl => match us, hl with | [_, _], _ => rfl⟩
theorem k_is_cell : DOk D P a_is_cell d_is_cell := ⟨rfl, by decide +kernel, by decide +kernel, .nil, fun _ _ _ _ _ _ us hl => match us, hl with | [_], _ => rfl⟩
theorem kx_BadState : XdOk x_BadState := ⟨.one _ _ _ _ _ rfl rfl, by decide +kernel, fun _ _ _ _ _ _ us hl => match us, hl with | [_, _], _ => rfl⟩
theorem kx_BadSteps : XdOk x_BadSteps := ⟨.one _ _ _ _ _ rfl rfl, by decide +kernel, fun _ _ _ _ _ _ us hl => match us, hl with | [_, _], _ => rfl⟩
theorem kx_BadProgram : XdOk x_BadProgram := ⟨.one _ _ _ _ _ rfl rfl, by decide +kernel, fun _ _ _ _ _ _ us hl => match us, hl with | [_, _], _ => rfl⟩
theorem kx_BadCells : XdOk x_BadCells := ⟨.one _ _ _ _ _ rfl rfl, by decide +kernel, fun _ _ _ _ _ _ us hl => match us, hl with | [_, _], _ => rfl⟩
theorem kx_BadMost : XdOk x_BadMost := ⟨.one _ _ _ _ _ rfl rfl, by decide +kernel, fun _ _ _ _ _ _ us hl => match us, hl with | [_, _], _ => rfl⟩
theorem kl_0 : LOk D P lDef0 lInfo0 := ⟨NdefX.nscope_by (by decide +kernel), fun _ _ _ _ us hl => match us, hl with | [_], _ => rfl, rfl, rfl, rfl, ⟨by decide +kernel, .nil⟩⟩
theorem kl_1 : LOk D P lDef1 lInfo1 := ⟨NdefX.nscope_by (by decide +kernel), fun _ _ _ _ us hl => match us, hl with | [_], _ => rfl, rfl, rfl, rfl, ⟨by decide +kernel, .nil⟩⟩
theorem kl_2 : LOk D P lDef2 lInfo2 := ⟨NdefX.nscope_by (by decide +kernel), fun _ _ _ _ us hl => match us, hl with | [_], _ => rfl, rfl, rfl, rfl, ⟨by decide +kernel, .nil⟩⟩
theorem kl_3 : LOk D P lDef3 lInfo3 := ⟨NdefX.nscope_by (by decide +kernel), fun _ _ _ _ us hl => match us, hl with | [_], _ => rfl, rfl, rfl, rfl, ⟨by decide +kernel, .nil⟩⟩
theorem kl_4 : LOk D P lDef4 lInfo4 := ⟨NdefX.nscope_by (by decide +kernel), fun _ _ _ _ us hl => match us, hl with | [_], _ => rfl, rfl, rfl, rfl, ⟨by decide +kernel, .nil⟩⟩
theorem kl_5 : LOk D P lDef5 lInfo5 := ⟨NdefX.nscope_by (by decide +kernel), fun _ _ _ _ us hl => match us, hl with | [_], _ => rfl, rfl, rfl, rfl, ⟨by decide +kernel, .nil⟩⟩
theorem kl_6 : LOk D P lDef6 lInfo6 := ⟨NdefX.nscope_by (by decide +kernel), fun _ _ _ _ us hl => match us, hl with | [_], _ => rfl, rfl, rfl, rfl, ⟨by decide +kernel, .nil⟩⟩
theorem kl_7 : LOk D P lDef7 lInfo7 := ⟨NdefX.nscope_by (by decide +kernel), fun _ _ _ _ us hl => match us, hl with | [_], _ => rfl, rfl, rfl, rfl, ⟨by decide +kernel, .nil⟩⟩
theorem kl_8 : LOk D P lDef8 lInfo8 := ⟨NdefX.nscope_by (by decide +kernel), fun _ _ _ _ us hl => match us, hl with | [_], _ => rfl, rfl, rfl, rfl, ⟨by decide +kernel, .nil⟩⟩
theorem kl_9 : LOk D P lDef9 lInfo9 := ⟨NdefX.nscope_by (by decide +kernel), fun _ _ _ _ us hl => match us, hl with | [_], _ => rfl, rfl, rfl, rfl, ⟨by decide +kernel, .nil⟩⟩
theorem kl_10 : LOk D P lDef10 lInfo10 := ⟨NdefX.nscope_by (by decide +kernel), fun _ _ _ _ us hl => match us, hl with | [_], _ => rfl, rfl, rfl, rfl, ⟨by decide +kernel, .nil⟩⟩
theorem kl_11 : LOk D P lDef11 lInfo11 := ⟨NdefX.nscope_by (by decide +kernel), fun _ _ _ _ us hl => match us, hl with | [_], _ => rfl, rfl, rfl, rfl, ⟨by decide +kernel, .nil⟩⟩
theorem kl_12 : LOk D P lDef12 lInfo12 := ⟨NdefX.nscope_by (by decide +kernel), fun _ _ _ _ us hl => match us, hl with | [_], _ => rfl, rfl, rfl, rfl, ⟨by decide +kernel, .nil⟩⟩
theorem kl_13 : LOk D P lDef13 lInfo13 := ⟨NdefX.nscope_by (by decide +kernel), fun _ _ _ _ us hl => match us, hl with | [_], _ => rfl, rfl, rfl, rfl, ⟨by decide +kernel, .nil⟩⟩
theorem kl_14 : LOk D P lDef14 lInfo14 := ⟨NdefX.nscope_by (by decide +kernel), fun _ _ _ _ us hl => match us, hl with | [_], _ => rfl, rfl, rfl, rfl, ⟨by decide +kernel, .nil⟩⟩
theorem kl_15 : LOk D P lDef15 lInfo15 := ⟨NdefX.nscope_by (by decide +kernel), fun _ _ _ _ us hl => match us, hl with | [_], _ => rfl, rfl, rfl, rfl, ⟨by decide +kernel, .nil⟩⟩
theorem kl_16 : LOk D P lDef16 lInfo16 := ⟨NdefX.nscope_by (by decide +kernel), fun _ _ _ _ us hl => match us, hl with | [_], _ => rfl, rfl, rfl, rfl, ⟨by decide +kernel, .nil⟩⟩
theorem kl_17 : LOk D P lDef17 lInfo17 := ⟨NdefX.nscope_by (by decide +kernel), fun _ _ _ _ us hl => match us, hl with | [], _ => rfl, rfl, rfl, rfl, ⟨by decide +kernel, .nil⟩⟩
theorem kl_18 : LOk D P lDef18 lInfo18 := ⟨NdefX.nscope_by (by decide +kernel), fun _ _ _ _ us hl => match us, hl with | [], _ => rfl, rfl, rfl, rfl, ⟨by decide +kernel, .nil⟩⟩
theorem dok_all : ∀ (i : Nat) dd fd, L.dds[i]? = some dd → L.P.fns[i]? = some fd → DOk L.D L.P dd fd := by
  intro i dd fd h1 h2
  match i with
  | 0 => obtain rfl : a_law_stream = dd := Option.some.inj h1; obtain rfl : d_law_stream = fd := Option.some.inj h2; exact k_law_stream
  | 1 => obtain rfl : a_law_draw = dd := Option.some.inj h1; obtain rfl : d_law_draw = fd := Option.some.inj h2; exact k_law_draw
  | 2 => obtain rfl : a_counts = dd := Option.some.inj h1; obtain rfl : d_counts = fd := Option.some.inj h2; exact k_counts
  | 3 => obtain rfl : a_begun = dd := Option.some.inj h1; obtain rfl : d_begun = fd := Option.some.inj h2; exact k_begun
  | 4 => obtain rfl : a_is_state = dd := Option.some.inj h1; obtain rfl : d_is_state = fd := Option.some.inj h2; exact k_is_state
  | 5 => obtain rfl : a_next_state = dd := Option.some.inj h1; obtain rfl : d_next_state = fd := Option.some.inj h2; exact k_next_state
  | 6 => obtain rfl : a_run = dd := Option.some.inj h1; obtain rfl : d_run = fd := Option.some.inj h2; exact k_run
  | 7 => obtain rfl : a_state_after = dd := Option.some.inj h1; obtain rfl : d_state_after = fd := Option.some.inj h2; exact k_state_after
  | 8 => obtain rfl : a_trace = dd := Option.some.inj h1; obtain rfl : d_trace = fd := Option.some.inj h2; exact k_trace
  | 9 => obtain rfl : a_counts_run = dd := Option.some.inj h1; obtain rfl : d_counts_run = fd := Option.some.inj h2; exact k_counts_run
  | 10 => obtain rfl : a_law_all_refused = dd := Option.some.inj h1; obtain rfl : d_law_all_refused = fd := Option.some.inj h2; exact k_law_all_refused
  | 11 => obtain rfl : a_counted = dd := Option.some.inj h1; obtain rfl : d_counted = fd := Option.some.inj h2; exact k_counted
  | 12 => obtain rfl : a_need_program = dd := Option.some.inj h1; obtain rfl : d_need_program = fd := Option.some.inj h2; exact k_need_program
  | 13 => obtain rfl : a_need_cells = dd := Option.some.inj h1; obtain rfl : d_need_cells = fd := Option.some.inj h2; exact k_need_cells
  | 14 => obtain rfl : a_kept_state = dd := Option.some.inj h1; obtain rfl : d_kept_state = fd := Option.some.inj h2; exact k_kept_state
  | 15 => obtain rfl : a_need_run = dd := Option.some.inj h1; obtain rfl : d_need_run = fd := Option.some.inj h2; exact k_need_run
  | 16 => obtain rfl : a_led = dd := Option.some.inj h1; obtain rfl : d_led = fd := Option.some.inj h2; exact k_led
  | 17 => obtain rfl : a_is_number = dd := Option.some.inj h1; obtain rfl : d_is_number = fd := Option.some.inj h2; exact k_is_number
  | 18 => obtain rfl : a_law_same = dd := Option.some.inj h1; obtain rfl : d_law_same = fd := Option.some.inj h2; exact k_law_same
  | 19 => obtain rfl : a_law_met = dd := Option.some.inj h1; obtain rfl : d_law_met = fd := Option.some.inj h2; exact k_law_met
  | 20 => obtain rfl : a_law_is_very = dd := Option.some.inj h1; obtain rfl : d_law_is_very = fd := Option.some.inj h2; exact k_law_is_very
  | 21 => obtain rfl : a_is_program = dd := Option.some.inj h1; obtain rfl : d_is_program = fd := Option.some.inj h2; exact k_is_program
  | 22 => obtain rfl : a_is_list = dd := Option.some.inj h1; obtain rfl : d_is_list = fd := Option.some.inj h2; exact k_is_list
  | 23 => obtain rfl : a_is_value = dd := Option.some.inj h1; obtain rfl : d_is_value = fd := Option.some.inj h2; exact k_is_value
  | 24 => obtain rfl : a_is_row = dd := Option.some.inj h1; obtain rfl : d_is_row = fd := Option.some.inj h2; exact k_is_row
  | 25 => obtain rfl : a_are_values = dd := Option.some.inj h1; obtain rfl : d_are_values = fd := Option.some.inj h2; exact k_are_values
  | 26 => obtain rfl : a_is_whole = dd := Option.some.inj h1; obtain rfl : d_is_whole = fd := Option.some.inj h2; exact k_is_whole
  | 27 => obtain rfl : a_is_row_of = dd := Option.some.inj h1; obtain rfl : d_is_row_of = fd := Option.some.inj h2; exact k_is_row_of
  | 28 => obtain rfl : a_is_cell = dd := Option.some.inj h1; obtain rfl : d_is_cell = fd := Option.some.inj h2; exact k_is_cell
  | _ + 29 => cases (show (none : Option FDef) = some fd from h2)
theorem lok_all : ∀ (j : Nat) l, L.D.lms[j]? = some l → ∃ d, L.P.lams[j]? = some d ∧ LOk L.D L.P d l := by
  intro j l h
  match j with
  | 0 => obtain rfl : lInfo0 = l := Option.some.inj h; exact ⟨lDef0, rfl, kl_0⟩
  | 1 => obtain rfl : lInfo1 = l := Option.some.inj h; exact ⟨lDef1, rfl, kl_1⟩
  | 2 => obtain rfl : lInfo2 = l := Option.some.inj h; exact ⟨lDef2, rfl, kl_2⟩
  | 3 => obtain rfl : lInfo3 = l := Option.some.inj h; exact ⟨lDef3, rfl, kl_3⟩
  | 4 => obtain rfl : lInfo4 = l := Option.some.inj h; exact ⟨lDef4, rfl, kl_4⟩
  | 5 => obtain rfl : lInfo5 = l := Option.some.inj h; exact ⟨lDef5, rfl, kl_5⟩
  | 6 => obtain rfl : lInfo6 = l := Option.some.inj h; exact ⟨lDef6, rfl, kl_6⟩
  | 7 => obtain rfl : lInfo7 = l := Option.some.inj h; exact ⟨lDef7, rfl, kl_7⟩
  | 8 => obtain rfl : lInfo8 = l := Option.some.inj h; exact ⟨lDef8, rfl, kl_8⟩
  | 9 => obtain rfl : lInfo9 = l := Option.some.inj h; exact ⟨lDef9, rfl, kl_9⟩
  | 10 => obtain rfl : lInfo10 = l := Option.some.inj h; exact ⟨lDef10, rfl, kl_10⟩
  | 11 => obtain rfl : lInfo11 = l := Option.some.inj h; exact ⟨lDef11, rfl, kl_11⟩
  | 12 => obtain rfl : lInfo12 = l := Option.some.inj h; exact ⟨lDef12, rfl, kl_12⟩
  | 13 => obtain rfl : lInfo13 = l := Option.some.inj h; exact ⟨lDef13, rfl, kl_13⟩
  | 14 => obtain rfl : lInfo14 = l := Option.some.inj h; exact ⟨lDef14, rfl, kl_14⟩
  | 15 => obtain rfl : lInfo15 = l := Option.some.inj h; exact ⟨lDef15, rfl, kl_15⟩
  | 16 => obtain rfl : lInfo16 = l := Option.some.inj h; exact ⟨lDef16, rfl, kl_16⟩
  | 17 => obtain rfl : lInfo17 = l := Option.some.inj h; exact ⟨lDef17, rfl, kl_17⟩
  | 18 => obtain rfl : lInfo18 = l := Option.some.inj h; exact ⟨lDef18, rfl, kl_18⟩
  | _ + 19 => cases (show (none : Option LInfo) = some l from h)
theorem xok_all : ∀ xd ∈ L.xds, XdOk xd := by
  intro xd h
  rcases List.mem_cons.mp h with rfl | h
  · exact kx_BadState
  rcases List.mem_cons.mp h with rfl | h
  · exact kx_BadSteps
  rcases List.mem_cons.mp h with rfl | h
  · exact kx_BadProgram
  rcases List.mem_cons.mp h with rfl | h
  · exact kx_BadCells
  rcases List.mem_cons.mp h with rfl | h
  · exact kx_BadMost
  cases h
theorem okL : L.Ok := ⟨rfl, rfl, rfl, rfl, rfl, rfl, dok_all, xok_all, lok_all⟩
end K8

set_option maxRecDepth 100000
set_option maxHeartbeats 0
namespace K8
open PySem Dz
section
variable (R : List MO) (C : List (Option MV)) (r0 : Nat)
def stm4 (L : List MV) (c n g : Int) : MSt := ⟨.lst L :: .lst [.ref 0, .int c, .int n, .int g] :: R, C⟩
theorem ev_succ (P : Prg) (n : Nat) : ev P (n + 1) = ⟨stepE P (ev P n), stepT (ev P n), blk (stm P.ncls (ev P n)), stepF P (ev P n), stepC P (ev P n)⟩ := rfl
def loopT : ME := match b_law_draw with
  | _ :: .whl t _ _ :: _ => t
  | _ => .nev (.Name "x" ⟨0,0,0,0⟩)
def loopB : List MS := match b_law_draw with
  | _ :: .whl _ b _ :: _ => b
  | _ => []
def loopP : Pos := match b_law_draw with
  | _ :: .whl _ _ p :: _ => p
  | _ => ⟨0,0,0,0⟩
variable (many : Int)
def envD (cell : Option MV) : MEnv := ⟨[some (.ref 1), some (.int many), cell, none, none], [none, none, none, none, none], r0⟩
theorem t_nil (k : Nat) (cl : Option MV) (n g : Int) : (ev P (k + 10)).t (envD r0 many cl) loopT (stm4 R C [] 0 n g) = .ok false (stm4 R C [] 0 n g) := by rfl
theorem t_cons (k : Nat) (cl : Option MV) (x n g : Int) (L : List MV) (h : plainMs 50 L = true) : (ev P (k + 10)).t (envD r0 many cl) loopT (stm4 R C (.int x :: L) 0 n g) = .ok true (stm4 R C (.int x :: L) 0 n g) := by
  have e : plainMs 50 (.int x :: L) = true := by simp [plainMs, plainM, h]
  have e2 : eqM (stm4 R C (.int x :: L) 0 n g) (.ref 0) (.lst []) = some false := by
    show (if (plainMs 50 (.int x :: L) && plainMs 50 []) = true then some (eqBs (.int x :: L) []) else none : Option Bool) = _
    rw [e]; rfl
  show ((match (eqM (stm4 R C (.int x :: L) 0 n g) (.ref 0) (.lst [])).map (fun x => !x) with
    | some b => (.ok (.bl b) (stm4 R C (.int x :: L) 0 n g) : Res MV)
    | none => .bad).bind (fun x s => match truM s x with
      | some b => (.ok b s : Res Bool)
      | none => .bad)) = _
  rw [e2]; rfl
theorem t_ne (k : Nat) (cl : Option MV) (c n g : Int) (L : List MV) (h : c ≠ 0) : (ev P (k + 10)).t (envD r0 many cl) loopT (stm4 R C L c n g) = .ok false (stm4 R C L c n g) := by
  have e2 : eqB (.int c) (.int 0) = false := by simpa [eqB] using h
  show (match (match (some (eqB (.int c) (.int 0))) with
    | some b => (.ok (.bl b) (stm4 R C L c n g) : Res MV)
    | none => .bad).bind (fun x s => match truM s x with
      | some b => (.ok b s : Res Bool)
      | none => .bad) with
    | .ok v s => if v then _ else (.ok false s : Res Bool)
    | .exc a b c => .exc a b c
    | .bad => .bad) = _
  rw [e2]; rfl

def absI (x : Int) : Int := if x < 0 then -x else x
def m1 : MS := match loopB with
  | a :: _ => a
  | _ => .pas ⟨0,0,0,0⟩
def m2 : MS := match loopB with
  | _ :: a :: _ => a
  | _ => .pas ⟨0,0,0,0⟩
def m3 : MS := match loopB with
  | _ :: _ :: a :: _ => a
  | _ => .pas ⟨0,0,0,0⟩
theorem seq0 (n : Nat) : seqIndex? 0 (n + 1) = some 0 := by simp [seqIndex?]
theorem pop0 (x c n g : Int) (L : List MV) : popV (.ref 0) (.int 0) (stm4 R C (.int x :: L) c n g) = .ok (.int x) (stm4 R C L c n g) := by
  show (if -(2 ^ 63) ≤ (0:Int) ∧ (0:Int) < 2 ^ 63 then match seqIndex? 0 (L.length + 1) with
      | some j => match (MV.int x :: L)[j]? with
        | some y => .ok y (setRef 0 (.lst ((MV.int x :: L).eraseIdx j)) (stm4 R C (.int x :: L) c n g))
        | none => .bad
      | none => .bad else .bad : Res MV) = _
  rw [seq0, if_pos (by decide)]; rfl
theorem st_m1 (k : Nat) (cl : Option MV) (x n g c : Int) (L : List MV) : stm P.ncls (ev P (k + 10)) (envD r0 many cl) m1 (stm4 R C (.int x :: L) c n g) = .ok (.nxt, envD r0 many (some (.int (absI x)))) (stm4 R C L c n g) := by
  show (((popV (.ref 0) (.int 0) (stm4 R C (.int x :: L) c n g)).bind fun y s => (Res.ok [y] s : Res (List MV))).bind fun xs s => on1 (onI fun i => if i < 0 then -i else i) xs s).bind (fun v s => match asgV (.var 2 "cell" ⟨0,0,0,0⟩) v (envD r0 many cl) s with
    | some (env, s) => (.ok (.nxt, env) s : Res (Fl × MEnv))
    | none => .bad) = _
  rw [pop0]; rfl
theorem mulS (i j : Int) (s : MSt) (h : -P64 < j ∧ j < P64) : binV .Mult (.int i) (.int j) s = .ok (.int (i * j)) s := if_pos (Or.inr h)
theorem mulS' (i j : Int) (s : MSt) (h : -P64 < i ∧ i < P64) : binV .Mult (.int i) (.int j) s = .ok (.int (i * j)) s := if_pos (Or.inl h)
theorem st_m2 (k : Nat) (x n g c : Int) (L : List MV) : stm P.ncls (ev P (k + 10)) (envD r0 many (some (.int x))) m2 (stm4 R C L c n g) = .ok (.nxt, envD r0 many (some (.int x))) (stm4 R C L c n ((g * 8191 + x + 3).fmod 2147483647)) := by
  show ((((((binV .Mult (.int g) (.int 8191) (stm4 R C L c n g)).bind fun y s => (Res.ok (.int x) s).bind fun z s => binV .Add y z s).bind fun y s => (Res.ok (.int 3) s).bind fun z s => binV .Add y z s).bind fun y s => (Res.ok [y] s : Res (List MV))).bind fun xs s => on1 (onI fun i => i) xs s).bind (fun y s => (Res.ok (.int 2147483647) s).bind fun z s => binV .Mod y z s)).bind (fun v s => match putAt (envD r0 many (some (.int x))) (.ref 1) (.int 3) v s with
    | some s => (.ok (.nxt, (envD r0 many (some (.int x)))) s : Res (Fl × MEnv))
    | none => .bad) = _
  rw [mulS g 8191 _ (by decide)]; rfl
theorem st_m3 (k : Nat) (x n g c : Int) (L : List MV) : stm P.ncls (ev P (k + 10)) (envD r0 many (some (.int x))) m3 (stm4 R C L c n g) = .ok (.nxt, envD r0 many (some (.int x))) (stm4 R C L (if 1000000000000000000 ≤ x then x else 0) n g) := by
  have e : ((10 : Int) ^ (18 : Int).toNat) = 1000000000000000000 := by decide
  show ((Res.ok (decide (((10 : Int) ^ (18 : Int).toNat) ≤ x)) (stm4 R C L c n g)).bind fun b s => if b then (Res.ok (.int x) s : Res MV) else .ok (.int 0) s).bind (fun v s => match putAt (envD r0 many (some (.int x))) (.ref 1) (.int 1) v s with
    | some s => (.ok (.nxt, (envD r0 many (some (.int x)))) s : Res (Fl × MEnv))
    | none => .bad) = _
  rw [e]
  by_cases h : 1000000000000000000 ≤ x
  · rw [decide_eq_true h, if_pos h]; rfl
  · rw [decide_eq_false h, if_neg h]; rfl
theorem st_body (k : Nat) (cl : Option MV) (x n g : Int) (L : List MV) : (ev P (k + 11)).s (envD r0 many cl) loopB (stm4 R C (.int x :: L) 0 n g) =
    .ok (.nxt, envD r0 many (some (.int (absI x)))) (stm4 R C L (if 1000000000000000000 ≤ absI x then absI x else 0) n ((g * 8191 + absI x + 3).fmod 2147483647)) := by
  show blk (stm P.ncls (ev P (k + 10))) (envD r0 many cl) [m1, m2, m3] _ = _
  simp only [blk, st_m1, st_m2, st_m3, Res.bind]

/-- the stream behind the loop -/
def runL : List Int → Int → List Int × Int × Int
  | [], g => ([], 0, g)
  | x :: r, g => let a := absI x; let g' := (g * 8191 + a + 3).fmod 2147483647
    if 1000000000000000000 ≤ a then (r, a, g') else runL r g'
def cellL : List Int → Option MV → Option MV
  | [], c => c
  | x :: r, _ => let a := absI x
    if 1000000000000000000 ≤ a then some (.int a) else cellL r (some (.int a))
theorem plain_ints (ns : List Int) : plainMs 50 (ns.map .int) = true := by
  induction ns with
  | nil => rfl
  | cons a r ih => simp [plainMs, plainM, ih]
theorem absI_nonneg (x : Int) : 0 ≤ absI x := by unfold absI; split <;> omega
theorem loop_0 (k : Nat) (ns : List Int) : ∀ (w : Nat) (cl : Option MV) (n g : Int), ns.length + 2 ≤ w →
    whlLoop (fun env s => (ev P (k + 11)).t env loopT s) (fun env s => (ev P (k + 11)).s env loopB s) w (envD r0 many cl) (stm4 R C (ns.map .int) 0 n g) =
    .ok (.nxt, envD r0 many (cellL ns cl)) (stm4 R C ((runL ns g).1.map .int) (runL ns g).2.1 n (runL ns g).2.2) := by
  induction ns with
  | nil => intro w cl n g hw
           obtain ⟨w, rfl⟩ : ∃ v, w = v + 1 := ⟨w - 1, by simp at hw; omega⟩
           simp only [whlLoop, List.map_nil, t_nil, Res.bind, runL, cellL]; rfl
  | cons x r ih =>
    intro w cl n g hw
    obtain ⟨w, rfl⟩ : ∃ v, w = v + 1 := ⟨w - 1, by simp at hw; omega⟩
    have ht := t_cons R C r0 many (k + 1) cl x n g (r.map .int) (plain_ints r)
    have hb := st_body R C r0 many k cl x n g (r.map .int)
    simp only [whlLoop, List.map_cons, ht, Res.bind, if_true, hb]
    by_cases h : 1000000000000000000 ≤ absI x
    · obtain ⟨w, rfl⟩ : ∃ v, w = v + 1 := ⟨w - 1, by simp at hw; omega⟩
      have hn := t_ne R C r0 many (k + 1) (some (.int (absI x))) (absI x) n ((g * 8191 + absI x + 3).fmod 2147483647) (r.map .int) (by omega)
      rw [if_pos h]
      simp only [whlLoop, hn, Res.bind, runL, cellL, if_pos h]; rfl
    · rw [if_neg h, ih w _ n _ (by simp at hw; omega)]
      simp only [runL, cellL, if_neg h]

theorem fmod_bd (a b : Int) (h : 0 < b) : 0 ≤ a.fmod b ∧ a.fmod b < b := ⟨Int.fmod_nonneg_of_pos a h, Int.fmod_lt_of_pos a h⟩
theorem runL_bd (ns : List Int) : ∀ g, 0 ≤ g ∧ g < 2147483647 → 0 ≤ (runL ns g).2.1 ∧ 0 ≤ (runL ns g).2.2 ∧ (runL ns g).2.2 < 2147483647 := by
  induction ns with
  | nil => intro g h; exact ⟨Int.le_refl _, h.1, h.2⟩
  | cons x r ih =>
    intro g h
    have hb := fmod_bd (g * 8191 + absI x + 3) 2147483647 (by decide)
    simp only [runL]
    by_cases hc : 1000000000000000000 ≤ absI x
    · rw [if_pos hc]; exact ⟨absI_nonneg x, hb.1, hb.2⟩
    · rw [if_neg hc]; exact ih _ hb
/-- the loop, at whatever was left -/
theorem loop_any (k : Nat) (ns : List Int) (w : Nat) (c n g : Int) (hw : ns.length + 2 ≤ w) (hg : 0 ≤ g ∧ g < 2147483647) (hc : 0 ≤ c) :
    ∃ (cl : Option MV) (L : List Int) (c' g' : Int), whlLoop (fun env s => (ev P (k + 11)).t env loopT s) (fun env s => (ev P (k + 11)).s env loopB s) w (envD r0 many none) (stm4 R C (ns.map .int) c n g) =
    .ok (.nxt, envD r0 many cl) (stm4 R C (L.map .int) c' n g') ∧ 0 ≤ c' ∧ 0 ≤ g' ∧ g' < 2147483647 ∧ L.length ≤ ns.length := by
  by_cases h0 : c = 0
  · subst h0
    have hb := runL_bd ns g hg
    refine ⟨_, (runL ns g).1, _, _, loop_0 R C r0 many k ns w none n g hw, hb.1, hb.2.1, hb.2.2, ?_⟩
    clear hb hw hg
    induction ns generalizing g with
    | nil => exact Nat.le_refl _
    | cons x r ih =>
      simp only [runL]; split
      · simp
      · exact Nat.le_trans (ih _) (by simp)
  · obtain ⟨w, rfl⟩ : ∃ v, w = v + 1 := ⟨w - 1, by omega⟩
    refine ⟨none, ns, c, g, ?_, hc, hg.1, hg.2, Nat.le_refl _⟩
    simp only [whlLoop, t_ne R C r0 many (k + 1) none c n g _ h0, Res.bind]; rfl

def dr (i : Nat) : MS := b_law_draw.getD i (.pas ⟨0,0,0,0⟩)
theorem dr_eq : b_law_draw = [dr 0, .whl loopT loopB loopP, dr 2, dr 3, dr 4] := rfl
theorem st_0 (k : Nat) (c n g : Int) (L : List MV) : stm P.ncls (ev P (k + 11)) (envD r0 many none) (dr 0) (stm4 R C L c n g) = .ok (.nxt, envD r0 many none) (stm4 R C L c (n + 1) g) := rfl

def dThen : List MS := match dr 2 with
  | .iff _ a _ _ => a
  | _ => []
def dA : MS := dThen.getD 0 (.pas ⟨0,0,0,0⟩)
def dB : MS := dThen.getD 1 (.pas ⟨0,0,0,0⟩)
def dC : MS := dThen.getD 2 (.pas ⟨0,0,0,0⟩)
def envE (cl dg : Option MV) : MEnv := ⟨[some (.ref 1), some (.int many), cl, dg, none], [none, none, none, none, none], r0⟩
theorem modS (i j : Int) (s : MSt) (h : j ≠ 0) : binV .Mod (.int i) (.int j) s = .ok (.int (i.fmod j)) s := if_pos h
theorem divS (i j : Int) (s : MSt) (h : j ≠ 0 ∧ j.natAbs < 1073741824) : binV .FloorDiv (.int i) (.int j) s = .ok (.int (i.fdiv j)) s := if_pos h
theorem powS (i j : Int) (s : MSt) (h : 0 ≤ j ∧ j ≤ 1000000 ∧ i.natAbs < 18446744073709551616) : binV .Pow (.int i) (.int j) s = .ok (.int (i ^ j.toNat)) s := if_pos h
theorem st_dA (k : Nat) (cl : Option MV) (c n g : Int) (L : List MV) (hm : many ≠ 0) : stm P.ncls (ev P (k + 11)) (envD r0 many cl) dA (stm4 R C L c n g) =
    .ok (.nxt, envE r0 many cl (some (.int (c.fmod many)))) (stm4 R C L c n g) := by
  show ((binV .Mod (.int c) (.int many) (stm4 R C L c n g))).bind (fun v s => match asgV (.var 3 "digit" ⟨0,0,0,0⟩) v (envD r0 many cl) s with
    | some (env, s) => (.ok (.nxt, env) s : Res (Fl × MEnv))
    | none => .bad) = _
  rw [modS _ _ _ hm]; rfl
theorem st_dB (k : Nat) (cl dg : Option MV) (c n g : Int) (L : List MV) (hm : many ≠ 0 ∧ many.natAbs < 1073741824) : stm P.ncls (ev P (k + 11)) (envE r0 many cl dg) dB (stm4 R C L c n g) =
    .ok (.nxt, envE r0 many cl dg) (stm4 R C L (c.fdiv many) n g) := by
  show ((binV .FloorDiv (.int c) (.int many) (stm4 R C L c n g))).bind (fun v s => match putAt (envE r0 many cl dg) (.ref 1) (.int 1) v s with
    | some s => (.ok (.nxt, envE r0 many cl dg) s : Res (Fl × MEnv))
    | none => .bad) = _
  rw [divS _ _ _ hm]; rfl
theorem st_dC (k : Nat) (cl : Option MV) (x c n g : Int) (L : List MV) : stm P.ncls (ev P (k + 11)) (envE r0 many cl (some (.int x))) dC (stm4 R C L c n g) =
    .ok (.ret (.int x), envE r0 many cl (some (.int x))) (stm4 R C L c n g) := rfl
/-- what was drawn, where a long number stood -/
theorem st_2 (k : Nat) (cl : Option MV) (c n g : Int) (L : List MV) (hc : 0 < c) (hm : many ≠ 0 ∧ many.natAbs < 1073741824) : stm P.ncls (ev P (k + 12)) (envD r0 many cl) (dr 2) (stm4 R C L c n g) =
    .ok (.ret (.int (c.fmod many)), envE r0 many cl (some (.int (c.fmod many)))) (stm4 R C L (c.fdiv many) n g) := by
  show (if decide (0 < c) = true then blk (stm P.ncls (ev P (k + 11))) (envD r0 many cl) [dA, dB, dC] (stm4 R C L c n g) else (.ok (.nxt, envD r0 many cl) (stm4 R C L c n g))) = _
  rw [if_pos (decide_eq_true hc)]
  simp only [blk, st_dA R C r0 many k cl c n g L hm.1, Res.bind, st_dB R C r0 many k cl _ c n g L hm, st_dC]
theorem st_2n (k : Nat) (cl : Option MV) (n g : Int) (L : List MV) : stm P.ncls (ev P (k + 12)) (envD r0 many cl) (dr 2) (stm4 R C L 0 n g) =
    .ok (.nxt, envD r0 many cl) (stm4 R C L 0 n g) := rfl
def envM (cl : Option MV) (x : Int) : MEnv := ⟨[some (.ref 1), some (.int many), cl, none, some (.int x)], [none, none, none, none, none], r0⟩
theorem st_3 (k : Nat) (cl : Option MV) (c n g : Int) (L : List MV) (h : (g + 7919 * n + 104729).natAbs < 18446744073709551616) : stm P.ncls (ev P (k + 12)) (envD r0 many cl) (dr 3) (stm4 R C L c n g) =
    .ok (.nxt, envM r0 many cl (((g + 7919 * n + 104729) ^ 5).fmod 2147483629)) (stm4 R C L c n g) := by
  show (((((((binV .Mult (.int 7919) (.int n) (stm4 R C L c n g)).bind fun y s => binV .Add (.int g) y s).bind fun y s => (Res.ok (.int 104729) s).bind fun z s => binV .Add y z s).bind fun y s => (Res.ok (.int 5) s).bind fun z s => binV .Pow y z s).bind fun y s => (Res.ok [y] s : Res (List MV))).bind fun xs s => on1 (onI fun i => i) xs s).bind (fun y s => (Res.ok (.int 2147483629) s).bind fun z s => binV .Mod y z s)).bind (fun v s => match asgV (.var 4 "mixed" ⟨0,0,0,0⟩) v (envD r0 many cl) s with
    | some (env, s) => (.ok (.nxt, env) s : Res (Fl × MEnv))
    | none => .bad) = _
  rw [mulS' 7919 n _ (by decide)]
  show ((((binV .Pow (.int (g + 7919 * n + 104729)) (.int 5) (stm4 R C L c n g)).bind fun y s => (Res.ok [y] s : Res (List MV))).bind fun xs s => on1 (onI fun i => i) xs s).bind (fun y s => (Res.ok (.int 2147483629) s).bind fun z s => binV .Mod y z s)).bind (fun v s => match asgV (.var 4 "mixed" ⟨0,0,0,0⟩) v (envD r0 many cl) s with
    | some (env, s) => (.ok (.nxt, env) s : Res (Fl × MEnv))
    | none => .bad) = _
  rw [powS _ _ _ ⟨by decide, by decide, h⟩]; rfl

def e4 : ME := match dr 4 with
  | .ret (.bin (.bin (.blt _ _ _ [.bin e _ _ _] _ _) _ _ _) _ _ _) _ => e
  | _ => .nev (.Name "x" ⟨0,0,0,0⟩)
def e4a : ME := match e4 with
  | .bin (.bin e _ _ _) _ _ _ => e
  | _ => .nev (.Name "x" ⟨0,0,0,0⟩)
def e4b : ME := match e4 with
  | .bin (.bin _ _ e _) _ _ _ => e
  | _ => .nev (.Name "x" ⟨0,0,0,0⟩)
theorem ev_4a (k : Nat) (cl : Option MV) (x c n g : Int) (L : List MV) : (ev P (k + 6)).e (envM r0 many cl x) e4a (stm4 R C L c n g) = .ok (.int (x * 48271)) (stm4 R C L c n g) := by
  show binV .Mult (.int x) (.int 48271) (stm4 R C L c n g) = _
  rw [mulS x 48271 _ (by decide)]
theorem ev_4b (k : Nat) (cl : Option MV) (x c n g : Int) (L : List MV) : (ev P (k + 6)).e (envM r0 many cl x) e4b (stm4 R C L c n g) = .ok (.int (30011 * n)) (stm4 R C L c n g) := by
  show binV .Mult (.int 30011) (.int n) (stm4 R C L c n g) = _
  rw [mulS' 30011 n _ (by decide)]
theorem ev_4 (k : Nat) (cl : Option MV) (x c n g : Int) (L : List MV) : (ev P (k + 8)).e (envM r0 many cl x) e4 (stm4 R C L c n g) = .ok (.int (x * 48271 + 30011 * n + 29)) (stm4 R C L c n g) := by
  show ((((ev P (k + 6)).e (envM r0 many cl x) e4a (stm4 R C L c n g)).bind fun a s => ((ev P (k + 6)).e (envM r0 many cl x) e4b s).bind fun b s => binV .Add a b s).bind fun y s => (Res.ok (.int 29) s).bind fun z s => binV .Add y z s) = _
  rw [ev_4a]
  show ((((ev P (k + 6)).e (envM r0 many cl x) e4b (stm4 R C L c n g)).bind fun b s => binV .Add (.int (x * 48271)) b s).bind fun y s => (Res.ok (.int 29) s).bind fun z s => binV .Add y z s) = _
  rw [ev_4b]; rfl
theorem st_4 (k : Nat) (cl : Option MV) (x c n g : Int) (L : List MV) (h : (x * 48271 + 30011 * n + 29).natAbs < 18446744073709551616) (hm : many ≠ 0) : stm P.ncls (ev P (k + 12)) (envM r0 many cl x) (dr 4) (stm4 R C L c n g) =
    .ok (.ret (.int ((((x * 48271 + 30011 * n + 29) ^ 3).fmod 1000000007).fmod many)), envM r0 many cl x) (stm4 R C L c n g) := by
  show (((((((ev P (k + 8)).e (envM r0 many cl x) e4 (stm4 R C L c n g)).bind fun y s => (Res.ok (.int 3) s).bind fun z s => binV .Pow y z s).bind fun y s => (Res.ok [y] s : Res (List MV))).bind fun xs s => on1 (onI fun i => i) xs s).bind (fun y s => (Res.ok (.int 1000000007) s).bind fun z s => binV .Mod y z s)).bind (fun y s => (Res.ok (.int many) s).bind fun z s => binV .Mod y z s)).bind (fun v s => (.ok (.ret v, envM r0 many cl x) s : Res (Fl × MEnv))) = _
  rw [ev_4]
  show (((((binV .Pow (.int (x * 48271 + 30011 * n + 29)) (.int 3) (stm4 R C L c n g)).bind fun y s => (Res.ok [y] s : Res (List MV))).bind fun xs s => on1 (onI fun i => i) xs s).bind (fun y s => (Res.ok (.int 1000000007) s).bind fun z s => binV .Mod y z s)).bind (fun y s => (Res.ok (.int many) s).bind fun z s => binV .Mod y z s)).bind (fun v s => (.ok (.ret v, envM r0 many cl x) s : Res (Fl × MEnv))) = _
  rw [powS _ _ _ ⟨by decide, by decide, h⟩]
  show (binV .Mod (.int (((x * 48271 + 30011 * n + 29) ^ 3).fmod 1000000007)) (.int many) (stm4 R C L c n g)).bind (fun v s => (.ok (.ret v, envM r0 many cl x) s : Res (Fl × MEnv))) = _
  rw [modS _ _ _ hm]; rfl

theorem leave_same (s s' : MSt) (v : MV) (h1 : s'.refs.length = s.refs.length) (h2 : s'.cells = s.cells) : leave false s (.ok v s') = .ok v s' := by
  obtain ⟨r', c'⟩ := s'
  simp only at h1 h2
  subst h2
  have e : r'.take s.refs.length = r' := by rw [← h1]; exact List.take_length
  simp [leave, fits, cutTo, h1, e]
/-- a draw, from whatever was left -/
theorem draw (k : Nat) (ns : List Int) (c n g : Int) (hw : ns.length + 2 ≤ LW) (hg : 0 ≤ g ∧ g < 2147483647) (hc : 0 ≤ c) (hn : 0 ≤ n ∧ n < 1000000000) (hm : 1 ≤ many ∧ many < 1073741824) :
    ∃ (d : Int) (L : List Int) (c' g' : Int), (ev P (k + 14)).f 1 [.ref 1, .int many] (stm4 R C (ns.map .int) c n g) = .ok (.int d) (stm4 R C (L.map .int) c' (n + 1) g') ∧
      0 ≤ d ∧ d < many ∧ 0 ≤ c' ∧ 0 ≤ g' ∧ g' < 2147483647 ∧ L.length ≤ ns.length := by
  have hm0 : many ≠ 0 := by omega
  obtain ⟨cl, L, c', g', hl, hc', hg0, hg1, hL⟩ := loop_any R C (R.length + 2) many (k + 1) ns LW c (n + 1) g hw hg hc
  have key : ∀ (d c2 : Int) (env : MEnv), (ev P (k + 13)).s (envD (R.length + 2) many none) b_law_draw (stm4 R C (ns.map .int) c n g) = .ok (.ret (.int d), env) (stm4 R C (L.map .int) c2 (n + 1) g') →
      (ev P (k + 14)).f 1 [.ref 1, .int many] (stm4 R C (ns.map .int) c n g) = .ok (.int d) (stm4 R C (L.map .int) c2 (n + 1) g') := by
    intro d c2 env he
    show leave false _ (match (ev P (k + 13)).s (envD (R.length + 2) many none) b_law_draw ⟨(stm4 R C (ns.map .int) c n g).refs, C ++ []⟩ with
        | .ok fe s => match fe.1 with
          | .ret v => .ok v s
          | .nxt => .ok .non s
          | _ => .bad
        | .exc c fs s => .exc c fs s
        | .bad => .bad) = _
    rw [List.append_nil]
    have he' : (ev P (k + 13)).s (envD (R.length + 2) many none) b_law_draw ⟨(stm4 R C (ns.map .int) c n g).refs, C⟩ = .ok (.ret (.int d), env) (stm4 R C (L.map .int) c2 (n + 1) g') := he
    rw [he']
    exact leave_same _ _ _ rfl rfl
  have hbody : (ev P (k + 13)).s (envD (R.length + 2) many none) b_law_draw (stm4 R C (ns.map .int) c n g) = blk (stm P.ncls (ev P (k + 12))) (envD (R.length + 2) many cl) [dr 2, dr 3, dr 4] (stm4 R C (L.map .int) c' (n + 1) g') := by
    rw [dr_eq]
    show blk (stm P.ncls (ev P (k + 12))) (envD (R.length + 2) many none) (dr 0 :: .whl loopT loopB loopP :: [dr 2, dr 3, dr 4]) (stm4 R C (ns.map .int) c n g) = _
    rw [blk, st_0 R C (R.length + 2) many (k + 1)]
    simp only [Res.bind]
    rw [blk]
    have hw2 : stm P.ncls (ev P (k + 12)) (envD (R.length + 2) many none) (.whl loopT loopB loopP) (stm4 R C (ns.map .int) c (n + 1) g) = .ok (.nxt, envD (R.length + 2) many cl) (stm4 R C (L.map .int) c' (n + 1) g') := hl
    rw [hw2]
    simp only [Res.bind]
  by_cases h0 : c' = 0
  · subst h0
    have hA : ((g' + 7919 * (n + 1) + 104729).natAbs < 18446744073709551616) := by omega
    have hB := fmod_bd ((g' + 7919 * (n + 1) + 104729) ^ 5) 2147483629 (by decide)
    refine ⟨((((((g' + 7919 * (n + 1) + 104729) ^ 5).fmod 2147483629) * 48271 + 30011 * (n + 1) + 29) ^ 3).fmod 1000000007).fmod many, L, 0, g',
      key _ 0 (envM (R.length + 2) many cl (((g' + 7919 * (n + 1) + 104729) ^ 5).fmod 2147483629)) (hbody.trans ?_), (fmod_bd _ many (by omega)).1, (fmod_bd _ many (by omega)).2, Int.le_refl _, hg0, hg1, hL⟩
    rw [blk, st_2n]
    simp only [Res.bind]
    rw [blk, st_3 R C (R.length + 2) many k cl 0 (n + 1) g' _ hA]
    simp only [Res.bind]
    generalize ((g' + 7919 * (n + 1) + 104729) ^ 5).fmod 2147483629 = x at hB ⊢
    rw [blk, st_4 R C (R.length + 2) many k cl x 0 (n + 1) g' _ (by omega) hm0]
    rfl
  · refine ⟨c'.fmod many, L, c'.fdiv many, g', key _ _ (envE (R.length + 2) many cl (some (.int (c'.fmod many)))) (hbody.trans ?_), (fmod_bd _ many (by omega)).1, (fmod_bd _ many (by omega)).2, ?_, hg0, hg1, hL⟩
    · rw [blk, st_2 R C (R.length + 2) many k cl c' (n + 1) g' _ (by omega) ⟨hm0, by omega⟩]
      rfl
    · exact Int.fdiv_nonneg hc' (by omega)

end
def lm2 : MS := b_law.getD 1 (.pas ⟨0,0,0,0⟩)
def lawE : MEnv := ⟨[none, some (.ref 1), none, none, none, none], [none, none, none, none, none, some 0], 0⟩
def someV (d : Int) : MV := .lst (.tup [.str [115, 101, 116], .int d, .int 5] :: [.tup [.str [122, 101, 114, 111], .int 1, .int 2]])
theorem m2_ok (S : MSt) (R' : List MO) (d : Int) (hg : getV lawE 1 S = some (.ref 1)) (hd : (ev P 117).f 1 [.ref 1, .int 8] S = .ok (.int d) ⟨R', [none]⟩) : stm P.ncls (ev P 120) lawE lm2 S = .ok (.nxt, lawE) ⟨R', [some (someV d)]⟩ := by
  show (((((((ev P 117).f 1 [.ref 1, .int 8] S).bind fun x s => (Res.ok [MV.int 5] s).bind fun ys s => .ok (x :: ys) s).bind fun ys s => .ok (MV.str [115, 101, 116] :: ys) s).bind fun xs s => if xs.length ≤ SZ then .ok (MV.tup xs) s else .bad).bind fun x s => (Res.ok [.tup [.str [122, 101, 114, 111], .int 1, .int 2]] s).bind fun ys s => .ok (x :: ys) s).bind fun xs s => if xs.length ≤ SZ then newL false xs s else .bad).bind (fun v s => match asgV (.var 5 "some" ⟨0,0,0,0⟩) v lawE s with
    | some (env, s) => (.ok (.nxt, env) s : Res (Fl × MEnv))
    | none => .bad) = _
  rw [hd]; rfl
def lrest : List MS := b_law.drop 2
def good (r : Res (Fl × MEnv)) : Bool := match r with
  | .ok (.ret (.bl true), _) _ => true
  | _ => false
def stR (d : Int) : MSt := ⟨[.dead, .dead], [some (someV d)]⟩
def seg0 : List MS := (lrest.drop 0).take 9
def seg1 : List MS := (lrest.drop 9).take 6
def seg2 : List MS := (lrest.drop 15).take 3
def seg3 : List MS := (lrest.drop 18).take 4
def seg4 : List MS := (lrest.drop 22).take 1
theorem p0 (v : MV) : (ev P 120).s lawE seg0 ⟨[.dead, .dead], [some v]⟩ = .ok (.nxt, ⟨[none, (some (.ref 1)), (some (.ref 2)), none, none, none], [none, none, none, none, none, (some 0)], 0⟩) ⟨[.dead, .dead, (.lst [(.fn 2), (.clo 0 []), (.clo 1 []), (.clo 2 []), (.clo 3 []), (.clo 4 []), (.clo 5 []), (.clo 6 [])])], [(some v)]⟩ := by kernel_rfl
theorem p1_0 : (ev P 120).s ⟨[none, (some (.ref 1)), (some (.ref 2)), none, none, none], [none, none, none, none, none, (some 0)], 0⟩ seg1 ⟨[.dead, .dead, (.lst [(.fn 2), (.clo 0 []), (.clo 1 []), (.clo 2 []), (.clo 3 []), (.clo 4 []), (.clo 5 []), (.clo 6 [])])], [(some (someV 0))]⟩ = .ok (.nxt, ⟨[none, (some (.ref 1)), (some (.ref 3)), none, none, none], [none, none, none, none, none, (some 0)], 0⟩) ⟨[.dead, .dead, (.lst [(.fn 2), (.clo 0 []), (.clo 1 []), (.clo 2 []), (.clo 3 []), (.clo 4 []), (.clo 5 []), (.clo 6 [])]), (.lst [(.clo 7 [0]), (.clo 8 [0]), (.clo 9 [0]), (.clo 10 [0]), (.clo 11 [0])])], [(some (someV 0))]⟩ := by kernel_rfl
theorem p1_1 : (ev P 120).s ⟨[none, (some (.ref 1)), (some (.ref 2)), none, none, none], [none, none, none, none, none, (some 0)], 0⟩ seg1 ⟨[.dead, .dead, (.lst [(.fn 2), (.clo 0 []), (.clo 1 []), (.clo 2 []), (.clo 3 []), (.clo 4 []), (.clo 5 []), (.clo 6 [])])], [(some (someV 1))]⟩ = .ok (.nxt, ⟨[none, (some (.ref 1)), (some (.ref 3)), none, none, none], [none, none, none, none, none, (some 0)], 0⟩) ⟨[.dead, .dead, (.lst [(.fn 2), (.clo 0 []), (.clo 1 []), (.clo 2 []), (.clo 3 []), (.clo 4 []), (.clo 5 []), (.clo 6 [])]), (.lst [(.clo 7 [0]), (.clo 8 [0]), (.clo 9 [0]), (.clo 10 [0]), (.clo 11 [0])])], [(some (someV 1))]⟩ := by kernel_rfl
theorem p1_2 : (ev P 120).s ⟨[none, (some (.ref 1)), (some (.ref 2)), none, none, none], [none, none, none, none, none, (some 0)], 0⟩ seg1 ⟨[.dead, .dead, (.lst [(.fn 2), (.clo 0 []), (.clo 1 []), (.clo 2 []), (.clo 3 []), (.clo 4 []), (.clo 5 []), (.clo 6 [])])], [(some (someV 2))]⟩ = .ok (.nxt, ⟨[none, (some (.ref 1)), (some (.ref 3)), none, none, none], [none, none, none, none, none, (some 0)], 0⟩) ⟨[.dead, .dead, (.lst [(.fn 2), (.clo 0 []), (.clo 1 []), (.clo 2 []), (.clo 3 []), (.clo 4 []), (.clo 5 []), (.clo 6 [])]), (.lst [(.clo 7 [0]), (.clo 8 [0]), (.clo 9 [0]), (.clo 10 [0]), (.clo 11 [0])])], [(some (someV 2))]⟩ := by kernel_rfl
theorem p1_3 : (ev P 120).s ⟨[none, (some (.ref 1)), (some (.ref 2)), none, none, none], [none, none, none, none, none, (some 0)], 0⟩ seg1 ⟨[.dead, .dead, (.lst [(.fn 2), (.clo 0 []), (.clo 1 []), (.clo 2 []), (.clo 3 []), (.clo 4 []), (.clo 5 []), (.clo 6 [])])], [(some (someV 3))]⟩ = .ok (.nxt, ⟨[none, (some (.ref 1)), (some (.ref 3)), none, none, none], [none, none, none, none, none, (some 0)], 0⟩) ⟨[.dead, .dead, (.lst [(.fn 2), (.clo 0 []), (.clo 1 []), (.clo 2 []), (.clo 3 []), (.clo 4 []), (.clo 5 []), (.clo 6 [])]), (.lst [(.clo 7 [0]), (.clo 8 [0]), (.clo 9 [0]), (.clo 10 [0]), (.clo 11 [0])])], [(some (someV 3))]⟩ := by kernel_rfl
theorem p1_4 : (ev P 120).s ⟨[none, (some (.ref 1)), (some (.ref 2)), none, none, none], [none, none, none, none, none, (some 0)], 0⟩ seg1 ⟨[.dead, .dead, (.lst [(.fn 2), (.clo 0 []), (.clo 1 []), (.clo 2 []), (.clo 3 []), (.clo 4 []), (.clo 5 []), (.clo 6 [])])], [(some (someV 4))]⟩ = .ok (.nxt, ⟨[none, (some (.ref 1)), (some (.ref 3)), none, none, none], [none, none, none, none, none, (some 0)], 0⟩) ⟨[.dead, .dead, (.lst [(.fn 2), (.clo 0 []), (.clo 1 []), (.clo 2 []), (.clo 3 []), (.clo 4 []), (.clo 5 []), (.clo 6 [])]), (.lst [(.clo 7 [0]), (.clo 8 [0]), (.clo 9 [0]), (.clo 10 [0]), (.clo 11 [0])])], [(some (someV 4))]⟩ := by kernel_rfl
theorem p1_5 : (ev P 120).s ⟨[none, (some (.ref 1)), (some (.ref 2)), none, none, none], [none, none, none, none, none, (some 0)], 0⟩ seg1 ⟨[.dead, .dead, (.lst [(.fn 2), (.clo 0 []), (.clo 1 []), (.clo 2 []), (.clo 3 []), (.clo 4 []), (.clo 5 []), (.clo 6 [])])], [(some (someV 5))]⟩ = .ok (.nxt, ⟨[none, (some (.ref 1)), (some (.ref 3)), none, none, none], [none, none, none, none, none, (some 0)], 0⟩) ⟨[.dead, .dead, (.lst [(.fn 2), (.clo 0 []), (.clo 1 []), (.clo 2 []), (.clo 3 []), (.clo 4 []), (.clo 5 []), (.clo 6 [])]), (.lst [(.clo 7 [0]), (.clo 8 [0]), (.clo 9 [0]), (.clo 10 [0]), (.clo 11 [0])])], [(some (someV 5))]⟩ := by kernel_rfl
theorem p1_6 : (ev P 120).s ⟨[none, (some (.ref 1)), (some (.ref 2)), none, none, none], [none, none, none, none, none, (some 0)], 0⟩ seg1 ⟨[.dead, .dead, (.lst [(.fn 2), (.clo 0 []), (.clo 1 []), (.clo 2 []), (.clo 3 []), (.clo 4 []), (.clo 5 []), (.clo 6 [])])], [(some (someV 6))]⟩ = .ok (.nxt, ⟨[none, (some (.ref 1)), (some (.ref 3)), none, none, none], [none, none, none, none, none, (some 0)], 0⟩) ⟨[.dead, .dead, (.lst [(.fn 2), (.clo 0 []), (.clo 1 []), (.clo 2 []), (.clo 3 []), (.clo 4 []), (.clo 5 []), (.clo 6 [])]), (.lst [(.clo 7 [0]), (.clo 8 [0]), (.clo 9 [0]), (.clo 10 [0]), (.clo 11 [0])])], [(some (someV 6))]⟩ := by kernel_rfl
theorem p1_7 : (ev P 120).s ⟨[none, (some (.ref 1)), (some (.ref 2)), none, none, none], [none, none, none, none, none, (some 0)], 0⟩ seg1 ⟨[.dead, .dead, (.lst [(.fn 2), (.clo 0 []), (.clo 1 []), (.clo 2 []), (.clo 3 []), (.clo 4 []), (.clo 5 []), (.clo 6 [])])], [(some (someV 7))]⟩ = .ok (.nxt, ⟨[none, (some (.ref 1)), (some (.ref 3)), none, none, none], [none, none, none, none, none, (some 0)], 0⟩) ⟨[.dead, .dead, (.lst [(.fn 2), (.clo 0 []), (.clo 1 []), (.clo 2 []), (.clo 3 []), (.clo 4 []), (.clo 5 []), (.clo 6 [])]), (.lst [(.clo 7 [0]), (.clo 8 [0]), (.clo 9 [0]), (.clo 10 [0]), (.clo 11 [0])])], [(some (someV 7))]⟩ := by kernel_rfl
theorem p2_0 : (ev P 120).s ⟨[none, (some (.ref 1)), (some (.ref 3)), none, none, none], [none, none, none, none, none, (some 0)], 0⟩ seg2 ⟨[.dead, .dead, (.lst [(.fn 2), (.clo 0 []), (.clo 1 []), (.clo 2 []), (.clo 3 []), (.clo 4 []), (.clo 5 []), (.clo 6 [])]), (.lst [(.clo 7 [0]), (.clo 8 [0]), (.clo 9 [0]), (.clo 10 [0]), (.clo 11 [0])])], [(some (someV 0))]⟩ = .ok (.nxt, ⟨[none, (some (.ref 1)), (some (.ref 3)), (some (.tup [(.int 2), (.lst [(.int 0), (.int 0), (.int 0), (.int 0), (.int 0), (.int 0), (.int 0), (.int 0)]), (.lst [(.int 0), (.int 0), (.int 0), (.int 0), (.int 0), (.int 0), (.int 0), (.int 0), (.int 0), (.int 0), (.int 0), (.int 0), (.int 0), (.int 0), (.int 0), (.int 0), (.int 0), (.int 0), (.int 0), (.int 0), (.int 0), (.int 0), (.int 0), (.int 0), (.int 0), (.int 0), (.int 0), (.int 0), (.int 0), (.int 0), (.int 0), (.int 0)]), (.lst []), (.int 0)])), (some (.lst [.non, (.int 5), (.dic [] []), (.tup []), (.tup [(.int 2), (.lst [(.int 0), (.int 0), (.int 0), (.int 0), (.int 0), (.int 0), (.int 0), (.int 0)]), (.lst [(.int 0), (.int 0), (.int 0), (.int 0), (.int 0), (.int 0), (.int 0), (.int 0), (.int 0), (.int 0), (.int 0), (.int 0), (.int 0), (.int 0), (.int 0), (.int 0), (.int 0), (.int 0), (.int 0), (.int 0), (.int 0), (.int 0), (.int 0), (.int 0), (.int 0), (.int 0), (.int 0), (.int 0), (.int 0), (.int 0), (.int 0), (.int 0)]), (.lst [])]), (.tup [(.int 3), (.lst [(.int 0), (.int 0), (.int 0), (.int 0), (.int 0), (.int 0), (.int 0), (.int 0)]), (.lst [(.int 0), (.int 0), (.int 0), (.int 0), (.int 0), (.int 0), (.int 0), (.int 0), (.int 0), (.int 0), (.int 0), (.int 0), (.int 0), (.int 0), (.int 0), (.int 0), (.int 0), (.int 0), (.int 0), (.int 0), (.int 0), (.int 0), (.int 0), (.int 0), (.int 0), (.int 0), (.int 0), (.int 0), (.int 0), (.int 0), (.int 0), (.int 0)]), (.lst []), (.int 0)]), (.tup [(.int 2), (.lst [(.int 0), (.int 0), (.int 0), (.int 0), (.int 0), (.int 0), (.int 0)]), (.lst [(.int 0), (.int 0), (.int 0), (.int 0), (.int 0), (.int 0), (.int 0), (.int 0), (.int 0), (.int 0), (.int 0), (.int 0), (.int 0), (.int 0), (.int 0), (.int 0), (.int 0), (.int 0), (.int 0), (.int 0), (.int 0), (.int 0), (.int 0), (.int 0), (.int 0), (.int 0), (.int 0), (.int 0), (.int 0), (.int 0), (.int 0), (.int 0)]), (.lst []), (.int 0)]), (.tup [(.int 2), (.lst [(.int 0), (.int 0), (.int 0), (.int 0), (.int 0), (.int 0), (.int 0), (.int 0)]), (.lst [(.int 0), (.int 0), (.int 0), (.int 0), (.int 0), (.int 0), (.int 0), (.int 0), (.int 0), (.int 0), (.int 0), (.int 0), (.int 0), (.int 0), (.int 0), (.int 0), (.int 0), (.int 0), (.int 0), (.int 0), (.int 0), (.int 0), (.int 0), (.int 0), (.int 0), (.int 0), (.int 0), (.int 0), (.int 0), (.int 0), (.int 0), (.int 0), (.int 0)]), (.lst []), (.int 0)]), (.tup [(.int 2), (.lst [(.int 0), (.int 0), (.int 0), (.int 0), (.int 0), (.int 0), (.int 0), (.int 0)]), (.lst [(.int 0), (.int 0), (.int 0), (.int 0), (.int 0), (.int 0), (.int 0), (.int 0), (.int 0), (.int 0), (.int 0), (.int 0), (.int 0), (.int 0), (.int 0), (.int 0), (.int 0), (.int 0), (.int 0), (.int 0), (.int 0), (.int 0), (.int 0), (.int 0), (.int 0), (.int 0), (.int 0), (.int 0), (.int 0), (.int 0), (.int 0), (.int 0)]), (.lst [(.int 256)]), (.int 0)]), (.tup [(.int 2), (.lst [(.int 0), (.int 0), (.int 0), (.int 0), (.int 0), (.int 0), (.int 0), (.int 0)]), (.lst [(.int 0), (.int 0), (.int 0), (.int 0), (.int 0), (.int 0), (.int 0), (.int 0), (.int 0), (.int 0), (.int 0), (.int 0), (.int 0), (.int 0), (.int 0), (.int 0), (.int 0), (.int 0), (.int 0), (.int 0), (.int 0), (.int 0), (.int 0), (.int 0), (.int 0), (.int 0), (.int 0), (.int 0), (.int 0), (.int 0), (.int 0), (.int 0)]), (.lst []), (.int (-1))]), (.tup [(.int 2), (.lst [(.int 0), (.int 0), (.int 0), (.int 0), (.int 0), (.int 0), (.int 0), (.int 0)]), (.lst [(.int 0), (.int 0), (.int 0), (.int 0), (.int 0), (.int 0), (.int 0), (.int 0), (.int 0), (.int 0), (.int 0), (.int 0), (.int 0), (.int 0), (.int 0), (.int 0), (.int 0), (.int 0), (.int 0), (.int 0), (.int 0), (.int 0), (.int 0), (.int 0), (.int 0), (.int 0), (.int 0), (.int 0), (.int 0), (.int 0), (.int 0), (.int 0)]), (.lst []), (.bl true)]), (.tup [(.int 2), (.lst [(.int 0), (.int 0), (.int 0), (.int 0), (.int 0), (.int 0), (.int 0), (.int 0)]), (.lst [(.int 0), (.int 0), (.int 0), (.int 0), (.int 0), (.int 0), (.int 0), (.int 0), (.int 0), (.int 0), (.int 0), (.int 0), (.int 0), (.int 0), (.int 0), (.int 0), (.int 0), (.int 0), (.int 0), (.int 0), (.int 0), (.int 0), (.int 0), (.int 0), (.int 0), (.int 0), (.int 0), (.int 0), (.int 0), (.int 0), (.int 0), (.int 0)]), (.lst []), (.int 0), (.int 0)])])), none], [none, none, none, none, none, (some 0)], 0⟩) ⟨[.dead, .dead, (.lst [(.fn 2), (.clo 0 []), (.clo 1 []), (.clo 2 []), (.clo 3 []), (.clo 4 []), (.clo 5 []), (.clo 6 [])]), (.lst [(.clo 7 [0]), (.clo 8 [0]), (.clo 9 [0]), (.clo 10 [0]), (.clo 11 [0])])], [(some (someV 0))]⟩ := by kernel_rfl
theorem p2_1 : (ev P 120).s ⟨[none, (some (.ref 1)), (some (.ref 3)), none, none, none], [none, none, none, none, none, (some 0)], 0⟩ seg2 ⟨[.dead, .dead, (.lst [(.fn 2), (.clo 0 []), (.clo 1 []), (.clo 2 []), (.clo 3 []), (.clo 4 []), (.clo 5 []), (.clo 6 [])]), (.lst [(.clo 7 [0]), (.clo 8 [0]), (.clo 9 [0]), (.clo 10 [0]), (.clo 11 [0])])], [(some (someV 1))]⟩ = .ok (.nxt, ⟨[none, (some (.ref 1)), (some (.ref 3)), (some (.tup [(.int 2), (.lst [(.int 0), (.int 0), (.int 0), (.int 0), (.int 0), (.int 0), (.int 0), (.int 0)]), (.lst [(.int 0), (.int 0), (.int 0), (.int 0), (.int 0), (.int 0), (.int 0), (.int 0), (.int 0), (.int 0), (.int 0), (.int 0), (.int 0), (.int 0), (.int 0), (.int 0), (.int 0), (.int 0), (.int 0), (.int 0), (.int 0), (.int 0), (.int 0), (.int 0), (.int 0), (.int 0), (.int 0), (.int 0), (.int 0), (.int 0), (.int 0), (.int 0)]), (.lst []), (.int 0)])), (some (.lst [.non, (.int 5), (.dic [] []), (.tup []), (.tup [(.int 2), (.lst [(.int 0), (.int 0), (.int 0), (.int 0), (.int 0), (.int 0), (.int 0), (.int 0)]), (.lst [(.int 0), (.int 0), (.int 0), (.int 0), (.int 0), (.int 0), (.int 0), (.int 0), (.int 0), (.int 0), (.int 0), (.int 0), (.int 0), (.int 0), (.int 0), (.int 0), (.int 0), (.int 0), (.int 0), (.int 0), (.int 0), (.int 0), (.int 0), (.int 0), (.int 0), (.int 0), (.int 0), (.int 0), (.int 0), (.int 0), (.int 0), (.int 0)]), (.lst [])]), (.tup [(.int 3), (.lst [(.int 0), (.int 0), (.int 0), (.int 0), (.int 0), (.int 0), (.int 0), (.int 0)]), (.lst [(.int 0), (.int 0), (.int 0), (.int 0), (.int 0), (.int 0), (.int 0), (.int 0), (.int 0), (.int 0), (.int 0), (.int 0), (.int 0), (.int 0), (.int 0), (.int 0), (.int 0), (.int 0), (.int 0), (.int 0), (.int 0), (.int 0), (.int 0), (.int 0), (.int 0), (.int 0), (.int 0), (.int 0), (.int 0), (.int 0), (.int 0), (.int 0)]), (.lst []), (.int 0)]), (.tup [(.int 2), (.lst [(.int 0), (.int 0), (.int 0), (.int 0), (.int 0), (.int 0), (.int 0)]), (.lst [(.int 0), (.int 0), (.int 0), (.int 0), (.int 0), (.int 0), (.int 0), (.int 0), (.int 0), (.int 0), (.int 0), (.int 0), (.int 0), (.int 0), (.int 0), (.int 0), (.int 0), (.int 0), (.int 0), (.int 0), (.int 0), (.int 0), (.int 0), (.int 0), (.int 0), (.int 0), (.int 0), (.int 0), (.int 0), (.int 0), (.int 0), (.int 0)]), (.lst []), (.int 0)]), (.tup [(.int 2), (.lst [(.int 0), (.int 0), (.int 0), (.int 0), (.int 0), (.int 0), (.int 0), (.int 0)]), (.lst [(.int 0), (.int 0), (.int 0), (.int 0), (.int 0), (.int 0), (.int 0), (.int 0), (.int 0), (.int 0), (.int 0), (.int 0), (.int 0), (.int 0), (.int 0), (.int 0), (.int 0), (.int 0), (.int 0), (.int 0), (.int 0), (.int 0), (.int 0), (.int 0), (.int 0), (.int 0), (.int 0), (.int 0), (.int 0), (.int 0), (.int 0), (.int 0), (.int 0)]), (.lst []), (.int 0)]), (.tup [(.int 2), (.lst [(.int 0), (.int 0), (.int 0), (.int 0), (.int 0), (.int 0), (.int 0), (.int 0)]), (.lst [(.int 0), (.int 0), (.int 0), (.int 0), (.int 0), (.int 0), (.int 0), (.int 0), (.int 0), (.int 0), (.int 0), (.int 0), (.int 0), (.int 0), (.int 0), (.int 0), (.int 0), (.int 0), (.int 0), (.int 0), (.int 0), (.int 0), (.int 0), (.int 0), (.int 0), (.int 0), (.int 0), (.int 0), (.int 0), (.int 0), (.int 0), (.int 0)]), (.lst [(.int 256)]), (.int 0)]), (.tup [(.int 2), (.lst [(.int 0), (.int 0), (.int 0), (.int 0), (.int 0), (.int 0), (.int 0), (.int 0)]), (.lst [(.int 0), (.int 0), (.int 0), (.int 0), (.int 0), (.int 0), (.int 0), (.int 0), (.int 0), (.int 0), (.int 0), (.int 0), (.int 0), (.int 0), (.int 0), (.int 0), (.int 0), (.int 0), (.int 0), (.int 0), (.int 0), (.int 0), (.int 0), (.int 0), (.int 0), (.int 0), (.int 0), (.int 0), (.int 0), (.int 0), (.int 0), (.int 0)]), (.lst []), (.int (-1))]), (.tup [(.int 2), (.lst [(.int 0), (.int 0), (.int 0), (.int 0), (.int 0), (.int 0), (.int 0), (.int 0)]), (.lst [(.int 0), (.int 0), (.int 0), (.int 0), (.int 0), (.int 0), (.int 0), (.int 0), (.int 0), (.int 0), (.int 0), (.int 0), (.int 0), (.int 0), (.int 0), (.int 0), (.int 0), (.int 0), (.int 0), (.int 0), (.int 0), (.int 0), (.int 0), (.int 0), (.int 0), (.int 0), (.int 0), (.int 0), (.int 0), (.int 0), (.int 0), (.int 0)]), (.lst []), (.bl true)]), (.tup [(.int 2), (.lst [(.int 0), (.int 0), (.int 0), (.int 0), (.int 0), (.int 0), (.int 0), (.int 0)]), (.lst [(.int 0), (.int 0), (.int 0), (.int 0), (.int 0), (.int 0), (.int 0), (.int 0), (.int 0), (.int 0), (.int 0), (.int 0), (.int 0), (.int 0), (.int 0), (.int 0), (.int 0), (.int 0), (.int 0), (.int 0), (.int 0), (.int 0), (.int 0), (.int 0), (.int 0), (.int 0), (.int 0), (.int 0), (.int 0), (.int 0), (.int 0), (.int 0)]), (.lst []), (.int 0), (.int 0)])])), none], [none, none, none, none, none, (some 0)], 0⟩) ⟨[.dead, .dead, (.lst [(.fn 2), (.clo 0 []), (.clo 1 []), (.clo 2 []), (.clo 3 []), (.clo 4 []), (.clo 5 []), (.clo 6 [])]), (.lst [(.clo 7 [0]), (.clo 8 [0]), (.clo 9 [0]), (.clo 10 [0]), (.clo 11 [0])])], [(some (someV 1))]⟩ := by kernel_rfl
theorem p2_2 : (ev P 120).s ⟨[none, (some (.ref 1)), (some (.ref 3)), none, none, none], [none, none, none, none, none, (some 0)], 0⟩ seg2 ⟨[.dead, .dead, (.lst [(.fn 2), (.clo 0 []), (.clo 1 []), (.clo 2 []), (.clo 3 []), (.clo 4 []), (.clo 5 []), (.clo 6 [])]), (.lst [(.clo 7 [0]), (.clo 8 [0]), (.clo 9 [0]), (.clo 10 [0]), (.clo 11 [0])])], [(some (someV 2))]⟩ = .ok (.nxt, ⟨[none, (some (.ref 1)), (some (.ref 3)), (some (.tup [(.int 2), (.lst [(.int 0), (.int 0), (.int 0), (.int 0), (.int 0), (.int 0), (.int 0), (.int 0)]), (.lst [(.int 0), (.int 0), (.int 0), (.int 0), (.int 0), (.int 0), (.int 0), (.int 0), (.int 0), (.int 0), (.int 0), (.int 0), (.int 0), (.int 0), (.int 0), (.int 0), (.int 0), (.int 0), (.int 0), (.int 0), (.int 0), (.int 0), (.int 0), (.int 0), (.int 0), (.int 0), (.int 0), (.int 0), (.int 0), (.int 0), (.int 0), (.int 0)]), (.lst []), (.int 0)])), (some (.lst [.non, (.int 5), (.dic [] []), (.tup []), (.tup [(.int 2), (.lst [(.int 0), (.int 0), (.int 0), (.int 0), (.int 0), (.int 0), (.int 0), (.int 0)]), (.lst [(.int 0), (.int 0), (.int 0), (.int 0), (.int 0), (.int 0), (.int 0), (.int 0), (.int 0), (.int 0), (.int 0), (.int 0), (.int 0), (.int 0), (.int 0), (.int 0), (.int 0), (.int 0), (.int 0), (.int 0), (.int 0), (.int 0), (.int 0), (.int 0), (.int 0), (.int 0), (.int 0), (.int 0), (.int 0), (.int 0), (.int 0), (.int 0)]), (.lst [])]), (.tup [(.int 3), (.lst [(.int 0), (.int 0), (.int 0), (.int 0), (.int 0), (.int 0), (.int 0), (.int 0)]), (.lst [(.int 0), (.int 0), (.int 0), (.int 0), (.int 0), (.int 0), (.int 0), (.int 0), (.int 0), (.int 0), (.int 0), (.int 0), (.int 0), (.int 0), (.int 0), (.int 0), (.int 0), (.int 0), (.int 0), (.int 0), (.int 0), (.int 0), (.int 0), (.int 0), (.int 0), (.int 0), (.int 0), (.int 0), (.int 0), (.int 0), (.int 0), (.int 0)]), (.lst []), (.int 0)]), (.tup [(.int 2), (.lst [(.int 0), (.int 0), (.int 0), (.int 0), (.int 0), (.int 0), (.int 0)]), (.lst [(.int 0), (.int 0), (.int 0), (.int 0), (.int 0), (.int 0), (.int 0), (.int 0), (.int 0), (.int 0), (.int 0), (.int 0), (.int 0), (.int 0), (.int 0), (.int 0), (.int 0), (.int 0), (.int 0), (.int 0), (.int 0), (.int 0), (.int 0), (.int 0), (.int 0), (.int 0), (.int 0), (.int 0), (.int 0), (.int 0), (.int 0), (.int 0)]), (.lst []), (.int 0)]), (.tup [(.int 2), (.lst [(.int 0), (.int 0), (.int 0), (.int 0), (.int 0), (.int 0), (.int 0), (.int 0)]), (.lst [(.int 0), (.int 0), (.int 0), (.int 0), (.int 0), (.int 0), (.int 0), (.int 0), (.int 0), (.int 0), (.int 0), (.int 0), (.int 0), (.int 0), (.int 0), (.int 0), (.int 0), (.int 0), (.int 0), (.int 0), (.int 0), (.int 0), (.int 0), (.int 0), (.int 0), (.int 0), (.int 0), (.int 0), (.int 0), (.int 0), (.int 0), (.int 0), (.int 0)]), (.lst []), (.int 0)]), (.tup [(.int 2), (.lst [(.int 0), (.int 0), (.int 0), (.int 0), (.int 0), (.int 0), (.int 0), (.int 0)]), (.lst [(.int 0), (.int 0), (.int 0), (.int 0), (.int 0), (.int 0), (.int 0), (.int 0), (.int 0), (.int 0), (.int 0), (.int 0), (.int 0), (.int 0), (.int 0), (.int 0), (.int 0), (.int 0), (.int 0), (.int 0), (.int 0), (.int 0), (.int 0), (.int 0), (.int 0), (.int 0), (.int 0), (.int 0), (.int 0), (.int 0), (.int 0), (.int 0)]), (.lst [(.int 256)]), (.int 0)]), (.tup [(.int 2), (.lst [(.int 0), (.int 0), (.int 0), (.int 0), (.int 0), (.int 0), (.int 0), (.int 0)]), (.lst [(.int 0), (.int 0), (.int 0), (.int 0), (.int 0), (.int 0), (.int 0), (.int 0), (.int 0), (.int 0), (.int 0), (.int 0), (.int 0), (.int 0), (.int 0), (.int 0), (.int 0), (.int 0), (.int 0), (.int 0), (.int 0), (.int 0), (.int 0), (.int 0), (.int 0), (.int 0), (.int 0), (.int 0), (.int 0), (.int 0), (.int 0), (.int 0)]), (.lst []), (.int (-1))]), (.tup [(.int 2), (.lst [(.int 0), (.int 0), (.int 0), (.int 0), (.int 0), (.int 0), (.int 0), (.int 0)]), (.lst [(.int 0), (.int 0), (.int 0), (.int 0), (.int 0), (.int 0), (.int 0), (.int 0), (.int 0), (.int 0), (.int 0), (.int 0), (.int 0), (.int 0), (.int 0), (.int 0), (.int 0), (.int 0), (.int 0), (.int 0), (.int 0), (.int 0), (.int 0), (.int 0), (.int 0), (.int 0), (.int 0), (.int 0), (.int 0), (.int 0), (.int 0), (.int 0)]), (.lst []), (.bl true)]), (.tup [(.int 2), (.lst [(.int 0), (.int 0), (.int 0), (.int 0), (.int 0), (.int 0), (.int 0), (.int 0)]), (.lst [(.int 0), (.int 0), (.int 0), (.int 0), (.int 0), (.int 0), (.int 0), (.int 0), (.int 0), (.int 0), (.int 0), (.int 0), (.int 0), (.int 0), (.int 0), (.int 0), (.int 0), (.int 0), (.int 0), (.int 0), (.int 0), (.int 0), (.int 0), (.int 0), (.int 0), (.int 0), (.int 0), (.int 0), (.int 0), (.int 0), (.int 0), (.int 0)]), (.lst []), (.int 0), (.int 0)])])), none], [none, none, none, none, none, (some 0)], 0⟩) ⟨[.dead, .dead, (.lst [(.fn 2), (.clo 0 []), (.clo 1 []), (.clo 2 []), (.clo 3 []), (.clo 4 []), (.clo 5 []), (.clo 6 [])]), (.lst [(.clo 7 [0]), (.clo 8 [0]), (.clo 9 [0]), (.clo 10 [0]), (.clo 11 [0])])], [(some (someV 2))]⟩ := by kernel_rfl
theorem p2_3 : (ev P 120).s ⟨[none, (some (.ref 1)), (some (.ref 3)), none, none, none], [none, none, none, none, none, (some 0)], 0⟩ seg2 ⟨[.dead, .dead, (.lst [(.fn 2), (.clo 0 []), (.clo 1 []), (.clo 2 []), (.clo 3 []), (.clo 4 []), (.clo 5 []), (.clo 6 [])]), (.lst [(.clo 7 [0]), (.clo 8 [0]), (.clo 9 [0]), (.clo 10 [0]), (.clo 11 [0])])], [(some (someV 3))]⟩ = .ok (.nxt, ⟨[none, (some (.ref 1)), (some (.ref 3)), (some (.tup [(.int 2), (.lst [(.int 0), (.int 0), (.int 0), (.int 0), (.int 0), (.int 0), (.int 0), (.int 0)]), (.lst [(.int 0), (.int 0), (.int 0), (.int 0), (.int 0), (.int 0), (.int 0), (.int 0), (.int 0), (.int 0), (.int 0), (.int 0), (.int 0), (.int 0), (.int 0), (.int 0), (.int 0), (.int 0), (.int 0), (.int 0), (.int 0), (.int 0), (.int 0), (.int 0), (.int 0), (.int 0), (.int 0), (.int 0), (.int 0), (.int 0), (.int 0), (.int 0)]), (.lst []), (.int 0)])), (some (.lst [.non, (.int 5), (.dic [] []), (.tup []), (.tup [(.int 2), (.lst [(.int 0), (.int 0), (.int 0), (.int 0), (.int 0), (.int 0), (.int 0), (.int 0)]), (.lst [(.int 0), (.int 0), (.int 0), (.int 0), (.int 0), (.int 0), (.int 0), (.int 0), (.int 0), (.int 0), (.int 0), (.int 0), (.int 0), (.int 0), (.int 0), (.int 0), (.int 0), (.int 0), (.int 0), (.int 0), (.int 0), (.int 0), (.int 0), (.int 0), (.int 0), (.int 0), (.int 0), (.int 0), (.int 0), (.int 0), (.int 0), (.int 0)]), (.lst [])]), (.tup [(.int 3), (.lst [(.int 0), (.int 0), (.int 0), (.int 0), (.int 0), (.int 0), (.int 0), (.int 0)]), (.lst [(.int 0), (.int 0), (.int 0), (.int 0), (.int 0), (.int 0), (.int 0), (.int 0), (.int 0), (.int 0), (.int 0), (.int 0), (.int 0), (.int 0), (.int 0), (.int 0), (.int 0), (.int 0), (.int 0), (.int 0), (.int 0), (.int 0), (.int 0), (.int 0), (.int 0), (.int 0), (.int 0), (.int 0), (.int 0), (.int 0), (.int 0), (.int 0)]), (.lst []), (.int 0)]), (.tup [(.int 2), (.lst [(.int 0), (.int 0), (.int 0), (.int 0), (.int 0), (.int 0), (.int 0)]), (.lst [(.int 0), (.int 0), (.int 0), (.int 0), (.int 0), (.int 0), (.int 0), (.int 0), (.int 0), (.int 0), (.int 0), (.int 0), (.int 0), (.int 0), (.int 0), (.int 0), (.int 0), (.int 0), (.int 0), (.int 0), (.int 0), (.int 0), (.int 0), (.int 0), (.int 0), (.int 0), (.int 0), (.int 0), (.int 0), (.int 0), (.int 0), (.int 0)]), (.lst []), (.int 0)]), (.tup [(.int 2), (.lst [(.int 0), (.int 0), (.int 0), (.int 0), (.int 0), (.int 0), (.int 0), (.int 0)]), (.lst [(.int 0), (.int 0), (.int 0), (.int 0), (.int 0), (.int 0), (.int 0), (.int 0), (.int 0), (.int 0), (.int 0), (.int 0), (.int 0), (.int 0), (.int 0), (.int 0), (.int 0), (.int 0), (.int 0), (.int 0), (.int 0), (.int 0), (.int 0), (.int 0), (.int 0), (.int 0), (.int 0), (.int 0), (.int 0), (.int 0), (.int 0), (.int 0), (.int 0)]), (.lst []), (.int 0)]), (.tup [(.int 2), (.lst [(.int 0), (.int 0), (.int 0), (.int 0), (.int 0), (.int 0), (.int 0), (.int 0)]), (.lst [(.int 0), (.int 0), (.int 0), (.int 0), (.int 0), (.int 0), (.int 0), (.int 0), (.int 0), (.int 0), (.int 0), (.int 0), (.int 0), (.int 0), (.int 0), (.int 0), (.int 0), (.int 0), (.int 0), (.int 0), (.int 0), (.int 0), (.int 0), (.int 0), (.int 0), (.int 0), (.int 0), (.int 0), (.int 0), (.int 0), (.int 0), (.int 0)]), (.lst [(.int 256)]), (.int 0)]), (.tup [(.int 2), (.lst [(.int 0), (.int 0), (.int 0), (.int 0), (.int 0), (.int 0), (.int 0), (.int 0)]), (.lst [(.int 0), (.int 0), (.int 0), (.int 0), (.int 0), (.int 0), (.int 0), (.int 0), (.int 0), (.int 0), (.int 0), (.int 0), (.int 0), (.int 0), (.int 0), (.int 0), (.int 0), (.int 0), (.int 0), (.int 0), (.int 0), (.int 0), (.int 0), (.int 0), (.int 0), (.int 0), (.int 0), (.int 0), (.int 0), (.int 0), (.int 0), (.int 0)]), (.lst []), (.int (-1))]), (.tup [(.int 2), (.lst [(.int 0), (.int 0), (.int 0), (.int 0), (.int 0), (.int 0), (.int 0), (.int 0)]), (.lst [(.int 0), (.int 0), (.int 0), (.int 0), (.int 0), (.int 0), (.int 0), (.int 0), (.int 0), (.int 0), (.int 0), (.int 0), (.int 0), (.int 0), (.int 0), (.int 0), (.int 0), (.int 0), (.int 0), (.int 0), (.int 0), (.int 0), (.int 0), (.int 0), (.int 0), (.int 0), (.int 0), (.int 0), (.int 0), (.int 0), (.int 0), (.int 0)]), (.lst []), (.bl true)]), (.tup [(.int 2), (.lst [(.int 0), (.int 0), (.int 0), (.int 0), (.int 0), (.int 0), (.int 0), (.int 0)]), (.lst [(.int 0), (.int 0), (.int 0), (.int 0), (.int 0), (.int 0), (.int 0), (.int 0), (.int 0), (.int 0), (.int 0), (.int 0), (.int 0), (.int 0), (.int 0), (.int 0), (.int 0), (.int 0), (.int 0), (.int 0), (.int 0), (.int 0), (.int 0), (.int 0), (.int 0), (.int 0), (.int 0), (.int 0), (.int 0), (.int 0), (.int 0), (.int 0)]), (.lst []), (.int 0), (.int 0)])])), none], [none, none, none, none, none, (some 0)], 0⟩) ⟨[.dead, .dead, (.lst [(.fn 2), (.clo 0 []), (.clo 1 []), (.clo 2 []), (.clo 3 []), (.clo 4 []), (.clo 5 []), (.clo 6 [])]), (.lst [(.clo 7 [0]), (.clo 8 [0]), (.clo 9 [0]), (.clo 10 [0]), (.clo 11 [0])])], [(some (someV 3))]⟩ := by kernel_rfl
theorem p2_4 : (ev P 120).s ⟨[none, (some (.ref 1)), (some (.ref 3)), none, none, none], [none, none, none, none, none, (some 0)], 0⟩ seg2 ⟨[.dead, .dead, (.lst [(.fn 2), (.clo 0 []), (.clo 1 []), (.clo 2 []), (.clo 3 []), (.clo 4 []), (.clo 5 []), (.clo 6 [])]), (.lst [(.clo 7 [0]), (.clo 8 [0]), (.clo 9 [0]), (.clo 10 [0]), (.clo 11 [0])])], [(some (someV 4))]⟩ = .ok (.nxt, ⟨[none, (some (.ref 1)), (some (.ref 3)), (some (.tup [(.int 2), (.lst [(.int 0), (.int 0), (.int 0), (.int 0), (.int 0), (.int 0), (.int 0), (.int 0)]), (.lst [(.int 0), (.int 0), (.int 0), (.int 0), (.int 0), (.int 0), (.int 0), (.int 0), (.int 0), (.int 0), (.int 0), (.int 0), (.int 0), (.int 0), (.int 0), (.int 0), (.int 0), (.int 0), (.int 0), (.int 0), (.int 0), (.int 0), (.int 0), (.int 0), (.int 0), (.int 0), (.int 0), (.int 0), (.int 0), (.int 0), (.int 0), (.int 0)]), (.lst []), (.int 0)])), (some (.lst [.non, (.int 5), (.dic [] []), (.tup []), (.tup [(.int 2), (.lst [(.int 0), (.int 0), (.int 0), (.int 0), (.int 0), (.int 0), (.int 0), (.int 0)]), (.lst [(.int 0), (.int 0), (.int 0), (.int 0), (.int 0), (.int 0), (.int 0), (.int 0), (.int 0), (.int 0), (.int 0), (.int 0), (.int 0), (.int 0), (.int 0), (.int 0), (.int 0), (.int 0), (.int 0), (.int 0), (.int 0), (.int 0), (.int 0), (.int 0), (.int 0), (.int 0), (.int 0), (.int 0), (.int 0), (.int 0), (.int 0), (.int 0)]), (.lst [])]), (.tup [(.int 3), (.lst [(.int 0), (.int 0), (.int 0), (.int 0), (.int 0), (.int 0), (.int 0), (.int 0)]), (.lst [(.int 0), (.int 0), (.int 0), (.int 0), (.int 0), (.int 0), (.int 0), (.int 0), (.int 0), (.int 0), (.int 0), (.int 0), (.int 0), (.int 0), (.int 0), (.int 0), (.int 0), (.int 0), (.int 0), (.int 0), (.int 0), (.int 0), (.int 0), (.int 0), (.int 0), (.int 0), (.int 0), (.int 0), (.int 0), (.int 0), (.int 0), (.int 0)]), (.lst []), (.int 0)]), (.tup [(.int 2), (.lst [(.int 0), (.int 0), (.int 0), (.int 0), (.int 0), (.int 0), (.int 0)]), (.lst [(.int 0), (.int 0), (.int 0), (.int 0), (.int 0), (.int 0), (.int 0), (.int 0), (.int 0), (.int 0), (.int 0), (.int 0), (.int 0), (.int 0), (.int 0), (.int 0), (.int 0), (.int 0), (.int 0), (.int 0), (.int 0), (.int 0), (.int 0), (.int 0), (.int 0), (.int 0), (.int 0), (.int 0), (.int 0), (.int 0), (.int 0), (.int 0)]), (.lst []), (.int 0)]), (.tup [(.int 2), (.lst [(.int 0), (.int 0), (.int 0), (.int 0), (.int 0), (.int 0), (.int 0), (.int 0)]), (.lst [(.int 0), (.int 0), (.int 0), (.int 0), (.int 0), (.int 0), (.int 0), (.int 0), (.int 0), (.int 0), (.int 0), (.int 0), (.int 0), (.int 0), (.int 0), (.int 0), (.int 0), (.int 0), (.int 0), (.int 0), (.int 0), (.int 0), (.int 0), (.int 0), (.int 0), (.int 0), (.int 0), (.int 0), (.int 0), (.int 0), (.int 0), (.int 0), (.int 0)]), (.lst []), (.int 0)]), (.tup [(.int 2), (.lst [(.int 0), (.int 0), (.int 0), (.int 0), (.int 0), (.int 0), (.int 0), (.int 0)]), (.lst [(.int 0), (.int 0), (.int 0), (.int 0), (.int 0), (.int 0), (.int 0), (.int 0), (.int 0), (.int 0), (.int 0), (.int 0), (.int 0), (.int 0), (.int 0), (.int 0), (.int 0), (.int 0), (.int 0), (.int 0), (.int 0), (.int 0), (.int 0), (.int 0), (.int 0), (.int 0), (.int 0), (.int 0), (.int 0), (.int 0), (.int 0), (.int 0)]), (.lst [(.int 256)]), (.int 0)]), (.tup [(.int 2), (.lst [(.int 0), (.int 0), (.int 0), (.int 0), (.int 0), (.int 0), (.int 0), (.int 0)]), (.lst [(.int 0), (.int 0), (.int 0), (.int 0), (.int 0), (.int 0), (.int 0), (.int 0), (.int 0), (.int 0), (.int 0), (.int 0), (.int 0), (.int 0), (.int 0), (.int 0), (.int 0), (.int 0), (.int 0), (.int 0), (.int 0), (.int 0), (.int 0), (.int 0), (.int 0), (.int 0), (.int 0), (.int 0), (.int 0), (.int 0), (.int 0), (.int 0)]), (.lst []), (.int (-1))]), (.tup [(.int 2), (.lst [(.int 0), (.int 0), (.int 0), (.int 0), (.int 0), (.int 0), (.int 0), (.int 0)]), (.lst [(.int 0), (.int 0), (.int 0), (.int 0), (.int 0), (.int 0), (.int 0), (.int 0), (.int 0), (.int 0), (.int 0), (.int 0), (.int 0), (.int 0), (.int 0), (.int 0), (.int 0), (.int 0), (.int 0), (.int 0), (.int 0), (.int 0), (.int 0), (.int 0), (.int 0), (.int 0), (.int 0), (.int 0), (.int 0), (.int 0), (.int 0), (.int 0)]), (.lst []), (.bl true)]), (.tup [(.int 2), (.lst [(.int 0), (.int 0), (.int 0), (.int 0), (.int 0), (.int 0), (.int 0), (.int 0)]), (.lst [(.int 0), (.int 0), (.int 0), (.int 0), (.int 0), (.int 0), (.int 0), (.int 0), (.int 0), (.int 0), (.int 0), (.int 0), (.int 0), (.int 0), (.int 0), (.int 0), (.int 0), (.int 0), (.int 0), (.int 0), (.int 0), (.int 0), (.int 0), (.int 0), (.int 0), (.int 0), (.int 0), (.int 0), (.int 0), (.int 0), (.int 0), (.int 0)]), (.lst []), (.int 0), (.int 0)])])), none], [none, none, none, none, none, (some 0)], 0⟩) ⟨[.dead, .dead, (.lst [(.fn 2), (.clo 0 []), (.clo 1 []), (.clo 2 []), (.clo 3 []), (.clo 4 []), (.clo 5 []), (.clo 6 [])]), (.lst [(.clo 7 [0]), (.clo 8 [0]), (.clo 9 [0]), (.clo 10 [0]), (.clo 11 [0])])], [(some (someV 4))]⟩ := by kernel_rfl
theorem p2_5 : (ev P 120).s ⟨[none, (some (.ref 1)), (some (.ref 3)), none, none, none], [none, none, none, none, none, (some 0)], 0⟩ seg2 ⟨[.dead, .dead, (.lst [(.fn 2), (.clo 0 []), (.clo 1 []), (.clo 2 []), (.clo 3 []), (.clo 4 []), (.clo 5 []), (.clo 6 [])]), (.lst [(.clo 7 [0]), (.clo 8 [0]), (.clo 9 [0]), (.clo 10 [0]), (.clo 11 [0])])], [(some (someV 5))]⟩ = .ok (.nxt, ⟨[none, (some (.ref 1)), (some (.ref 3)), (some (.tup [(.int 2), (.lst [(.int 0), (.int 0), (.int 0), (.int 0), (.int 0), (.int 0), (.int 0), (.int 0)]), (.lst [(.int 0), (.int 0), (.int 0), (.int 0), (.int 0), (.int 0), (.int 0), (.int 0), (.int 0), (.int 0), (.int 0), (.int 0), (.int 0), (.int 0), (.int 0), (.int 0), (.int 0), (.int 0), (.int 0), (.int 0), (.int 0), (.int 0), (.int 0), (.int 0), (.int 0), (.int 0), (.int 0), (.int 0), (.int 0), (.int 0), (.int 0), (.int 0)]), (.lst []), (.int 0)])), (some (.lst [.non, (.int 5), (.dic [] []), (.tup []), (.tup [(.int 2), (.lst [(.int 0), (.int 0), (.int 0), (.int 0), (.int 0), (.int 0), (.int 0), (.int 0)]), (.lst [(.int 0), (.int 0), (.int 0), (.int 0), (.int 0), (.int 0), (.int 0), (.int 0), (.int 0), (.int 0), (.int 0), (.int 0), (.int 0), (.int 0), (.int 0), (.int 0), (.int 0), (.int 0), (.int 0), (.int 0), (.int 0), (.int 0), (.int 0), (.int 0), (.int 0), (.int 0), (.int 0), (.int 0), (.int 0), (.int 0), (.int 0), (.int 0)]), (.lst [])]), (.tup [(.int 3), (.lst [(.int 0), (.int 0), (.int 0), (.int 0), (.int 0), (.int 0), (.int 0), (.int 0)]), (.lst [(.int 0), (.int 0), (.int 0), (.int 0), (.int 0), (.int 0), (.int 0), (.int 0), (.int 0), (.int 0), (.int 0), (.int 0), (.int 0), (.int 0), (.int 0), (.int 0), (.int 0), (.int 0), (.int 0), (.int 0), (.int 0), (.int 0), (.int 0), (.int 0), (.int 0), (.int 0), (.int 0), (.int 0), (.int 0), (.int 0), (.int 0), (.int 0)]), (.lst []), (.int 0)]), (.tup [(.int 2), (.lst [(.int 0), (.int 0), (.int 0), (.int 0), (.int 0), (.int 0), (.int 0)]), (.lst [(.int 0), (.int 0), (.int 0), (.int 0), (.int 0), (.int 0), (.int 0), (.int 0), (.int 0), (.int 0), (.int 0), (.int 0), (.int 0), (.int 0), (.int 0), (.int 0), (.int 0), (.int 0), (.int 0), (.int 0), (.int 0), (.int 0), (.int 0), (.int 0), (.int 0), (.int 0), (.int 0), (.int 0), (.int 0), (.int 0), (.int 0), (.int 0)]), (.lst []), (.int 0)]), (.tup [(.int 2), (.lst [(.int 0), (.int 0), (.int 0), (.int 0), (.int 0), (.int 0), (.int 0), (.int 0)]), (.lst [(.int 0), (.int 0), (.int 0), (.int 0), (.int 0), (.int 0), (.int 0), (.int 0), (.int 0), (.int 0), (.int 0), (.int 0), (.int 0), (.int 0), (.int 0), (.int 0), (.int 0), (.int 0), (.int 0), (.int 0), (.int 0), (.int 0), (.int 0), (.int 0), (.int 0), (.int 0), (.int 0), (.int 0), (.int 0), (.int 0), (.int 0), (.int 0), (.int 0)]), (.lst []), (.int 0)]), (.tup [(.int 2), (.lst [(.int 0), (.int 0), (.int 0), (.int 0), (.int 0), (.int 0), (.int 0), (.int 0)]), (.lst [(.int 0), (.int 0), (.int 0), (.int 0), (.int 0), (.int 0), (.int 0), (.int 0), (.int 0), (.int 0), (.int 0), (.int 0), (.int 0), (.int 0), (.int 0), (.int 0), (.int 0), (.int 0), (.int 0), (.int 0), (.int 0), (.int 0), (.int 0), (.int 0), (.int 0), (.int 0), (.int 0), (.int 0), (.int 0), (.int 0), (.int 0), (.int 0)]), (.lst [(.int 256)]), (.int 0)]), (.tup [(.int 2), (.lst [(.int 0), (.int 0), (.int 0), (.int 0), (.int 0), (.int 0), (.int 0), (.int 0)]), (.lst [(.int 0), (.int 0), (.int 0), (.int 0), (.int 0), (.int 0), (.int 0), (.int 0), (.int 0), (.int 0), (.int 0), (.int 0), (.int 0), (.int 0), (.int 0), (.int 0), (.int 0), (.int 0), (.int 0), (.int 0), (.int 0), (.int 0), (.int 0), (.int 0), (.int 0), (.int 0), (.int 0), (.int 0), (.int 0), (.int 0), (.int 0), (.int 0)]), (.lst []), (.int (-1))]), (.tup [(.int 2), (.lst [(.int 0), (.int 0), (.int 0), (.int 0), (.int 0), (.int 0), (.int 0), (.int 0)]), (.lst [(.int 0), (.int 0), (.int 0), (.int 0), (.int 0), (.int 0), (.int 0), (.int 0), (.int 0), (.int 0), (.int 0), (.int 0), (.int 0), (.int 0), (.int 0), (.int 0), (.int 0), (.int 0), (.int 0), (.int 0), (.int 0), (.int 0), (.int 0), (.int 0), (.int 0), (.int 0), (.int 0), (.int 0), (.int 0), (.int 0), (.int 0), (.int 0)]), (.lst []), (.bl true)]), (.tup [(.int 2), (.lst [(.int 0), (.int 0), (.int 0), (.int 0), (.int 0), (.int 0), (.int 0), (.int 0)]), (.lst [(.int 0), (.int 0), (.int 0), (.int 0), (.int 0), (.int 0), (.int 0), (.int 0), (.int 0), (.int 0), (.int 0), (.int 0), (.int 0), (.int 0), (.int 0), (.int 0), (.int 0), (.int 0), (.int 0), (.int 0), (.int 0), (.int 0), (.int 0), (.int 0), (.int 0), (.int 0), (.int 0), (.int 0), (.int 0), (.int 0), (.int 0), (.int 0)]), (.lst []), (.int 0), (.int 0)])])), none], [none, none, none, none, none, (some 0)], 0⟩) ⟨[.dead, .dead, (.lst [(.fn 2), (.clo 0 []), (.clo 1 []), (.clo 2 []), (.clo 3 []), (.clo 4 []), (.clo 5 []), (.clo 6 [])]), (.lst [(.clo 7 [0]), (.clo 8 [0]), (.clo 9 [0]), (.clo 10 [0]), (.clo 11 [0])])], [(some (someV 5))]⟩ := by kernel_rfl
theorem p2_6 : (ev P 120).s ⟨[none, (some (.ref 1)), (some (.ref 3)), none, none, none], [none, none, none, none, none, (some 0)], 0⟩ seg2 ⟨[.dead, .dead, (.lst [(.fn 2), (.clo 0 []), (.clo 1 []), (.clo 2 []), (.clo 3 []), (.clo 4 []), (.clo 5 []), (.clo 6 [])]), (.lst [(.clo 7 [0]), (.clo 8 [0]), (.clo 9 [0]), (.clo 10 [0]), (.clo 11 [0])])], [(some (someV 6))]⟩ = .ok (.nxt, ⟨[none, (some (.ref 1)), (some (.ref 3)), (some (.tup [(.int 2), (.lst [(.int 0), (.int 0), (.int 0), (.int 0), (.int 0), (.int 0), (.int 0), (.int 0)]), (.lst [(.int 0), (.int 0), (.int 0), (.int 0), (.int 0), (.int 0), (.int 0), (.int 0), (.int 0), (.int 0), (.int 0), (.int 0), (.int 0), (.int 0), (.int 0), (.int 0), (.int 0), (.int 0), (.int 0), (.int 0), (.int 0), (.int 0), (.int 0), (.int 0), (.int 0), (.int 0), (.int 0), (.int 0), (.int 0), (.int 0), (.int 0), (.int 0)]), (.lst []), (.int 0)])), (some (.lst [.non, (.int 5), (.dic [] []), (.tup []), (.tup [(.int 2), (.lst [(.int 0), (.int 0), (.int 0), (.int 0), (.int 0), (.int 0), (.int 0), (.int 0)]), (.lst [(.int 0), (.int 0), (.int 0), (.int 0), (.int 0), (.int 0), (.int 0), (.int 0), (.int 0), (.int 0), (.int 0), (.int 0), (.int 0), (.int 0), (.int 0), (.int 0), (.int 0), (.int 0), (.int 0), (.int 0), (.int 0), (.int 0), (.int 0), (.int 0), (.int 0), (.int 0), (.int 0), (.int 0), (.int 0), (.int 0), (.int 0), (.int 0)]), (.lst [])]), (.tup [(.int 3), (.lst [(.int 0), (.int 0), (.int 0), (.int 0), (.int 0), (.int 0), (.int 0), (.int 0)]), (.lst [(.int 0), (.int 0), (.int 0), (.int 0), (.int 0), (.int 0), (.int 0), (.int 0), (.int 0), (.int 0), (.int 0), (.int 0), (.int 0), (.int 0), (.int 0), (.int 0), (.int 0), (.int 0), (.int 0), (.int 0), (.int 0), (.int 0), (.int 0), (.int 0), (.int 0), (.int 0), (.int 0), (.int 0), (.int 0), (.int 0), (.int 0), (.int 0)]), (.lst []), (.int 0)]), (.tup [(.int 2), (.lst [(.int 0), (.int 0), (.int 0), (.int 0), (.int 0), (.int 0), (.int 0)]), (.lst [(.int 0), (.int 0), (.int 0), (.int 0), (.int 0), (.int 0), (.int 0), (.int 0), (.int 0), (.int 0), (.int 0), (.int 0), (.int 0), (.int 0), (.int 0), (.int 0), (.int 0), (.int 0), (.int 0), (.int 0), (.int 0), (.int 0), (.int 0), (.int 0), (.int 0), (.int 0), (.int 0), (.int 0), (.int 0), (.int 0), (.int 0), (.int 0)]), (.lst []), (.int 0)]), (.tup [(.int 2), (.lst [(.int 0), (.int 0), (.int 0), (.int 0), (.int 0), (.int 0), (.int 0), (.int 0)]), (.lst [(.int 0), (.int 0), (.int 0), (.int 0), (.int 0), (.int 0), (.int 0), (.int 0), (.int 0), (.int 0), (.int 0), (.int 0), (.int 0), (.int 0), (.int 0), (.int 0), (.int 0), (.int 0), (.int 0), (.int 0), (.int 0), (.int 0), (.int 0), (.int 0), (.int 0), (.int 0), (.int 0), (.int 0), (.int 0), (.int 0), (.int 0), (.int 0), (.int 0)]), (.lst []), (.int 0)]), (.tup [(.int 2), (.lst [(.int 0), (.int 0), (.int 0), (.int 0), (.int 0), (.int 0), (.int 0), (.int 0)]), (.lst [(.int 0), (.int 0), (.int 0), (.int 0), (.int 0), (.int 0), (.int 0), (.int 0), (.int 0), (.int 0), (.int 0), (.int 0), (.int 0), (.int 0), (.int 0), (.int 0), (.int 0), (.int 0), (.int 0), (.int 0), (.int 0), (.int 0), (.int 0), (.int 0), (.int 0), (.int 0), (.int 0), (.int 0), (.int 0), (.int 0), (.int 0), (.int 0)]), (.lst [(.int 256)]), (.int 0)]), (.tup [(.int 2), (.lst [(.int 0), (.int 0), (.int 0), (.int 0), (.int 0), (.int 0), (.int 0), (.int 0)]), (.lst [(.int 0), (.int 0), (.int 0), (.int 0), (.int 0), (.int 0), (.int 0), (.int 0), (.int 0), (.int 0), (.int 0), (.int 0), (.int 0), (.int 0), (.int 0), (.int 0), (.int 0), (.int 0), (.int 0), (.int 0), (.int 0), (.int 0), (.int 0), (.int 0), (.int 0), (.int 0), (.int 0), (.int 0), (.int 0), (.int 0), (.int 0), (.int 0)]), (.lst []), (.int (-1))]), (.tup [(.int 2), (.lst [(.int 0), (.int 0), (.int 0), (.int 0), (.int 0), (.int 0), (.int 0), (.int 0)]), (.lst [(.int 0), (.int 0), (.int 0), (.int 0), (.int 0), (.int 0), (.int 0), (.int 0), (.int 0), (.int 0), (.int 0), (.int 0), (.int 0), (.int 0), (.int 0), (.int 0), (.int 0), (.int 0), (.int 0), (.int 0), (.int 0), (.int 0), (.int 0), (.int 0), (.int 0), (.int 0), (.int 0), (.int 0), (.int 0), (.int 0), (.int 0), (.int 0)]), (.lst []), (.bl true)]), (.tup [(.int 2), (.lst [(.int 0), (.int 0), (.int 0), (.int 0), (.int 0), (.int 0), (.int 0), (.int 0)]), (.lst [(.int 0), (.int 0), (.int 0), (.int 0), (.int 0), (.int 0), (.int 0), (.int 0), (.int 0), (.int 0), (.int 0), (.int 0), (.int 0), (.int 0), (.int 0), (.int 0), (.int 0), (.int 0), (.int 0), (.int 0), (.int 0), (.int 0), (.int 0), (.int 0), (.int 0), (.int 0), (.int 0), (.int 0), (.int 0), (.int 0), (.int 0), (.int 0)]), (.lst []), (.int 0), (.int 0)])])), none], [none, none, none, none, none, (some 0)], 0⟩) ⟨[.dead, .dead, (.lst [(.fn 2), (.clo 0 []), (.clo 1 []), (.clo 2 []), (.clo 3 []), (.clo 4 []), (.clo 5 []), (.clo 6 [])]), (.lst [(.clo 7 [0]), (.clo 8 [0]), (.clo 9 [0]), (.clo 10 [0]), (.clo 11 [0])])], [(some (someV 6))]⟩ := by kernel_rfl
theorem p2_7 : (ev P 120).s ⟨[none, (some (.ref 1)), (some (.ref 3)), none, none, none], [none, none, none, none, none, (some 0)], 0⟩ seg2 ⟨[.dead, .dead, (.lst [(.fn 2), (.clo 0 []), (.clo 1 []), (.clo 2 []), (.clo 3 []), (.clo 4 []), (.clo 5 []), (.clo 6 [])]), (.lst [(.clo 7 [0]), (.clo 8 [0]), (.clo 9 [0]), (.clo 10 [0]), (.clo 11 [0])])], [(some (someV 7))]⟩ = .ok (.nxt, ⟨[none, (some (.ref 1)), (some (.ref 3)), (some (.tup [(.int 2), (.lst [(.int 0), (.int 0), (.int 0), (.int 0), (.int 0), (.int 0), (.int 0), (.int 0)]), (.lst [(.int 0), (.int 0), (.int 0), (.int 0), (.int 0), (.int 0), (.int 0), (.int 0), (.int 0), (.int 0), (.int 0), (.int 0), (.int 0), (.int 0), (.int 0), (.int 0), (.int 0), (.int 0), (.int 0), (.int 0), (.int 0), (.int 0), (.int 0), (.int 0), (.int 0), (.int 0), (.int 0), (.int 0), (.int 0), (.int 0), (.int 0), (.int 0)]), (.lst []), (.int 0)])), (some (.lst [.non, (.int 5), (.dic [] []), (.tup []), (.tup [(.int 2), (.lst [(.int 0), (.int 0), (.int 0), (.int 0), (.int 0), (.int 0), (.int 0), (.int 0)]), (.lst [(.int 0), (.int 0), (.int 0), (.int 0), (.int 0), (.int 0), (.int 0), (.int 0), (.int 0), (.int 0), (.int 0), (.int 0), (.int 0), (.int 0), (.int 0), (.int 0), (.int 0), (.int 0), (.int 0), (.int 0), (.int 0), (.int 0), (.int 0), (.int 0), (.int 0), (.int 0), (.int 0), (.int 0), (.int 0), (.int 0), (.int 0), (.int 0)]), (.lst [])]), (.tup [(.int 3), (.lst [(.int 0), (.int 0), (.int 0), (.int 0), (.int 0), (.int 0), (.int 0), (.int 0)]), (.lst [(.int 0), (.int 0), (.int 0), (.int 0), (.int 0), (.int 0), (.int 0), (.int 0), (.int 0), (.int 0), (.int 0), (.int 0), (.int 0), (.int 0), (.int 0), (.int 0), (.int 0), (.int 0), (.int 0), (.int 0), (.int 0), (.int 0), (.int 0), (.int 0), (.int 0), (.int 0), (.int 0), (.int 0), (.int 0), (.int 0), (.int 0), (.int 0)]), (.lst []), (.int 0)]), (.tup [(.int 2), (.lst [(.int 0), (.int 0), (.int 0), (.int 0), (.int 0), (.int 0), (.int 0)]), (.lst [(.int 0), (.int 0), (.int 0), (.int 0), (.int 0), (.int 0), (.int 0), (.int 0), (.int 0), (.int 0), (.int 0), (.int 0), (.int 0), (.int 0), (.int 0), (.int 0), (.int 0), (.int 0), (.int 0), (.int 0), (.int 0), (.int 0), (.int 0), (.int 0), (.int 0), (.int 0), (.int 0), (.int 0), (.int 0), (.int 0), (.int 0), (.int 0)]), (.lst []), (.int 0)]), (.tup [(.int 2), (.lst [(.int 0), (.int 0), (.int 0), (.int 0), (.int 0), (.int 0), (.int 0), (.int 0)]), (.lst [(.int 0), (.int 0), (.int 0), (.int 0), (.int 0), (.int 0), (.int 0), (.int 0), (.int 0), (.int 0), (.int 0), (.int 0), (.int 0), (.int 0), (.int 0), (.int 0), (.int 0), (.int 0), (.int 0), (.int 0), (.int 0), (.int 0), (.int 0), (.int 0), (.int 0), (.int 0), (.int 0), (.int 0), (.int 0), (.int 0), (.int 0), (.int 0), (.int 0)]), (.lst []), (.int 0)]), (.tup [(.int 2), (.lst [(.int 0), (.int 0), (.int 0), (.int 0), (.int 0), (.int 0), (.int 0), (.int 0)]), (.lst [(.int 0), (.int 0), (.int 0), (.int 0), (.int 0), (.int 0), (.int 0), (.int 0), (.int 0), (.int 0), (.int 0), (.int 0), (.int 0), (.int 0), (.int 0), (.int 0), (.int 0), (.int 0), (.int 0), (.int 0), (.int 0), (.int 0), (.int 0), (.int 0), (.int 0), (.int 0), (.int 0), (.int 0), (.int 0), (.int 0), (.int 0), (.int 0)]), (.lst [(.int 256)]), (.int 0)]), (.tup [(.int 2), (.lst [(.int 0), (.int 0), (.int 0), (.int 0), (.int 0), (.int 0), (.int 0), (.int 0)]), (.lst [(.int 0), (.int 0), (.int 0), (.int 0), (.int 0), (.int 0), (.int 0), (.int 0), (.int 0), (.int 0), (.int 0), (.int 0), (.int 0), (.int 0), (.int 0), (.int 0), (.int 0), (.int 0), (.int 0), (.int 0), (.int 0), (.int 0), (.int 0), (.int 0), (.int 0), (.int 0), (.int 0), (.int 0), (.int 0), (.int 0), (.int 0), (.int 0)]), (.lst []), (.int (-1))]), (.tup [(.int 2), (.lst [(.int 0), (.int 0), (.int 0), (.int 0), (.int 0), (.int 0), (.int 0), (.int 0)]), (.lst [(.int 0), (.int 0), (.int 0), (.int 0), (.int 0), (.int 0), (.int 0), (.int 0), (.int 0), (.int 0), (.int 0), (.int 0), (.int 0), (.int 0), (.int 0), (.int 0), (.int 0), (.int 0), (.int 0), (.int 0), (.int 0), (.int 0), (.int 0), (.int 0), (.int 0), (.int 0), (.int 0), (.int 0), (.int 0), (.int 0), (.int 0), (.int 0)]), (.lst []), (.bl true)]), (.tup [(.int 2), (.lst [(.int 0), (.int 0), (.int 0), (.int 0), (.int 0), (.int 0), (.int 0), (.int 0)]), (.lst [(.int 0), (.int 0), (.int 0), (.int 0), (.int 0), (.int 0), (.int 0), (.int 0), (.int 0), (.int 0), (.int 0), (.int 0), (.int 0), (.int 0), (.int 0), (.int 0), (.int 0), (.int 0), (.int 0), (.int 0), (.int 0), (.int 0), (.int 0), (.int 0), (.int 0), (.int 0), (.int 0), (.int 0), (.int 0), (.int 0), (.int 0), (.int 0)]), (.lst []), (.int 0), (.int 0)])])), none], [none, none, none, none, none, (some 0)], 0⟩) ⟨[.dead, .dead, (.lst [(.fn 2), (.clo 0 []), (.clo 1 []), (.clo 2 []), (.clo 3 []), (.clo 4 []), (.clo 5 []), (.clo 6 [])]), (.lst [(.clo 7 [0]), (.clo 8 [0]), (.clo 9 [0]), (.clo 10 [0]), (.clo 11 [0])])], [(some (someV 7))]⟩ := by kernel_rfl
theorem p3_0 : (ev P 120).s ⟨[none, (some (.ref 1)), (some (.ref 3)), (some (.tup [(.int 2), (.lst [(.int 0), (.int 0), (.int 0), (.int 0), (.int 0), (.int 0), (.int 0), (.int 0)]), (.lst [(.int 0), (.int 0), (.int 0), (.int 0), (.int 0), (.int 0), (.int 0), (.int 0), (.int 0), (.int 0), (.int 0), (.int 0), (.int 0), (.int 0), (.int 0), (.int 0), (.int 0), (.int 0), (.int 0), (.int 0), (.int 0), (.int 0), (.int 0), (.int 0), (.int 0), (.int 0), (.int 0), (.int 0), (.int 0), (.int 0), (.int 0), (.int 0)]), (.lst []), (.int 0)])), (some (.lst [.non, (.int 5), (.dic [] []), (.tup []), (.tup [(.int 2), (.lst [(.int 0), (.int 0), (.int 0), (.int 0), (.int 0), (.int 0), (.int 0), (.int 0)]), (.lst [(.int 0), (.int 0), (.int 0), (.int 0), (.int 0), (.int 0), (.int 0), (.int 0), (.int 0), (.int 0), (.int 0), (.int 0), (.int 0), (.int 0), (.int 0), (.int 0), (.int 0), (.int 0), (.int 0), (.int 0), (.int 0), (.int 0), (.int 0), (.int 0), (.int 0), (.int 0), (.int 0), (.int 0), (.int 0), (.int 0), (.int 0), (.int 0)]), (.lst [])]), (.tup [(.int 3), (.lst [(.int 0), (.int 0), (.int 0), (.int 0), (.int 0), (.int 0), (.int 0), (.int 0)]), (.lst [(.int 0), (.int 0), (.int 0), (.int 0), (.int 0), (.int 0), (.int 0), (.int 0), (.int 0), (.int 0), (.int 0), (.int 0), (.int 0), (.int 0), (.int 0), (.int 0), (.int 0), (.int 0), (.int 0), (.int 0), (.int 0), (.int 0), (.int 0), (.int 0), (.int 0), (.int 0), (.int 0), (.int 0), (.int 0), (.int 0), (.int 0), (.int 0)]), (.lst []), (.int 0)]), (.tup [(.int 2), (.lst [(.int 0), (.int 0), (.int 0), (.int 0), (.int 0), (.int 0), (.int 0)]), (.lst [(.int 0), (.int 0), (.int 0), (.int 0), (.int 0), (.int 0), (.int 0), (.int 0), (.int 0), (.int 0), (.int 0), (.int 0), (.int 0), (.int 0), (.int 0), (.int 0), (.int 0), (.int 0), (.int 0), (.int 0), (.int 0), (.int 0), (.int 0), (.int 0), (.int 0), (.int 0), (.int 0), (.int 0), (.int 0), (.int 0), (.int 0), (.int 0)]), (.lst []), (.int 0)]), (.tup [(.int 2), (.lst [(.int 0), (.int 0), (.int 0), (.int 0), (.int 0), (.int 0), (.int 0), (.int 0)]), (.lst [(.int 0), (.int 0), (.int 0), (.int 0), (.int 0), (.int 0), (.int 0), (.int 0), (.int 0), (.int 0), (.int 0), (.int 0), (.int 0), (.int 0), (.int 0), (.int 0), (.int 0), (.int 0), (.int 0), (.int 0), (.int 0), (.int 0), (.int 0), (.int 0), (.int 0), (.int 0), (.int 0), (.int 0), (.int 0), (.int 0), (.int 0), (.int 0), (.int 0)]), (.lst []), (.int 0)]), (.tup [(.int 2), (.lst [(.int 0), (.int 0), (.int 0), (.int 0), (.int 0), (.int 0), (.int 0), (.int 0)]), (.lst [(.int 0), (.int 0), (.int 0), (.int 0), (.int 0), (.int 0), (.int 0), (.int 0), (.int 0), (.int 0), (.int 0), (.int 0), (.int 0), (.int 0), (.int 0), (.int 0), (.int 0), (.int 0), (.int 0), (.int 0), (.int 0), (.int 0), (.int 0), (.int 0), (.int 0), (.int 0), (.int 0), (.int 0), (.int 0), (.int 0), (.int 0), (.int 0)]), (.lst [(.int 256)]), (.int 0)]), (.tup [(.int 2), (.lst [(.int 0), (.int 0), (.int 0), (.int 0), (.int 0), (.int 0), (.int 0), (.int 0)]), (.lst [(.int 0), (.int 0), (.int 0), (.int 0), (.int 0), (.int 0), (.int 0), (.int 0), (.int 0), (.int 0), (.int 0), (.int 0), (.int 0), (.int 0), (.int 0), (.int 0), (.int 0), (.int 0), (.int 0), (.int 0), (.int 0), (.int 0), (.int 0), (.int 0), (.int 0), (.int 0), (.int 0), (.int 0), (.int 0), (.int 0), (.int 0), (.int 0)]), (.lst []), (.int (-1))]), (.tup [(.int 2), (.lst [(.int 0), (.int 0), (.int 0), (.int 0), (.int 0), (.int 0), (.int 0), (.int 0)]), (.lst [(.int 0), (.int 0), (.int 0), (.int 0), (.int 0), (.int 0), (.int 0), (.int 0), (.int 0), (.int 0), (.int 0), (.int 0), (.int 0), (.int 0), (.int 0), (.int 0), (.int 0), (.int 0), (.int 0), (.int 0), (.int 0), (.int 0), (.int 0), (.int 0), (.int 0), (.int 0), (.int 0), (.int 0), (.int 0), (.int 0), (.int 0), (.int 0)]), (.lst []), (.bl true)]), (.tup [(.int 2), (.lst [(.int 0), (.int 0), (.int 0), (.int 0), (.int 0), (.int 0), (.int 0), (.int 0)]), (.lst [(.int 0), (.int 0), (.int 0), (.int 0), (.int 0), (.int 0), (.int 0), (.int 0), (.int 0), (.int 0), (.int 0), (.int 0), (.int 0), (.int 0), (.int 0), (.int 0), (.int 0), (.int 0), (.int 0), (.int 0), (.int 0), (.int 0), (.int 0), (.int 0), (.int 0), (.int 0), (.int 0), (.int 0), (.int 0), (.int 0), (.int 0), (.int 0)]), (.lst []), (.int 0), (.int 0)])])), none], [none, none, none, none, none, (some 0)], 0⟩ seg3 ⟨[.dead, .dead, (.lst [(.fn 2), (.clo 0 []), (.clo 1 []), (.clo 2 []), (.clo 3 []), (.clo 4 []), (.clo 5 []), (.clo 6 [])]), (.lst [(.clo 7 [0]), (.clo 8 [0]), (.clo 9 [0]), (.clo 10 [0]), (.clo 11 [0])])], [(some (someV 0))]⟩ = .ok (.nxt, ⟨[none, (some (.ref 1)), (some (.ref 4)), (some (.tup [(.int 2), (.lst [(.int 0), (.int 0), (.int 0), (.int 0), (.int 0), (.int 0), (.int 0), (.int 0)]), (.lst [(.int 0), (.int 0), (.int 0), (.int 0), (.int 0), (.int 0), (.int 0), (.int 0), (.int 0), (.int 0), (.int 0), (.int 0), (.int 0), (.int 0), (.int 0), (.int 0), (.int 0), (.int 0), (.int 0), (.int 0), (.int 0), (.int 0), (.int 0), (.int 0), (.int 0), (.int 0), (.int 0), (.int 0), (.int 0), (.int 0), (.int 0), (.int 0)]), (.lst []), (.int 0)])), (some (.lst [.non, (.int 5), (.dic [] []), (.tup []), (.tup [(.int 2), (.lst [(.int 0), (.int 0), (.int 0), (.int 0), (.int 0), (.int 0), (.int 0), (.int 0)]), (.lst [(.int 0), (.int 0), (.int 0), (.int 0), (.int 0), (.int 0), (.int 0), (.int 0), (.int 0), (.int 0), (.int 0), (.int 0), (.int 0), (.int 0), (.int 0), (.int 0), (.int 0), (.int 0), (.int 0), (.int 0), (.int 0), (.int 0), (.int 0), (.int 0), (.int 0), (.int 0), (.int 0), (.int 0), (.int 0), (.int 0), (.int 0), (.int 0)]), (.lst [])]), (.tup [(.int 3), (.lst [(.int 0), (.int 0), (.int 0), (.int 0), (.int 0), (.int 0), (.int 0), (.int 0)]), (.lst [(.int 0), (.int 0), (.int 0), (.int 0), (.int 0), (.int 0), (.int 0), (.int 0), (.int 0), (.int 0), (.int 0), (.int 0), (.int 0), (.int 0), (.int 0), (.int 0), (.int 0), (.int 0), (.int 0), (.int 0), (.int 0), (.int 0), (.int 0), (.int 0), (.int 0), (.int 0), (.int 0), (.int 0), (.int 0), (.int 0), (.int 0), (.int 0)]), (.lst []), (.int 0)]), (.tup [(.int 2), (.lst [(.int 0), (.int 0), (.int 0), (.int 0), (.int 0), (.int 0), (.int 0)]), (.lst [(.int 0), (.int 0), (.int 0), (.int 0), (.int 0), (.int 0), (.int 0), (.int 0), (.int 0), (.int 0), (.int 0), (.int 0), (.int 0), (.int 0), (.int 0), (.int 0), (.int 0), (.int 0), (.int 0), (.int 0), (.int 0), (.int 0), (.int 0), (.int 0), (.int 0), (.int 0), (.int 0), (.int 0), (.int 0), (.int 0), (.int 0), (.int 0)]), (.lst []), (.int 0)]), (.tup [(.int 2), (.lst [(.int 0), (.int 0), (.int 0), (.int 0), (.int 0), (.int 0), (.int 0), (.int 0)]), (.lst [(.int 0), (.int 0), (.int 0), (.int 0), (.int 0), (.int 0), (.int 0), (.int 0), (.int 0), (.int 0), (.int 0), (.int 0), (.int 0), (.int 0), (.int 0), (.int 0), (.int 0), (.int 0), (.int 0), (.int 0), (.int 0), (.int 0), (.int 0), (.int 0), (.int 0), (.int 0), (.int 0), (.int 0), (.int 0), (.int 0), (.int 0), (.int 0), (.int 0)]), (.lst []), (.int 0)]), (.tup [(.int 2), (.lst [(.int 0), (.int 0), (.int 0), (.int 0), (.int 0), (.int 0), (.int 0), (.int 0)]), (.lst [(.int 0), (.int 0), (.int 0), (.int 0), (.int 0), (.int 0), (.int 0), (.int 0), (.int 0), (.int 0), (.int 0), (.int 0), (.int 0), (.int 0), (.int 0), (.int 0), (.int 0), (.int 0), (.int 0), (.int 0), (.int 0), (.int 0), (.int 0), (.int 0), (.int 0), (.int 0), (.int 0), (.int 0), (.int 0), (.int 0), (.int 0), (.int 0)]), (.lst [(.int 256)]), (.int 0)]), (.tup [(.int 2), (.lst [(.int 0), (.int 0), (.int 0), (.int 0), (.int 0), (.int 0), (.int 0), (.int 0)]), (.lst [(.int 0), (.int 0), (.int 0), (.int 0), (.int 0), (.int 0), (.int 0), (.int 0), (.int 0), (.int 0), (.int 0), (.int 0), (.int 0), (.int 0), (.int 0), (.int 0), (.int 0), (.int 0), (.int 0), (.int 0), (.int 0), (.int 0), (.int 0), (.int 0), (.int 0), (.int 0), (.int 0), (.int 0), (.int 0), (.int 0), (.int 0), (.int 0)]), (.lst []), (.int (-1))]), (.tup [(.int 2), (.lst [(.int 0), (.int 0), (.int 0), (.int 0), (.int 0), (.int 0), (.int 0), (.int 0)]), (.lst [(.int 0), (.int 0), (.int 0), (.int 0), (.int 0), (.int 0), (.int 0), (.int 0), (.int 0), (.int 0), (.int 0), (.int 0), (.int 0), (.int 0), (.int 0), (.int 0), (.int 0), (.int 0), (.int 0), (.int 0), (.int 0), (.int 0), (.int 0), (.int 0), (.int 0), (.int 0), (.int 0), (.int 0), (.int 0), (.int 0), (.int 0), (.int 0)]), (.lst []), (.bl true)]), (.tup [(.int 2), (.lst [(.int 0), (.int 0), (.int 0), (.int 0), (.int 0), (.int 0), (.int 0), (.int 0)]), (.lst [(.int 0), (.int 0), (.int 0), (.int 0), (.int 0), (.int 0), (.int 0), (.int 0), (.int 0), (.int 0), (.int 0), (.int 0), (.int 0), (.int 0), (.int 0), (.int 0), (.int 0), (.int 0), (.int 0), (.int 0), (.int 0), (.int 0), (.int 0), (.int 0), (.int 0), (.int 0), (.int 0), (.int 0), (.int 0), (.int 0), (.int 0), (.int 0)]), (.lst []), (.int 0), (.int 0)])])), none], [none, none, none, none, none, (some 0)], 0⟩) ⟨[.dead, .dead, (.lst [(.fn 2), (.clo 0 []), (.clo 1 []), (.clo 2 []), (.clo 3 []), (.clo 4 []), (.clo 5 []), (.clo 6 [])]), (.lst [(.clo 7 [0]), (.clo 8 [0]), (.clo 9 [0]), (.clo 10 [0]), (.clo 11 [0])]), (.lst [(.clo 13 [0]), (.clo 14 [0]), (.clo 15 [0])])], [(some (someV 0))]⟩ := by kernel_rfl
theorem p3_1 : (ev P 120).s ⟨[none, (some (.ref 1)), (some (.ref 3)), (some (.tup [(.int 2), (.lst [(.int 0), (.int 0), (.int 0), (.int 0), (.int 0), (.int 0), (.int 0), (.int 0)]), (.lst [(.int 0), (.int 0), (.int 0), (.int 0), (.int 0), (.int 0), (.int 0), (.int 0), (.int 0), (.int 0), (.int 0), (.int 0), (.int 0), (.int 0), (.int 0), (.int 0), (.int 0), (.int 0), (.int 0), (.int 0), (.int 0), (.int 0), (.int 0), (.int 0), (.int 0), (.int 0), (.int 0), (.int 0), (.int 0), (.int 0), (.int 0), (.int 0)]), (.lst []), (.int 0)])), (some (.lst [.non, (.int 5), (.dic [] []), (.tup []), (.tup [(.int 2), (.lst [(.int 0), (.int 0), (.int 0), (.int 0), (.int 0), (.int 0), (.int 0), (.int 0)]), (.lst [(.int 0), (.int 0), (.int 0), (.int 0), (.int 0), (.int 0), (.int 0), (.int 0), (.int 0), (.int 0), (.int 0), (.int 0), (.int 0), (.int 0), (.int 0), (.int 0), (.int 0), (.int 0), (.int 0), (.int 0), (.int 0), (.int 0), (.int 0), (.int 0), (.int 0), (.int 0), (.int 0), (.int 0), (.int 0), (.int 0), (.int 0), (.int 0)]), (.lst [])]), (.tup [(.int 3), (.lst [(.int 0), (.int 0), (.int 0), (.int 0), (.int 0), (.int 0), (.int 0), (.int 0)]), (.lst [(.int 0), (.int 0), (.int 0), (.int 0), (.int 0), (.int 0), (.int 0), (.int 0), (.int 0), (.int 0), (.int 0), (.int 0), (.int 0), (.int 0), (.int 0), (.int 0), (.int 0), (.int 0), (.int 0), (.int 0), (.int 0), (.int 0), (.int 0), (.int 0), (.int 0), (.int 0), (.int 0), (.int 0), (.int 0), (.int 0), (.int 0), (.int 0)]), (.lst []), (.int 0)]), (.tup [(.int 2), (.lst [(.int 0), (.int 0), (.int 0), (.int 0), (.int 0), (.int 0), (.int 0)]), (.lst [(.int 0), (.int 0), (.int 0), (.int 0), (.int 0), (.int 0), (.int 0), (.int 0), (.int 0), (.int 0), (.int 0), (.int 0), (.int 0), (.int 0), (.int 0), (.int 0), (.int 0), (.int 0), (.int 0), (.int 0), (.int 0), (.int 0), (.int 0), (.int 0), (.int 0), (.int 0), (.int 0), (.int 0), (.int 0), (.int 0), (.int 0), (.int 0)]), (.lst []), (.int 0)]), (.tup [(.int 2), (.lst [(.int 0), (.int 0), (.int 0), (.int 0), (.int 0), (.int 0), (.int 0), (.int 0)]), (.lst [(.int 0), (.int 0), (.int 0), (.int 0), (.int 0), (.int 0), (.int 0), (.int 0), (.int 0), (.int 0), (.int 0), (.int 0), (.int 0), (.int 0), (.int 0), (.int 0), (.int 0), (.int 0), (.int 0), (.int 0), (.int 0), (.int 0), (.int 0), (.int 0), (.int 0), (.int 0), (.int 0), (.int 0), (.int 0), (.int 0), (.int 0), (.int 0), (.int 0)]), (.lst []), (.int 0)]), (.tup [(.int 2), (.lst [(.int 0), (.int 0), (.int 0), (.int 0), (.int 0), (.int 0), (.int 0), (.int 0)]), (.lst [(.int 0), (.int 0), (.int 0), (.int 0), (.int 0), (.int 0), (.int 0), (.int 0), (.int 0), (.int 0), (.int 0), (.int 0), (.int 0), (.int 0), (.int 0), (.int 0), (.int 0), (.int 0), (.int 0), (.int 0), (.int 0), (.int 0), (.int 0), (.int 0), (.int 0), (.int 0), (.int 0), (.int 0), (.int 0), (.int 0), (.int 0), (.int 0)]), (.lst [(.int 256)]), (.int 0)]), (.tup [(.int 2), (.lst [(.int 0), (.int 0), (.int 0), (.int 0), (.int 0), (.int 0), (.int 0), (.int 0)]), (.lst [(.int 0), (.int 0), (.int 0), (.int 0), (.int 0), (.int 0), (.int 0), (.int 0), (.int 0), (.int 0), (.int 0), (.int 0), (.int 0), (.int 0), (.int 0), (.int 0), (.int 0), (.int 0), (.int 0), (.int 0), (.int 0), (.int 0), (.int 0), (.int 0), (.int 0), (.int 0), (.int 0), (.int 0), (.int 0), (.int 0), (.int 0), (.int 0)]), (.lst []), (.int (-1))]), (.tup [(.int 2), (.lst [(.int 0), (.int 0), (.int 0), (.int 0), (.int 0), (.int 0), (.int 0), (.int 0)]), (.lst [(.int 0), (.int 0), (.int 0), (.int 0), (.int 0), (.int 0), (.int 0), (.int 0), (.int 0), (.int 0), (.int 0), (.int 0), (.int 0), (.int 0), (.int 0), (.int 0), (.int 0), (.int 0), (.int 0), (.int 0), (.int 0), (.int 0), (.int 0), (.int 0), (.int 0), (.int 0), (.int 0), (.int 0), (.int 0), (.int 0), (.int 0), (.int 0)]), (.lst []), (.bl true)]), (.tup [(.int 2), (.lst [(.int 0), (.int 0), (.int 0), (.int 0), (.int 0), (.int 0), (.int 0), (.int 0)]), (.lst [(.int 0), (.int 0), (.int 0), (.int 0), (.int 0), (.int 0), (.int 0), (.int 0), (.int 0), (.int 0), (.int 0), (.int 0), (.int 0), (.int 0), (.int 0), (.int 0), (.int 0), (.int 0), (.int 0), (.int 0), (.int 0), (.int 0), (.int 0), (.int 0), (.int 0), (.int 0), (.int 0), (.int 0), (.int 0), (.int 0), (.int 0), (.int 0)]), (.lst []), (.int 0), (.int 0)])])), none], [none, none, none, none, none, (some 0)], 0⟩ seg3 ⟨[.dead, .dead, (.lst [(.fn 2), (.clo 0 []), (.clo 1 []), (.clo 2 []), (.clo 3 []), (.clo 4 []), (.clo 5 []), (.clo 6 [])]), (.lst [(.clo 7 [0]), (.clo 8 [0]), (.clo 9 [0]), (.clo 10 [0]), (.clo 11 [0])])], [(some (someV 1))]⟩ = .ok (.nxt, ⟨[none, (some (.ref 1)), (some (.ref 4)), (some (.tup [(.int 2), (.lst [(.int 0), (.int 0), (.int 0), (.int 0), (.int 0), (.int 0), (.int 0), (.int 0)]), (.lst [(.int 0), (.int 0), (.int 0), (.int 0), (.int 0), (.int 0), (.int 0), (.int 0), (.int 0), (.int 0), (.int 0), (.int 0), (.int 0), (.int 0), (.int 0), (.int 0), (.int 0), (.int 0), (.int 0), (.int 0), (.int 0), (.int 0), (.int 0), (.int 0), (.int 0), (.int 0), (.int 0), (.int 0), (.int 0), (.int 0), (.int 0), (.int 0)]), (.lst []), (.int 0)])), (some (.lst [.non, (.int 5), (.dic [] []), (.tup []), (.tup [(.int 2), (.lst [(.int 0), (.int 0), (.int 0), (.int 0), (.int 0), (.int 0), (.int 0), (.int 0)]), (.lst [(.int 0), (.int 0), (.int 0), (.int 0), (.int 0), (.int 0), (.int 0), (.int 0), (.int 0), (.int 0), (.int 0), (.int 0), (.int 0), (.int 0), (.int 0), (.int 0), (.int 0), (.int 0), (.int 0), (.int 0), (.int 0), (.int 0), (.int 0), (.int 0), (.int 0), (.int 0), (.int 0), (.int 0), (.int 0), (.int 0), (.int 0), (.int 0)]), (.lst [])]), (.tup [(.int 3), (.lst [(.int 0), (.int 0), (.int 0), (.int 0), (.int 0), (.int 0), (.int 0), (.int 0)]), (.lst [(.int 0), (.int 0), (.int 0), (.int 0), (.int 0), (.int 0), (.int 0), (.int 0), (.int 0), (.int 0), (.int 0), (.int 0), (.int 0), (.int 0), (.int 0), (.int 0), (.int 0), (.int 0), (.int 0), (.int 0), (.int 0), (.int 0), (.int 0), (.int 0), (.int 0), (.int 0), (.int 0), (.int 0), (.int 0), (.int 0), (.int 0), (.int 0)]), (.lst []), (.int 0)]), (.tup [(.int 2), (.lst [(.int 0), (.int 0), (.int 0), (.int 0), (.int 0), (.int 0), (.int 0)]), (.lst [(.int 0), (.int 0), (.int 0), (.int 0), (.int 0), (.int 0), (.int 0), (.int 0), (.int 0), (.int 0), (.int 0), (.int 0), (.int 0), (.int 0), (.int 0), (.int 0), (.int 0), (.int 0), (.int 0), (.int 0), (.int 0), (.int 0), (.int 0), (.int 0), (.int 0), (.int 0), (.int 0), (.int 0), (.int 0), (.int 0), (.int 0), (.int 0)]), (.lst []), (.int 0)]), (.tup [(.int 2), (.lst [(.int 0), (.int 0), (.int 0), (.int 0), (.int 0), (.int 0), (.int 0), (.int 0)]), (.lst [(.int 0), (.int 0), (.int 0), (.int 0), (.int 0), (.int 0), (.int 0), (.int 0), (.int 0), (.int 0), (.int 0), (.int 0), (.int 0), (.int 0), (.int 0), (.int 0), (.int 0), (.int 0), (.int 0), (.int 0), (.int 0), (.int 0), (.int 0), (.int 0), (.int 0), (.int 0), (.int 0), (.int 0), (.int 0), (.int 0), (.int 0), (.int 0), (.int 0)]), (.lst []), (.int 0)]), (.tup [(.int 2), (.lst [(.int 0), (.int 0), (.int 0), (.int 0), (.int 0), (.int 0), (.int 0), (.int 0)]), (.lst [(.int 0), (.int 0), (.int 0), (.int 0), (.int 0), (.int 0), (.int 0), (.int 0), (.int 0), (.int 0), (.int 0), (.int 0), (.int 0), (.int 0), (.int 0), (.int 0), (.int 0), (.int 0), (.int 0), (.int 0), (.int 0), (.int 0), (.int 0), (.int 0), (.int 0), (.int 0), (.int 0), (.int 0), (.int 0), (.int 0), (.int 0), (.int 0)]), (.lst [(.int 256)]), (.int 0)]), (.tup [(.int 2), (.lst [(.int 0), (.int 0), (.int 0), (.int 0), (.int 0), (.int 0), (.int 0), (.int 0)]), (.lst [(.int 0), (.int 0), (.int 0), (.int 0), (.int 0), (.int 0), (.int 0), (.int 0), (.int 0), (.int 0), (.int 0), (.int 0), (.int 0), (.int 0), (.int 0), (.int 0), (.int 0), (.int 0), (.int 0), (.int 0), (.int 0), (.int 0), (.int 0), (.int 0), (.int 0), (.int 0), (.int 0), (.int 0), (.int 0), (.int 0), (.int 0), (.int 0)]), (.lst []), (.int (-1))]), (.tup [(.int 2), (.lst [(.int 0), (.int 0), (.int 0), (.int 0), (.int 0), (.int 0), (.int 0), (.int 0)]), (.lst [(.int 0), (.int 0), (.int 0), (.int 0), (.int 0), (.int 0), (.int 0), (.int 0), (.int 0), (.int 0), (.int 0), (.int 0), (.int 0), (.int 0), (.int 0), (.int 0), (.int 0), (.int 0), (.int 0), (.int 0), (.int 0), (.int 0), (.int 0), (.int 0), (.int 0), (.int 0), (.int 0), (.int 0), (.int 0), (.int 0), (.int 0), (.int 0)]), (.lst []), (.bl true)]), (.tup [(.int 2), (.lst [(.int 0), (.int 0), (.int 0), (.int 0), (.int 0), (.int 0), (.int 0), (.int 0)]), (.lst [(.int 0), (.int 0), (.int 0), (.int 0), (.int 0), (.int 0), (.int 0), (.int 0), (.int 0), (.int 0), (.int 0), (.int 0), (.int 0), (.int 0), (.int 0), (.int 0), (.int 0), (.int 0), (.int 0), (.int 0), (.int 0), (.int 0), (.int 0), (.int 0), (.int 0), (.int 0), (.int 0), (.int 0), (.int 0), (.int 0), (.int 0), (.int 0)]), (.lst []), (.int 0), (.int 0)])])), none], [none, none, none, none, none, (some 0)], 0⟩) ⟨[.dead, .dead, (.lst [(.fn 2), (.clo 0 []), (.clo 1 []), (.clo 2 []), (.clo 3 []), (.clo 4 []), (.clo 5 []), (.clo 6 [])]), (.lst [(.clo 7 [0]), (.clo 8 [0]), (.clo 9 [0]), (.clo 10 [0]), (.clo 11 [0])]), (.lst [(.clo 13 [0]), (.clo 14 [0]), (.clo 15 [0])])], [(some (someV 1))]⟩ := by kernel_rfl
theorem p3_2 : (ev P 120).s ⟨[none, (some (.ref 1)), (some (.ref 3)), (some (.tup [(.int 2), (.lst [(.int 0), (.int 0), (.int 0), (.int 0), (.int 0), (.int 0), (.int 0), (.int 0)]), (.lst [(.int 0), (.int 0), (.int 0), (.int 0), (.int 0), (.int 0), (.int 0), (.int 0), (.int 0), (.int 0), (.int 0), (.int 0), (.int 0), (.int 0), (.int 0), (.int 0), (.int 0), (.int 0), (.int 0), (.int 0), (.int 0), (.int 0), (.int 0), (.int 0), (.int 0), (.int 0), (.int 0), (.int 0), (.int 0), (.int 0), (.int 0), (.int 0)]), (.lst []), (.int 0)])), (some (.lst [.non, (.int 5), (.dic [] []), (.tup []), (.tup [(.int 2), (.lst [(.int 0), (.int 0), (.int 0), (.int 0), (.int 0), (.int 0), (.int 0), (.int 0)]), (.lst [(.int 0), (.int 0), (.int 0), (.int 0), (.int 0), (.int 0), (.int 0), (.int 0), (.int 0), (.int 0), (.int 0), (.int 0), (.int 0), (.int 0), (.int 0), (.int 0), (.int 0), (.int 0), (.int 0), (.int 0), (.int 0), (.int 0), (.int 0), (.int 0), (.int 0), (.int 0), (.int 0), (.int 0), (.int 0), (.int 0), (.int 0), (.int 0)]), (.lst [])]), (.tup [(.int 3), (.lst [(.int 0), (.int 0), (.int 0), (.int 0), (.int 0), (.int 0), (.int 0), (.int 0)]), (.lst [(.int 0), (.int 0), (.int 0), (.int 0), (.int 0), (.int 0), (.int 0), (.int 0), (.int 0), (.int 0), (.int 0), (.int 0), (.int 0), (.int 0), (.int 0), (.int 0), (.int 0), (.int 0), (.int 0), (.int 0), (.int 0), (.int 0), (.int 0), (.int 0), (.int 0), (.int 0), (.int 0), (.int 0), (.int 0), (.int 0), (.int 0), (.int 0)]), (.lst []), (.int 0)]), (.tup [(.int 2), (.lst [(.int 0), (.int 0), (.int 0), (.int 0), (.int 0), (.int 0), (.int 0)]), (.lst [(.int 0), (.int 0), (.int 0), (.int 0), (.int 0), (.int 0), (.int 0), (.int 0), (.int 0), (.int 0), (.int 0), (.int 0), (.int 0), (.int 0), (.int 0), (.int 0), (.int 0), (.int 0), (.int 0), (.int 0), (.int 0), (.int 0), (.int 0), (.int 0), (.int 0), (.int 0), (.int 0), (.int 0), (.int 0), (.int 0), (.int 0), (.int 0)]), (.lst []), (.int 0)]), (.tup [(.int 2), (.lst [(.int 0), (.int 0), (.int 0), (.int 0), (.int 0), (.int 0), (.int 0), (.int 0)]), (.lst [(.int 0), (.int 0), (.int 0), (.int 0), (.int 0), (.int 0), (.int 0), (.int 0), (.int 0), (.int 0), (.int 0), (.int 0), (.int 0), (.int 0), (.int 0), (.int 0), (.int 0), (.int 0), (.int 0), (.int 0), (.int 0), (.int 0), (.int 0), (.int 0), (.int 0), (.int 0), (.int 0), (.int 0), (.int 0), (.int 0), (.int 0), (.int 0), (.int 0)]), (.lst []), (.int 0)]), (.tup [(.int 2), (.lst [(.int 0), (.int 0), (.int 0), (.int 0), (.int 0), (.int 0), (.int 0), (.int 0)]), (.lst [(.int 0), (.int 0), (.int 0), (.int 0), (.int 0), (.int 0), (.int 0), (.int 0), (.int 0), (.int 0), (.int 0), (.int 0), (.int 0), (.int 0), (.int 0), (.int 0), (.int 0), (.int 0), (.int 0), (.int 0), (.int 0), (.int 0), (.int 0), (.int 0), (.int 0), (.int 0), (.int 0), (.int 0), (.int 0), (.int 0), (.int 0), (.int 0)]), (.lst [(.int 256)]), (.int 0)]), (.tup [(.int 2), (.lst [(.int 0), (.int 0), (.int 0), (.int 0), (.int 0), (.int 0), (.int 0), (.int 0)]), (.lst [(.int 0), (.int 0), (.int 0), (.int 0), (.int 0), (.int 0), (.int 0), (.int 0), (.int 0), (.int 0), (.int 0), (.int 0), (.int 0), (.int 0), (.int 0), (.int 0), (.int 0), (.int 0), (.int 0), (.int 0), (.int 0), (.int 0), (.int 0), (.int 0), (.int 0), (.int 0), (.int 0), (.int 0), (.int 0), (.int 0), (.int 0), (.int 0)]), (.lst []), (.int (-1))]), (.tup [(.int 2), (.lst [(.int 0), (.int 0), (.int 0), (.int 0), (.int 0), (.int 0), (.int 0), (.int 0)]), (.lst [(.int 0), (.int 0), (.int 0), (.int 0), (.int 0), (.int 0), (.int 0), (.int 0), (.int 0), (.int 0), (.int 0), (.int 0), (.int 0), (.int 0), (.int 0), (.int 0), (.int 0), (.int 0), (.int 0), (.int 0), (.int 0), (.int 0), (.int 0), (.int 0), (.int 0), (.int 0), (.int 0), (.int 0), (.int 0), (.int 0), (.int 0), (.int 0)]), (.lst []), (.bl true)]), (.tup [(.int 2), (.lst [(.int 0), (.int 0), (.int 0), (.int 0), (.int 0), (.int 0), (.int 0), (.int 0)]), (.lst [(.int 0), (.int 0), (.int 0), (.int 0), (.int 0), (.int 0), (.int 0), (.int 0), (.int 0), (.int 0), (.int 0), (.int 0), (.int 0), (.int 0), (.int 0), (.int 0), (.int 0), (.int 0), (.int 0), (.int 0), (.int 0), (.int 0), (.int 0), (.int 0), (.int 0), (.int 0), (.int 0), (.int 0), (.int 0), (.int 0), (.int 0), (.int 0)]), (.lst []), (.int 0), (.int 0)])])), none], [none, none, none, none, none, (some 0)], 0⟩ seg3 ⟨[.dead, .dead, (.lst [(.fn 2), (.clo 0 []), (.clo 1 []), (.clo 2 []), (.clo 3 []), (.clo 4 []), (.clo 5 []), (.clo 6 [])]), (.lst [(.clo 7 [0]), (.clo 8 [0]), (.clo 9 [0]), (.clo 10 [0]), (.clo 11 [0])])], [(some (someV 2))]⟩ = .ok (.nxt, ⟨[none, (some (.ref 1)), (some (.ref 4)), (some (.tup [(.int 2), (.lst [(.int 0), (.int 0), (.int 0), (.int 0), (.int 0), (.int 0), (.int 0), (.int 0)]), (.lst [(.int 0), (.int 0), (.int 0), (.int 0), (.int 0), (.int 0), (.int 0), (.int 0), (.int 0), (.int 0), (.int 0), (.int 0), (.int 0), (.int 0), (.int 0), (.int 0), (.int 0), (.int 0), (.int 0), (.int 0), (.int 0), (.int 0), (.int 0), (.int 0), (.int 0), (.int 0), (.int 0), (.int 0), (.int 0), (.int 0), (.int 0), (.int 0)]), (.lst []), (.int 0)])), (some (.lst [.non, (.int 5), (.dic [] []), (.tup []), (.tup [(.int 2), (.lst [(.int 0), (.int 0), (.int 0), (.int 0), (.int 0), (.int 0), (.int 0), (.int 0)]), (.lst [(.int 0), (.int 0), (.int 0), (.int 0), (.int 0), (.int 0), (.int 0), (.int 0), (.int 0), (.int 0), (.int 0), (.int 0), (.int 0), (.int 0), (.int 0), (.int 0), (.int 0), (.int 0), (.int 0), (.int 0), (.int 0), (.int 0), (.int 0), (.int 0), (.int 0), (.int 0), (.int 0), (.int 0), (.int 0), (.int 0), (.int 0), (.int 0)]), (.lst [])]), (.tup [(.int 3), (.lst [(.int 0), (.int 0), (.int 0), (.int 0), (.int 0), (.int 0), (.int 0), (.int 0)]), (.lst [(.int 0), (.int 0), (.int 0), (.int 0), (.int 0), (.int 0), (.int 0), (.int 0), (.int 0), (.int 0), (.int 0), (.int 0), (.int 0), (.int 0), (.int 0), (.int 0), (.int 0), (.int 0), (.int 0), (.int 0), (.int 0), (.int 0), (.int 0), (.int 0), (.int 0), (.int 0), (.int 0), (.int 0), (.int 0), (.int 0), (.int 0), (.int 0)]), (.lst []), (.int 0)]), (.tup [(.int 2), (.lst [(.int 0), (.int 0), (.int 0), (.int 0), (.int 0), (.int 0), (.int 0)]), (.lst [(.int 0), (.int 0), (.int 0), (.int 0), (.int 0), (.int 0), (.int 0), (.int 0), (.int 0), (.int 0), (.int 0), (.int 0), (.int 0), (.int 0), (.int 0), (.int 0), (.int 0), (.int 0), (.int 0), (.int 0), (.int 0), (.int 0), (.int 0), (.int 0), (.int 0), (.int 0), (.int 0), (.int 0), (.int 0), (.int 0), (.int 0), (.int 0)]), (.lst []), (.int 0)]), (.tup [(.int 2), (.lst [(.int 0), (.int 0), (.int 0), (.int 0), (.int 0), (.int 0), (.int 0), (.int 0)]), (.lst [(.int 0), (.int 0), (.int 0), (.int 0), (.int 0), (.int 0), (.int 0), (.int 0), (.int 0), (.int 0), (.int 0), (.int 0), (.int 0), (.int 0), (.int 0), (.int 0), (.int 0), (.int 0), (.int 0), (.int 0), (.int 0), (.int 0), (.int 0), (.int 0), (.int 0), (.int 0), (.int 0), (.int 0), (.int 0), (.int 0), (.int 0), (.int 0), (.int 0)]), (.lst []), (.int 0)]), (.tup [(.int 2), (.lst [(.int 0), (.int 0), (.int 0), (.int 0), (.int 0), (.int 0), (.int 0), (.int 0)]), (.lst [(.int 0), (.int 0), (.int 0), (.int 0), (.int 0), (.int 0), (.int 0), (.int 0), (.int 0), (.int 0), (.int 0), (.int 0), (.int 0), (.int 0), (.int 0), (.int 0), (.int 0), (.int 0), (.int 0), (.int 0), (.int 0), (.int 0), (.int 0), (.int 0), (.int 0), (.int 0), (.int 0), (.int 0), (.int 0), (.int 0), (.int 0), (.int 0)]), (.lst [(.int 256)]), (.int 0)]), (.tup [(.int 2), (.lst [(.int 0), (.int 0), (.int 0), (.int 0), (.int 0), (.int 0), (.int 0), (.int 0)]), (.lst [(.int 0), (.int 0), (.int 0), (.int 0), (.int 0), (.int 0), (.int 0), (.int 0), (.int 0), (.int 0), (.int 0), (.int 0), (.int 0), (.int 0), (.int 0), (.int 0), (.int 0), (.int 0), (.int 0), (.int 0), (.int 0), (.int 0), (.int 0), (.int 0), (.int 0), (.int 0), (.int 0), (.int 0), (.int 0), (.int 0), (.int 0), (.int 0)]), (.lst []), (.int (-1))]), (.tup [(.int 2), (.lst [(.int 0), (.int 0), (.int 0), (.int 0), (.int 0), (.int 0), (.int 0), (.int 0)]), (.lst [(.int 0), (.int 0), (.int 0), (.int 0), (.int 0), (.int 0), (.int 0), (.int 0), (.int 0), (.int 0), (.int 0), (.int 0), (.int 0), (.int 0), (.int 0), (.int 0), (.int 0), (.int 0), (.int 0), (.int 0), (.int 0), (.int 0), (.int 0), (.int 0), (.int 0), (.int 0), (.int 0), (.int 0), (.int 0), (.int 0), (.int 0), (.int 0)]), (.lst []), (.bl true)]), (.tup [(.int 2), (.lst [(.int 0), (.int 0), (.int 0), (.int 0), (.int 0), (.int 0), (.int 0), (.int 0)]), (.lst [(.int 0), (.int 0), (.int 0), (.int 0), (.int 0), (.int 0), (.int 0), (.int 0), (.int 0), (.int 0), (.int 0), (.int 0), (.int 0), (.int 0), (.int 0), (.int 0), (.int 0), (.int 0), (.int 0), (.int 0), (.int 0), (.int 0), (.int 0), (.int 0), (.int 0), (.int 0), (.int 0), (.int 0), (.int 0), (.int 0), (.int 0), (.int 0)]), (.lst []), (.int 0), (.int 0)])])), none], [none, none, none, none, none, (some 0)], 0⟩) ⟨[.dead, .dead, (.lst [(.fn 2), (.clo 0 []), (.clo 1 []), (.clo 2 []), (.clo 3 []), (.clo 4 []), (.clo 5 []), (.clo 6 [])]), (.lst [(.clo 7 [0]), (.clo 8 [0]), (.clo 9 [0]), (.clo 10 [0]), (.clo 11 [0])]), (.lst [(.clo 13 [0]), (.clo 14 [0]), (.clo 15 [0])])], [(some (someV 2))]⟩ := by kernel_rfl
theorem p3_3 : (ev P 120).s ⟨[none, (some (.ref 1)), (some (.ref 3)), (some (.tup [(.int 2), (.lst [(.int 0), (.int 0), (.int 0), (.int 0), (.int 0), (.int 0), (.int 0), (.int 0)]), (.lst [(.int 0), (.int 0), (.int 0), (.int 0), (.int 0), (.int 0), (.int 0), (.int 0), (.int 0), (.int 0), (.int 0), (.int 0), (.int 0), (.int 0), (.int 0), (.int 0), (.int 0), (.int 0), (.int 0), (.int 0), (.int 0), (.int 0), (.int 0), (.int 0), (.int 0), (.int 0), (.int 0), (.int 0), (.int 0), (.int 0), (.int 0), (.int 0)]), (.lst []), (.int 0)])), (some (.lst [.non, (.int 5), (.dic [] []), (.tup []), (.tup [(.int 2), (.lst [(.int 0), (.int 0), (.int 0), (.int 0), (.int 0), (.int 0), (.int 0), (.int 0)]), (.lst [(.int 0), (.int 0), (.int 0), (.int 0), (.int 0), (.int 0), (.int 0), (.int 0), (.int 0), (.int 0), (.int 0), (.int 0), (.int 0), (.int 0), (.int 0), (.int 0), (.int 0), (.int 0), (.int 0), (.int 0), (.int 0), (.int 0), (.int 0), (.int 0), (.int 0), (.int 0), (.int 0), (.int 0), (.int 0), (.int 0), (.int 0), (.int 0)]), (.lst [])]), (.tup [(.int 3), (.lst [(.int 0), (.int 0), (.int 0), (.int 0), (.int 0), (.int 0), (.int 0), (.int 0)]), (.lst [(.int 0), (.int 0), (.int 0), (.int 0), (.int 0), (.int 0), (.int 0), (.int 0), (.int 0), (.int 0), (.int 0), (.int 0), (.int 0), (.int 0), (.int 0), (.int 0), (.int 0), (.int 0), (.int 0), (.int 0), (.int 0), (.int 0), (.int 0), (.int 0), (.int 0), (.int 0), (.int 0), (.int 0), (.int 0), (.int 0), (.int 0), (.int 0)]), (.lst []), (.int 0)]), (.tup [(.int 2), (.lst [(.int 0), (.int 0), (.int 0), (.int 0), (.int 0), (.int 0), (.int 0)]), (.lst [(.int 0), (.int 0), (.int 0), (.int 0), (.int 0), (.int 0), (.int 0), (.int 0), (.int 0), (.int 0), (.int 0), (.int 0), (.int 0), (.int 0), (.int 0), (.int 0), (.int 0), (.int 0), (.int 0), (.int 0), (.int 0), (.int 0), (.int 0), (.int 0), (.int 0), (.int 0), (.int 0), (.int 0), (.int 0), (.int 0), (.int 0), (.int 0)]), (.lst []), (.int 0)]), (.tup [(.int 2), (.lst [(.int 0), (.int 0), (.int 0), (.int 0), (.int 0), (.int 0), (.int 0), (.int 0)]), (.lst [(.int 0), (.int 0), (.int 0), (.int 0), (.int 0), (.int 0), (.int 0), (.int 0), (.int 0), (.int 0), (.int 0), (.int 0), (.int 0), (.int 0), (.int 0), (.int 0), (.int 0), (.int 0), (.int 0), (.int 0), (.int 0), (.int 0), (.int 0), (.int 0), (.int 0), (.int 0), (.int 0), (.int 0), (.int 0), (.int 0), (.int 0), (.int 0), (.int 0)]), (.lst []), (.int 0)]), (.tup [(.int 2), (.lst [(.int 0), (.int 0), (.int 0), (.int 0), (.int 0), (.int 0), (.int 0), (.int 0)]), (.lst [(.int 0), (.int 0), (.int 0), (.int 0), (.int 0), (.int 0), (.int 0), (.int 0), (.int 0), (.int 0), (.int 0), (.int 0), (.int 0), (.int 0), (.int 0), (.int 0), (.int 0), (.int 0), (.int 0), (.int 0), (.int 0), (.int 0), (.int 0), (.int 0), (.int 0), (.int 0), (.int 0), (.int 0), (.int 0), (.int 0), (.int 0), (.int 0)]), (.lst [(.int 256)]), (.int 0)]), (.tup [(.int 2), (.lst [(.int 0), (.int 0), (.int 0), (.int 0), (.int 0), (.int 0), (.int 0), (.int 0)]), (.lst [(.int 0), (.int 0), (.int 0), (.int 0), (.int 0), (.int 0), (.int 0), (.int 0), (.int 0), (.int 0), (.int 0), (.int 0), (.int 0), (.int 0), (.int 0), (.int 0), (.int 0), (.int 0), (.int 0), (.int 0), (.int 0), (.int 0), (.int 0), (.int 0), (.int 0), (.int 0), (.int 0), (.int 0), (.int 0), (.int 0), (.int 0), (.int 0)]), (.lst []), (.int (-1))]), (.tup [(.int 2), (.lst [(.int 0), (.int 0), (.int 0), (.int 0), (.int 0), (.int 0), (.int 0), (.int 0)]), (.lst [(.int 0), (.int 0), (.int 0), (.int 0), (.int 0), (.int 0), (.int 0), (.int 0), (.int 0), (.int 0), (.int 0), (.int 0), (.int 0), (.int 0), (.int 0), (.int 0), (.int 0), (.int 0), (.int 0), (.int 0), (.int 0), (.int 0), (.int 0), (.int 0), (.int 0), (.int 0), (.int 0), (.int 0), (.int 0), (.int 0), (.int 0), (.int 0)]), (.lst []), (.bl true)]), (.tup [(.int 2), (.lst [(.int 0), (.int 0), (.int 0), (.int 0), (.int 0), (.int 0), (.int 0), (.int 0)]), (.lst [(.int 0), (.int 0), (.int 0), (.int 0), (.int 0), (.int 0), (.int 0), (.int 0), (.int 0), (.int 0), (.int 0), (.int 0), (.int 0), (.int 0), (.int 0), (.int 0), (.int 0), (.int 0), (.int 0), (.int 0), (.int 0), (.int 0), (.int 0), (.int 0), (.int 0), (.int 0), (.int 0), (.int 0), (.int 0), (.int 0), (.int 0), (.int 0)]), (.lst []), (.int 0), (.int 0)])])), none], [none, none, none, none, none, (some 0)], 0⟩ seg3 ⟨[.dead, .dead, (.lst [(.fn 2), (.clo 0 []), (.clo 1 []), (.clo 2 []), (.clo 3 []), (.clo 4 []), (.clo 5 []), (.clo 6 [])]), (.lst [(.clo 7 [0]), (.clo 8 [0]), (.clo 9 [0]), (.clo 10 [0]), (.clo 11 [0])])], [(some (someV 3))]⟩ = .ok (.nxt, ⟨[none, (some (.ref 1)), (some (.ref 4)), (some (.tup [(.int 2), (.lst [(.int 0), (.int 0), (.int 0), (.int 0), (.int 0), (.int 0), (.int 0), (.int 0)]), (.lst [(.int 0), (.int 0), (.int 0), (.int 0), (.int 0), (.int 0), (.int 0), (.int 0), (.int 0), (.int 0), (.int 0), (.int 0), (.int 0), (.int 0), (.int 0), (.int 0), (.int 0), (.int 0), (.int 0), (.int 0), (.int 0), (.int 0), (.int 0), (.int 0), (.int 0), (.int 0), (.int 0), (.int 0), (.int 0), (.int 0), (.int 0), (.int 0)]), (.lst []), (.int 0)])), (some (.lst [.non, (.int 5), (.dic [] []), (.tup []), (.tup [(.int 2), (.lst [(.int 0), (.int 0), (.int 0), (.int 0), (.int 0), (.int 0), (.int 0), (.int 0)]), (.lst [(.int 0), (.int 0), (.int 0), (.int 0), (.int 0), (.int 0), (.int 0), (.int 0), (.int 0), (.int 0), (.int 0), (.int 0), (.int 0), (.int 0), (.int 0), (.int 0), (.int 0), (.int 0), (.int 0), (.int 0), (.int 0), (.int 0), (.int 0), (.int 0), (.int 0), (.int 0), (.int 0), (.int 0), (.int 0), (.int 0), (.int 0), (.int 0)]), (.lst [])]), (.tup [(.int 3), (.lst [(.int 0), (.int 0), (.int 0), (.int 0), (.int 0), (.int 0), (.int 0), (.int 0)]), (.lst [(.int 0), (.int 0), (.int 0), (.int 0), (.int 0), (.int 0), (.int 0), (.int 0), (.int 0), (.int 0), (.int 0), (.int 0), (.int 0), (.int 0), (.int 0), (.int 0), (.int 0), (.int 0), (.int 0), (.int 0), (.int 0), (.int 0), (.int 0), (.int 0), (.int 0), (.int 0), (.int 0), (.int 0), (.int 0), (.int 0), (.int 0), (.int 0)]), (.lst []), (.int 0)]), (.tup [(.int 2), (.lst [(.int 0), (.int 0), (.int 0), (.int 0), (.int 0), (.int 0), (.int 0)]), (.lst [(.int 0), (.int 0), (.int 0), (.int 0), (.int 0), (.int 0), (.int 0), (.int 0), (.int 0), (.int 0), (.int 0), (.int 0), (.int 0), (.int 0), (.int 0), (.int 0), (.int 0), (.int 0), (.int 0), (.int 0), (.int 0), (.int 0), (.int 0), (.int 0), (.int 0), (.int 0), (.int 0), (.int 0), (.int 0), (.int 0), (.int 0), (.int 0)]), (.lst []), (.int 0)]), (.tup [(.int 2), (.lst [(.int 0), (.int 0), (.int 0), (.int 0), (.int 0), (.int 0), (.int 0), (.int 0)]), (.lst [(.int 0), (.int 0), (.int 0), (.int 0), (.int 0), (.int 0), (.int 0), (.int 0), (.int 0), (.int 0), (.int 0), (.int 0), (.int 0), (.int 0), (.int 0), (.int 0), (.int 0), (.int 0), (.int 0), (.int 0), (.int 0), (.int 0), (.int 0), (.int 0), (.int 0), (.int 0), (.int 0), (.int 0), (.int 0), (.int 0), (.int 0), (.int 0), (.int 0)]), (.lst []), (.int 0)]), (.tup [(.int 2), (.lst [(.int 0), (.int 0), (.int 0), (.int 0), (.int 0), (.int 0), (.int 0), (.int 0)]), (.lst [(.int 0), (.int 0), (.int 0), (.int 0), (.int 0), (.int 0), (.int 0), (.int 0), (.int 0), (.int 0), (.int 0), (.int 0), (.int 0), (.int 0), (.int 0), (.int 0), (.int 0), (.int 0), (.int 0), (.int 0), (.int 0), (.int 0), (.int 0), (.int 0), (.int 0), (.int 0), (.int 0), (.int 0), (.int 0), (.int 0), (.int 0), (.int 0)]), (.lst [(.int 256)]), (.int 0)]), (.tup [(.int 2), (.lst [(.int 0), (.int 0), (.int 0), (.int 0), (.int 0), (.int 0), (.int 0), (.int 0)]), (.lst [(.int 0), (.int 0), (.int 0), (.int 0), (.int 0), (.int 0), (.int 0), (.int 0), (.int 0), (.int 0), (.int 0), (.int 0), (.int 0), (.int 0), (.int 0), (.int 0), (.int 0), (.int 0), (.int 0), (.int 0), (.int 0), (.int 0), (.int 0), (.int 0), (.int 0), (.int 0), (.int 0), (.int 0), (.int 0), (.int 0), (.int 0), (.int 0)]), (.lst []), (.int (-1))]), (.tup [(.int 2), (.lst [(.int 0), (.int 0), (.int 0), (.int 0), (.int 0), (.int 0), (.int 0), (.int 0)]), (.lst [(.int 0), (.int 0), (.int 0), (.int 0), (.int 0), (.int 0), (.int 0), (.int 0), (.int 0), (.int 0), (.int 0), (.int 0), (.int 0), (.int 0), (.int 0), (.int 0), (.int 0), (.int 0), (.int 0), (.int 0), (.int 0), (.int 0), (.int 0), (.int 0), (.int 0), (.int 0), (.int 0), (.int 0), (.int 0), (.int 0), (.int 0), (.int 0)]), (.lst []), (.bl true)]), (.tup [(.int 2), (.lst [(.int 0), (.int 0), (.int 0), (.int 0), (.int 0), (.int 0), (.int 0), (.int 0)]), (.lst [(.int 0), (.int 0), (.int 0), (.int 0), (.int 0), (.int 0), (.int 0), (.int 0), (.int 0), (.int 0), (.int 0), (.int 0), (.int 0), (.int 0), (.int 0), (.int 0), (.int 0), (.int 0), (.int 0), (.int 0), (.int 0), (.int 0), (.int 0), (.int 0), (.int 0), (.int 0), (.int 0), (.int 0), (.int 0), (.int 0), (.int 0), (.int 0)]), (.lst []), (.int 0), (.int 0)])])), none], [none, none, none, none, none, (some 0)], 0⟩) ⟨[.dead, .dead, (.lst [(.fn 2), (.clo 0 []), (.clo 1 []), (.clo 2 []), (.clo 3 []), (.clo 4 []), (.clo 5 []), (.clo 6 [])]), (.lst [(.clo 7 [0]), (.clo 8 [0]), (.clo 9 [0]), (.clo 10 [0]), (.clo 11 [0])]), (.lst [(.clo 13 [0]), (.clo 14 [0]), (.clo 15 [0])])], [(some (someV 3))]⟩ := by kernel_rfl
theorem p3_4 : (ev P 120).s ⟨[none, (some (.ref 1)), (some (.ref 3)), (some (.tup [(.int 2), (.lst [(.int 0), (.int 0), (.int 0), (.int 0), (.int 0), (.int 0), (.int 0), (.int 0)]), (.lst [(.int 0), (.int 0), (.int 0), (.int 0), (.int 0), (.int 0), (.int 0), (.int 0), (.int 0), (.int 0), (.int 0), (.int 0), (.int 0), (.int 0), (.int 0), (.int 0), (.int 0), (.int 0), (.int 0), (.int 0), (.int 0), (.int 0), (.int 0), (.int 0), (.int 0), (.int 0), (.int 0), (.int 0), (.int 0), (.int 0), (.int 0), (.int 0)]), (.lst []), (.int 0)])), (some (.lst [.non, (.int 5), (.dic [] []), (.tup []), (.tup [(.int 2), (.lst [(.int 0), (.int 0), (.int 0), (.int 0), (.int 0), (.int 0), (.int 0), (.int 0)]), (.lst [(.int 0), (.int 0), (.int 0), (.int 0), (.int 0), (.int 0), (.int 0), (.int 0), (.int 0), (.int 0), (.int 0), (.int 0), (.int 0), (.int 0), (.int 0), (.int 0), (.int 0), (.int 0), (.int 0), (.int 0), (.int 0), (.int 0), (.int 0), (.int 0), (.int 0), (.int 0), (.int 0), (.int 0), (.int 0), (.int 0), (.int 0), (.int 0)]), (.lst [])]), (.tup [(.int 3), (.lst [(.int 0), (.int 0), (.int 0), (.int 0), (.int 0), (.int 0), (.int 0), (.int 0)]), (.lst [(.int 0), (.int 0), (.int 0), (.int 0), (.int 0), (.int 0), (.int 0), (.int 0), (.int 0), (.int 0), (.int 0), (.int 0), (.int 0), (.int 0), (.int 0), (.int 0), (.int 0), (.int 0), (.int 0), (.int 0), (.int 0), (.int 0), (.int 0), (.int 0), (.int 0), (.int 0), (.int 0), (.int 0), (.int 0), (.int 0), (.int 0), (.int 0)]), (.lst []), (.int 0)]), (.tup [(.int 2), (.lst [(.int 0), (.int 0), (.int 0), (.int 0), (.int 0), (.int 0), (.int 0)]), (.lst [(.int 0), (.int 0), (.int 0), (.int 0), (.int 0), (.int 0), (.int 0), (.int 0), (.int 0), (.int 0), (.int 0), (.int 0), (.int 0), (.int 0), (.int 0), (.int 0), (.int 0), (.int 0), (.int 0), (.int 0), (.int 0), (.int 0), (.int 0), (.int 0), (.int 0), (.int 0), (.int 0), (.int 0), (.int 0), (.int 0), (.int 0), (.int 0)]), (.lst []), (.int 0)]), (.tup [(.int 2), (.lst [(.int 0), (.int 0), (.int 0), (.int 0), (.int 0), (.int 0), (.int 0), (.int 0)]), (.lst [(.int 0), (.int 0), (.int 0), (.int 0), (.int 0), (.int 0), (.int 0), (.int 0), (.int 0), (.int 0), (.int 0), (.int 0), (.int 0), (.int 0), (.int 0), (.int 0), (.int 0), (.int 0), (.int 0), (.int 0), (.int 0), (.int 0), (.int 0), (.int 0), (.int 0), (.int 0), (.int 0), (.int 0), (.int 0), (.int 0), (.int 0), (.int 0), (.int 0)]), (.lst []), (.int 0)]), (.tup [(.int 2), (.lst [(.int 0), (.int 0), (.int 0), (.int 0), (.int 0), (.int 0), (.int 0), (.int 0)]), (.lst [(.int 0), (.int 0), (.int 0), (.int 0), (.int 0), (.int 0), (.int 0), (.int 0), (.int 0), (.int 0), (.int 0), (.int 0), (.int 0), (.int 0), (.int 0), (.int 0), (.int 0), (.int 0), (.int 0), (.int 0), (.int 0), (.int 0), (.int 0), (.int 0), (.int 0), (.int 0), (.int 0), (.int 0), (.int 0), (.int 0), (.int 0), (.int 0)]), (.lst [(.int 256)]), (.int 0)]), (.tup [(.int 2), (.lst [(.int 0), (.int 0), (.int 0), (.int 0), (.int 0), (.int 0), (.int 0), (.int 0)]), (.lst [(.int 0), (.int 0), (.int 0), (.int 0), (.int 0), (.int 0), (.int 0), (.int 0), (.int 0), (.int 0), (.int 0), (.int 0), (.int 0), (.int 0), (.int 0), (.int 0), (.int 0), (.int 0), (.int 0), (.int 0), (.int 0), (.int 0), (.int 0), (.int 0), (.int 0), (.int 0), (.int 0), (.int 0), (.int 0), (.int 0), (.int 0), (.int 0)]), (.lst []), (.int (-1))]), (.tup [(.int 2), (.lst [(.int 0), (.int 0), (.int 0), (.int 0), (.int 0), (.int 0), (.int 0), (.int 0)]), (.lst [(.int 0), (.int 0), (.int 0), (.int 0), (.int 0), (.int 0), (.int 0), (.int 0), (.int 0), (.int 0), (.int 0), (.int 0), (.int 0), (.int 0), (.int 0), (.int 0), (.int 0), (.int 0), (.int 0), (.int 0), (.int 0), (.int 0), (.int 0), (.int 0), (.int 0), (.int 0), (.int 0), (.int 0), (.int 0), (.int 0), (.int 0), (.int 0)]), (.lst []), (.bl true)]), (.tup [(.int 2), (.lst [(.int 0), (.int 0), (.int 0), (.int 0), (.int 0), (.int 0), (.int 0), (.int 0)]), (.lst [(.int 0), (.int 0), (.int 0), (.int 0), (.int 0), (.int 0), (.int 0), (.int 0), (.int 0), (.int 0), (.int 0), (.int 0), (.int 0), (.int 0), (.int 0), (.int 0), (.int 0), (.int 0), (.int 0), (.int 0), (.int 0), (.int 0), (.int 0), (.int 0), (.int 0), (.int 0), (.int 0), (.int 0), (.int 0), (.int 0), (.int 0), (.int 0)]), (.lst []), (.int 0), (.int 0)])])), none], [none, none, none, none, none, (some 0)], 0⟩ seg3 ⟨[.dead, .dead, (.lst [(.fn 2), (.clo 0 []), (.clo 1 []), (.clo 2 []), (.clo 3 []), (.clo 4 []), (.clo 5 []), (.clo 6 [])]), (.lst [(.clo 7 [0]), (.clo 8 [0]), (.clo 9 [0]), (.clo 10 [0]), (.clo 11 [0])])], [(some (someV 4))]⟩ = .ok (.nxt, ⟨[none, (some (.ref 1)), (some (.ref 4)), (some (.tup [(.int 2), (.lst [(.int 0), (.int 0), (.int 0), (.int 0), (.int 0), (.int 0), (.int 0), (.int 0)]), (.lst [(.int 0), (.int 0), (.int 0), (.int 0), (.int 0), (.int 0), (.int 0), (.int 0), (.int 0), (.int 0), (.int 0), (.int 0), (.int 0), (.int 0), (.int 0), (.int 0), (.int 0), (.int 0), (.int 0), (.int 0), (.int 0), (.int 0), (.int 0), (.int 0), (.int 0), (.int 0), (.int 0), (.int 0), (.int 0), (.int 0), (.int 0), (.int 0)]), (.lst []), (.int 0)])), (some (.lst [.non, (.int 5), (.dic [] []), (.tup []), (.tup [(.int 2), (.lst [(.int 0), (.int 0), (.int 0), (.int 0), (.int 0), (.int 0), (.int 0), (.int 0)]), (.lst [(.int 0), (.int 0), (.int 0), (.int 0), (.int 0), (.int 0), (.int 0), (.int 0), (.int 0), (.int 0), (.int 0), (.int 0), (.int 0), (.int 0), (.int 0), (.int 0), (.int 0), (.int 0), (.int 0), (.int 0), (.int 0), (.int 0), (.int 0), (.int 0), (.int 0), (.int 0), (.int 0), (.int 0), (.int 0), (.int 0), (.int 0), (.int 0)]), (.lst [])]), (.tup [(.int 3), (.lst [(.int 0), (.int 0), (.int 0), (.int 0), (.int 0), (.int 0), (.int 0), (.int 0)]), (.lst [(.int 0), (.int 0), (.int 0), (.int 0), (.int 0), (.int 0), (.int 0), (.int 0), (.int 0), (.int 0), (.int 0), (.int 0), (.int 0), (.int 0), (.int 0), (.int 0), (.int 0), (.int 0), (.int 0), (.int 0), (.int 0), (.int 0), (.int 0), (.int 0), (.int 0), (.int 0), (.int 0), (.int 0), (.int 0), (.int 0), (.int 0), (.int 0)]), (.lst []), (.int 0)]), (.tup [(.int 2), (.lst [(.int 0), (.int 0), (.int 0), (.int 0), (.int 0), (.int 0), (.int 0)]), (.lst [(.int 0), (.int 0), (.int 0), (.int 0), (.int 0), (.int 0), (.int 0), (.int 0), (.int 0), (.int 0), (.int 0), (.int 0), (.int 0), (.int 0), (.int 0), (.int 0), (.int 0), (.int 0), (.int 0), (.int 0), (.int 0), (.int 0), (.int 0), (.int 0), (.int 0), (.int 0), (.int 0), (.int 0), (.int 0), (.int 0), (.int 0), (.int 0)]), (.lst []), (.int 0)]), (.tup [(.int 2), (.lst [(.int 0), (.int 0), (.int 0), (.int 0), (.int 0), (.int 0), (.int 0), (.int 0)]), (.lst [(.int 0), (.int 0), (.int 0), (.int 0), (.int 0), (.int 0), (.int 0), (.int 0), (.int 0), (.int 0), (.int 0), (.int 0), (.int 0), (.int 0), (.int 0), (.int 0), (.int 0), (.int 0), (.int 0), (.int 0), (.int 0), (.int 0), (.int 0), (.int 0), (.int 0), (.int 0), (.int 0), (.int 0), (.int 0), (.int 0), (.int 0), (.int 0), (.int 0)]), (.lst []), (.int 0)]), (.tup [(.int 2), (.lst [(.int 0), (.int 0), (.int 0), (.int 0), (.int 0), (.int 0), (.int 0), (.int 0)]), (.lst [(.int 0), (.int 0), (.int 0), (.int 0), (.int 0), (.int 0), (.int 0), (.int 0), (.int 0), (.int 0), (.int 0), (.int 0), (.int 0), (.int 0), (.int 0), (.int 0), (.int 0), (.int 0), (.int 0), (.int 0), (.int 0), (.int 0), (.int 0), (.int 0), (.int 0), (.int 0), (.int 0), (.int 0), (.int 0), (.int 0), (.int 0), (.int 0)]), (.lst [(.int 256)]), (.int 0)]), (.tup [(.int 2), (.lst [(.int 0), (.int 0), (.int 0), (.int 0), (.int 0), (.int 0), (.int 0), (.int 0)]), (.lst [(.int 0), (.int 0), (.int 0), (.int 0), (.int 0), (.int 0), (.int 0), (.int 0), (.int 0), (.int 0), (.int 0), (.int 0), (.int 0), (.int 0), (.int 0), (.int 0), (.int 0), (.int 0), (.int 0), (.int 0), (.int 0), (.int 0), (.int 0), (.int 0), (.int 0), (.int 0), (.int 0), (.int 0), (.int 0), (.int 0), (.int 0), (.int 0)]), (.lst []), (.int (-1))]), (.tup [(.int 2), (.lst [(.int 0), (.int 0), (.int 0), (.int 0), (.int 0), (.int 0), (.int 0), (.int 0)]), (.lst [(.int 0), (.int 0), (.int 0), (.int 0), (.int 0), (.int 0), (.int 0), (.int 0), (.int 0), (.int 0), (.int 0), (.int 0), (.int 0), (.int 0), (.int 0), (.int 0), (.int 0), (.int 0), (.int 0), (.int 0), (.int 0), (.int 0), (.int 0), (.int 0), (.int 0), (.int 0), (.int 0), (.int 0), (.int 0), (.int 0), (.int 0), (.int 0)]), (.lst []), (.bl true)]), (.tup [(.int 2), (.lst [(.int 0), (.int 0), (.int 0), (.int 0), (.int 0), (.int 0), (.int 0), (.int 0)]), (.lst [(.int 0), (.int 0), (.int 0), (.int 0), (.int 0), (.int 0), (.int 0), (.int 0), (.int 0), (.int 0), (.int 0), (.int 0), (.int 0), (.int 0), (.int 0), (.int 0), (.int 0), (.int 0), (.int 0), (.int 0), (.int 0), (.int 0), (.int 0), (.int 0), (.int 0), (.int 0), (.int 0), (.int 0), (.int 0), (.int 0), (.int 0), (.int 0)]), (.lst []), (.int 0), (.int 0)])])), none], [none, none, none, none, none, (some 0)], 0⟩) ⟨[.dead, .dead, (.lst [(.fn 2), (.clo 0 []), (.clo 1 []), (.clo 2 []), (.clo 3 []), (.clo 4 []), (.clo 5 []), (.clo 6 [])]), (.lst [(.clo 7 [0]), (.clo 8 [0]), (.clo 9 [0]), (.clo 10 [0]), (.clo 11 [0])]), (.lst [(.clo 13 [0]), (.clo 14 [0]), (.clo 15 [0])])], [(some (someV 4))]⟩ := by kernel_rfl
theorem p3_5 : (ev P 120).s ⟨[none, (some (.ref 1)), (some (.ref 3)), (some (.tup [(.int 2), (.lst [(.int 0), (.int 0), (.int 0), (.int 0), (.int 0), (.int 0), (.int 0), (.int 0)]), (.lst [(.int 0), (.int 0), (.int 0), (.int 0), (.int 0), (.int 0), (.int 0), (.int 0), (.int 0), (.int 0), (.int 0), (.int 0), (.int 0), (.int 0), (.int 0), (.int 0), (.int 0), (.int 0), (.int 0), (.int 0), (.int 0), (.int 0), (.int 0), (.int 0), (.int 0), (.int 0), (.int 0), (.int 0), (.int 0), (.int 0), (.int 0), (.int 0)]), (.lst []), (.int 0)])), (some (.lst [.non, (.int 5), (.dic [] []), (.tup []), (.tup [(.int 2), (.lst [(.int 0), (.int 0), (.int 0), (.int 0), (.int 0), (.int 0), (.int 0), (.int 0)]), (.lst [(.int 0), (.int 0), (.int 0), (.int 0), (.int 0), (.int 0), (.int 0), (.int 0), (.int 0), (.int 0), (.int 0), (.int 0), (.int 0), (.int 0), (.int 0), (.int 0), (.int 0), (.int 0), (.int 0), (.int 0), (.int 0), (.int 0), (.int 0), (.int 0), (.int 0), (.int 0), (.int 0), (.int 0), (.int 0), (.int 0), (.int 0), (.int 0)]), (.lst [])]), (.tup [(.int 3), (.lst [(.int 0), (.int 0), (.int 0), (.int 0), (.int 0), (.int 0), (.int 0), (.int 0)]), (.lst [(.int 0), (.int 0), (.int 0), (.int 0), (.int 0), (.int 0), (.int 0), (.int 0), (.int 0), (.int 0), (.int 0), (.int 0), (.int 0), (.int 0), (.int 0), (.int 0), (.int 0), (.int 0), (.int 0), (.int 0), (.int 0), (.int 0), (.int 0), (.int 0), (.int 0), (.int 0), (.int 0), (.int 0), (.int 0), (.int 0), (.int 0), (.int 0)]), (.lst []), (.int 0)]), (.tup [(.int 2), (.lst [(.int 0), (.int 0), (.int 0), (.int 0), (.int 0), (.int 0), (.int 0)]), (.lst [(.int 0), (.int 0), (.int 0), (.int 0), (.int 0), (.int 0), (.int 0), (.int 0), (.int 0), (.int 0), (.int 0), (.int 0), (.int 0), (.int 0), (.int 0), (.int 0), (.int 0), (.int 0), (.int 0), (.int 0), (.int 0), (.int 0), (.int 0), (.int 0), (.int 0), (.int 0), (.int 0), (.int 0), (.int 0), (.int 0), (.int 0), (.int 0)]), (.lst []), (.int 0)]), (.tup [(.int 2), (.lst [(.int 0), (.int 0), (.int 0), (.int 0), (.int 0), (.int 0), (.int 0), (.int 0)]), (.lst [(.int 0), (.int 0), (.int 0), (.int 0), (.int 0), (.int 0), (.int 0), (.int 0), (.int 0), (.int 0), (.int 0), (.int 0), (.int 0), (.int 0), (.int 0), (.int 0), (.int 0), (.int 0), (.int 0), (.int 0), (.int 0), (.int 0), (.int 0), (.int 0), (.int 0), (.int 0), (.int 0), (.int 0), (.int 0), (.int 0), (.int 0), (.int 0), (.int 0)]), (.lst []), (.int 0)]), (.tup [(.int 2), (.lst [(.int 0), (.int 0), (.int 0), (.int 0), (.int 0), (.int 0), (.int 0), (.int 0)]), (.lst [(.int 0), (.int 0), (.int 0), (.int 0), (.int 0), (.int 0), (.int 0), (.int 0), (.int 0), (.int 0), (.int 0), (.int 0), (.int 0), (.int 0), (.int 0), (.int 0), (.int 0), (.int 0), (.int 0), (.int 0), (.int 0), (.int 0), (.int 0), (.int 0), (.int 0), (.int 0), (.int 0), (.int 0), (.int 0), (.int 0), (.int 0), (.int 0)]), (.lst [(.int 256)]), (.int 0)]), (.tup [(.int 2), (.lst [(.int 0), (.int 0), (.int 0), (.int 0), (.int 0), (.int 0), (.int 0), (.int 0)]), (.lst [(.int 0), (.int 0), (.int 0), (.int 0), (.int 0), (.int 0), (.int 0), (.int 0), (.int 0), (.int 0), (.int 0), (.int 0), (.int 0), (.int 0), (.int 0), (.int 0), (.int 0), (.int 0), (.int 0), (.int 0), (.int 0), (.int 0), (.int 0), (.int 0), (.int 0), (.int 0), (.int 0), (.int 0), (.int 0), (.int 0), (.int 0), (.int 0)]), (.lst []), (.int (-1))]), (.tup [(.int 2), (.lst [(.int 0), (.int 0), (.int 0), (.int 0), (.int 0), (.int 0), (.int 0), (.int 0)]), (.lst [(.int 0), (.int 0), (.int 0), (.int 0), (.int 0), (.int 0), (.int 0), (.int 0), (.int 0), (.int 0), (.int 0), (.int 0), (.int 0), (.int 0), (.int 0), (.int 0), (.int 0), (.int 0), (.int 0), (.int 0), (.int 0), (.int 0), (.int 0), (.int 0), (.int 0), (.int 0), (.int 0), (.int 0), (.int 0), (.int 0), (.int 0), (.int 0)]), (.lst []), (.bl true)]), (.tup [(.int 2), (.lst [(.int 0), (.int 0), (.int 0), (.int 0), (.int 0), (.int 0), (.int 0), (.int 0)]), (.lst [(.int 0), (.int 0), (.int 0), (.int 0), (.int 0), (.int 0), (.int 0), (.int 0), (.int 0), (.int 0), (.int 0), (.int 0), (.int 0), (.int 0), (.int 0), (.int 0), (.int 0), (.int 0), (.int 0), (.int 0), (.int 0), (.int 0), (.int 0), (.int 0), (.int 0), (.int 0), (.int 0), (.int 0), (.int 0), (.int 0), (.int 0), (.int 0)]), (.lst []), (.int 0), (.int 0)])])), none], [none, none, none, none, none, (some 0)], 0⟩ seg3 ⟨[.dead, .dead, (.lst [(.fn 2), (.clo 0 []), (.clo 1 []), (.clo 2 []), (.clo 3 []), (.clo 4 []), (.clo 5 []), (.clo 6 [])]), (.lst [(.clo 7 [0]), (.clo 8 [0]), (.clo 9 [0]), (.clo 10 [0]), (.clo 11 [0])])], [(some (someV 5))]⟩ = .ok (.nxt, ⟨[none, (some (.ref 1)), (some (.ref 4)), (some (.tup [(.int 2), (.lst [(.int 0), (.int 0), (.int 0), (.int 0), (.int 0), (.int 0), (.int 0), (.int 0)]), (.lst [(.int 0), (.int 0), (.int 0), (.int 0), (.int 0), (.int 0), (.int 0), (.int 0), (.int 0), (.int 0), (.int 0), (.int 0), (.int 0), (.int 0), (.int 0), (.int 0), (.int 0), (.int 0), (.int 0), (.int 0), (.int 0), (.int 0), (.int 0), (.int 0), (.int 0), (.int 0), (.int 0), (.int 0), (.int 0), (.int 0), (.int 0), (.int 0)]), (.lst []), (.int 0)])), (some (.lst [.non, (.int 5), (.dic [] []), (.tup []), (.tup [(.int 2), (.lst [(.int 0), (.int 0), (.int 0), (.int 0), (.int 0), (.int 0), (.int 0), (.int 0)]), (.lst [(.int 0), (.int 0), (.int 0), (.int 0), (.int 0), (.int 0), (.int 0), (.int 0), (.int 0), (.int 0), (.int 0), (.int 0), (.int 0), (.int 0), (.int 0), (.int 0), (.int 0), (.int 0), (.int 0), (.int 0), (.int 0), (.int 0), (.int 0), (.int 0), (.int 0), (.int 0), (.int 0), (.int 0), (.int 0), (.int 0), (.int 0), (.int 0)]), (.lst [])]), (.tup [(.int 3), (.lst [(.int 0), (.int 0), (.int 0), (.int 0), (.int 0), (.int 0), (.int 0), (.int 0)]), (.lst [(.int 0), (.int 0), (.int 0), (.int 0), (.int 0), (.int 0), (.int 0), (.int 0), (.int 0), (.int 0), (.int 0), (.int 0), (.int 0), (.int 0), (.int 0), (.int 0), (.int 0), (.int 0), (.int 0), (.int 0), (.int 0), (.int 0), (.int 0), (.int 0), (.int 0), (.int 0), (.int 0), (.int 0), (.int 0), (.int 0), (.int 0), (.int 0)]), (.lst []), (.int 0)]), (.tup [(.int 2), (.lst [(.int 0), (.int 0), (.int 0), (.int 0), (.int 0), (.int 0), (.int 0)]), (.lst [(.int 0), (.int 0), (.int 0), (.int 0), (.int 0), (.int 0), (.int 0), (.int 0), (.int 0), (.int 0), (.int 0), (.int 0), (.int 0), (.int 0), (.int 0), (.int 0), (.int 0), (.int 0), (.int 0), (.int 0), (.int 0), (.int 0), (.int 0), (.int 0), (.int 0), (.int 0), (.int 0), (.int 0), (.int 0), (.int 0), (.int 0), (.int 0)]), (.lst []), (.int 0)]), (.tup [(.int 2), (.lst [(.int 0), (.int 0), (.int 0), (.int 0), (.int 0), (.int 0), (.int 0), (.int 0)]), (.lst [(.int 0), (.int 0), (.int 0), (.int 0), (.int 0), (.int 0), (.int 0), (.int 0), (.int 0), (.int 0), (.int 0), (.int 0), (.int 0), (.int 0), (.int 0), (.int 0), (.int 0), (.int 0), (.int 0), (.int 0), (.int 0), (.int 0), (.int 0), (.int 0), (.int 0), (.int 0), (.int 0), (.int 0), (.int 0), (.int 0), (.int 0), (.int 0), (.int 0)]), (.lst []), (.int 0)]), (.tup [(.int 2), (.lst [(.int 0), (.int 0), (.int 0), (.int 0), (.int 0), (.int 0), (.int 0), (.int 0)]), (.lst [(.int 0), (.int 0), (.int 0), (.int 0), (.int 0), (.int 0), (.int 0), (.int 0), (.int 0), (.int 0), (.int 0), (.int 0), (.int 0), (.int 0), (.int 0), (.int 0), (.int 0), (.int 0), (.int 0), (.int 0), (.int 0), (.int 0), (.int 0), (.int 0), (.int 0), (.int 0), (.int 0), (.int 0), (.int 0), (.int 0), (.int 0), (.int 0)]), (.lst [(.int 256)]), (.int 0)]), (.tup [(.int 2), (.lst [(.int 0), (.int 0), (.int 0), (.int 0), (.int 0), (.int 0), (.int 0), (.int 0)]), (.lst [(.int 0), (.int 0), (.int 0), (.int 0), (.int 0), (.int 0), (.int 0), (.int 0), (.int 0), (.int 0), (.int 0), (.int 0), (.int 0), (.int 0), (.int 0), (.int 0), (.int 0), (.int 0), (.int 0), (.int 0), (.int 0), (.int 0), (.int 0), (.int 0), (.int 0), (.int 0), (.int 0), (.int 0), (.int 0), (.int 0), (.int 0), (.int 0)]), (.lst []), (.int (-1))]), (.tup [(.int 2), (.lst [(.int 0), (.int 0), (.int 0), (.int 0), (.int 0), (.int 0), (.int 0), (.int 0)]), (.lst [(.int 0), (.int 0), (.int 0), (.int 0), (.int 0), (.int 0), (.int 0), (.int 0), (.int 0), (.int 0), (.int 0), (.int 0), (.int 0), (.int 0), (.int 0), (.int 0), (.int 0), (.int 0), (.int 0), (.int 0), (.int 0), (.int 0), (.int 0), (.int 0), (.int 0), (.int 0), (.int 0), (.int 0), (.int 0), (.int 0), (.int 0), (.int 0)]), (.lst []), (.bl true)]), (.tup [(.int 2), (.lst [(.int 0), (.int 0), (.int 0), (.int 0), (.int 0), (.int 0), (.int 0), (.int 0)]), (.lst [(.int 0), (.int 0), (.int 0), (.int 0), (.int 0), (.int 0), (.int 0), (.int 0), (.int 0), (.int 0), (.int 0), (.int 0), (.int 0), (.int 0), (.int 0), (.int 0), (.int 0), (.int 0), (.int 0), (.int 0), (.int 0), (.int 0), (.int 0), (.int 0), (.int 0), (.int 0), (.int 0), (.int 0), (.int 0), (.int 0), (.int 0), (.int 0)]), (.lst []), (.int 0), (.int 0)])])), none], [none, none, none, none, none, (some 0)], 0⟩) ⟨[.dead, .dead, (.lst [(.fn 2), (.clo 0 []), (.clo 1 []), (.clo 2 []), (.clo 3 []), (.clo 4 []), (.clo 5 []), (.clo 6 [])]), (.lst [(.clo 7 [0]), (.clo 8 [0]), (.clo 9 [0]), (.clo 10 [0]), (.clo 11 [0])]), (.lst [(.clo 13 [0]), (.clo 14 [0]), (.clo 15 [0])])], [(some (someV 5))]⟩ := by kernel_rfl
theorem p3_6 : (ev P 120).s ⟨[none, (some (.ref 1)), (some (.ref 3)), (some (.tup [(.int 2), (.lst [(.int 0), (.int 0), (.int 0), (.int 0), (.int 0), (.int 0), (.int 0), (.int 0)]), (.lst [(.int 0), (.int 0), (.int 0), (.int 0), (.int 0), (.int 0), (.int 0), (.int 0), (.int 0), (.int 0), (.int 0), (.int 0), (.int 0), (.int 0), (.int 0), (.int 0), (.int 0), (.int 0), (.int 0), (.int 0), (.int 0), (.int 0), (.int 0), (.int 0), (.int 0), (.int 0), (.int 0), (.int 0), (.int 0), (.int 0), (.int 0), (.int 0)]), (.lst []), (.int 0)])), (some (.lst [.non, (.int 5), (.dic [] []), (.tup []), (.tup [(.int 2), (.lst [(.int 0), (.int 0), (.int 0), (.int 0), (.int 0), (.int 0), (.int 0), (.int 0)]), (.lst [(.int 0), (.int 0), (.int 0), (.int 0), (.int 0), (.int 0), (.int 0), (.int 0), (.int 0), (.int 0), (.int 0), (.int 0), (.int 0), (.int 0), (.int 0), (.int 0), (.int 0), (.int 0), (.int 0), (.int 0), (.int 0), (.int 0), (.int 0), (.int 0), (.int 0), (.int 0), (.int 0), (.int 0), (.int 0), (.int 0), (.int 0), (.int 0)]), (.lst [])]), (.tup [(.int 3), (.lst [(.int 0), (.int 0), (.int 0), (.int 0), (.int 0), (.int 0), (.int 0), (.int 0)]), (.lst [(.int 0), (.int 0), (.int 0), (.int 0), (.int 0), (.int 0), (.int 0), (.int 0), (.int 0), (.int 0), (.int 0), (.int 0), (.int 0), (.int 0), (.int 0), (.int 0), (.int 0), (.int 0), (.int 0), (.int 0), (.int 0), (.int 0), (.int 0), (.int 0), (.int 0), (.int 0), (.int 0), (.int 0), (.int 0), (.int 0), (.int 0), (.int 0)]), (.lst []), (.int 0)]), (.tup [(.int 2), (.lst [(.int 0), (.int 0), (.int 0), (.int 0), (.int 0), (.int 0), (.int 0)]), (.lst [(.int 0), (.int 0), (.int 0), (.int 0), (.int 0), (.int 0), (.int 0), (.int 0), (.int 0), (.int 0), (.int 0), (.int 0), (.int 0), (.int 0), (.int 0), (.int 0), (.int 0), (.int 0), (.int 0), (.int 0), (.int 0), (.int 0), (.int 0), (.int 0), (.int 0), (.int 0), (.int 0), (.int 0), (.int 0), (.int 0), (.int 0), (.int 0)]), (.lst []), (.int 0)]), (.tup [(.int 2), (.lst [(.int 0), (.int 0), (.int 0), (.int 0), (.int 0), (.int 0), (.int 0), (.int 0)]), (.lst [(.int 0), (.int 0), (.int 0), (.int 0), (.int 0), (.int 0), (.int 0), (.int 0), (.int 0), (.int 0), (.int 0), (.int 0), (.int 0), (.int 0), (.int 0), (.int 0), (.int 0), (.int 0), (.int 0), (.int 0), (.int 0), (.int 0), (.int 0), (.int 0), (.int 0), (.int 0), (.int 0), (.int 0), (.int 0), (.int 0), (.int 0), (.int 0), (.int 0)]), (.lst []), (.int 0)]), (.tup [(.int 2), (.lst [(.int 0), (.int 0), (.int 0), (.int 0), (.int 0), (.int 0), (.int 0), (.int 0)]), (.lst [(.int 0), (.int 0), (.int 0), (.int 0), (.int 0), (.int 0), (.int 0), (.int 0), (.int 0), (.int 0), (.int 0), (.int 0), (.int 0), (.int 0), (.int 0), (.int 0), (.int 0), (.int 0), (.int 0), (.int 0), (.int 0), (.int 0), (.int 0), (.int 0), (.int 0), (.int 0), (.int 0), (.int 0), (.int 0), (.int 0), (.int 0), (.int 0)]), (.lst [(.int 256)]), (.int 0)]), (.tup [(.int 2), (.lst [(.int 0), (.int 0), (.int 0), (.int 0), (.int 0), (.int 0), (.int 0), (.int 0)]), (.lst [(.int 0), (.int 0), (.int 0), (.int 0), (.int 0), (.int 0), (.int 0), (.int 0), (.int 0), (.int 0), (.int 0), (.int 0), (.int 0), (.int 0), (.int 0), (.int 0), (.int 0), (.int 0), (.int 0), (.int 0), (.int 0), (.int 0), (.int 0), (.int 0), (.int 0), (.int 0), (.int 0), (.int 0), (.int 0), (.int 0), (.int 0), (.int 0)]), (.lst []), (.int (-1))]), (.tup [(.int 2), (.lst [(.int 0), (.int 0), (.int 0), (.int 0), (.int 0), (.int 0), (.int 0), (.int 0)]), (.lst [(.int 0), (.int 0), (.int 0), (.int 0), (.int 0), (.int 0), (.int 0), (.int 0), (.int 0), (.int 0), (.int 0), (.int 0), (.int 0), (.int 0), (.int 0), (.int 0), (.int 0), (.int 0), (.int 0), (.int 0), (.int 0), (.int 0), (.int 0), (.int 0), (.int 0), (.int 0), (.int 0), (.int 0), (.int 0), (.int 0), (.int 0), (.int 0)]), (.lst []), (.bl true)]), (.tup [(.int 2), (.lst [(.int 0), (.int 0), (.int 0), (.int 0), (.int 0), (.int 0), (.int 0), (.int 0)]), (.lst [(.int 0), (.int 0), (.int 0), (.int 0), (.int 0), (.int 0), (.int 0), (.int 0), (.int 0), (.int 0), (.int 0), (.int 0), (.int 0), (.int 0), (.int 0), (.int 0), (.int 0), (.int 0), (.int 0), (.int 0), (.int 0), (.int 0), (.int 0), (.int 0), (.int 0), (.int 0), (.int 0), (.int 0), (.int 0), (.int 0), (.int 0), (.int 0)]), (.lst []), (.int 0), (.int 0)])])), none], [none, none, none, none, none, (some 0)], 0⟩ seg3 ⟨[.dead, .dead, (.lst [(.fn 2), (.clo 0 []), (.clo 1 []), (.clo 2 []), (.clo 3 []), (.clo 4 []), (.clo 5 []), (.clo 6 [])]), (.lst [(.clo 7 [0]), (.clo 8 [0]), (.clo 9 [0]), (.clo 10 [0]), (.clo 11 [0])])], [(some (someV 6))]⟩ = .ok (.nxt, ⟨[none, (some (.ref 1)), (some (.ref 4)), (some (.tup [(.int 2), (.lst [(.int 0), (.int 0), (.int 0), (.int 0), (.int 0), (.int 0), (.int 0), (.int 0)]), (.lst [(.int 0), (.int 0), (.int 0), (.int 0), (.int 0), (.int 0), (.int 0), (.int 0), (.int 0), (.int 0), (.int 0), (.int 0), (.int 0), (.int 0), (.int 0), (.int 0), (.int 0), (.int 0), (.int 0), (.int 0), (.int 0), (.int 0), (.int 0), (.int 0), (.int 0), (.int 0), (.int 0), (.int 0), (.int 0), (.int 0), (.int 0), (.int 0)]), (.lst []), (.int 0)])), (some (.lst [.non, (.int 5), (.dic [] []), (.tup []), (.tup [(.int 2), (.lst [(.int 0), (.int 0), (.int 0), (.int 0), (.int 0), (.int 0), (.int 0), (.int 0)]), (.lst [(.int 0), (.int 0), (.int 0), (.int 0), (.int 0), (.int 0), (.int 0), (.int 0), (.int 0), (.int 0), (.int 0), (.int 0), (.int 0), (.int 0), (.int 0), (.int 0), (.int 0), (.int 0), (.int 0), (.int 0), (.int 0), (.int 0), (.int 0), (.int 0), (.int 0), (.int 0), (.int 0), (.int 0), (.int 0), (.int 0), (.int 0), (.int 0)]), (.lst [])]), (.tup [(.int 3), (.lst [(.int 0), (.int 0), (.int 0), (.int 0), (.int 0), (.int 0), (.int 0), (.int 0)]), (.lst [(.int 0), (.int 0), (.int 0), (.int 0), (.int 0), (.int 0), (.int 0), (.int 0), (.int 0), (.int 0), (.int 0), (.int 0), (.int 0), (.int 0), (.int 0), (.int 0), (.int 0), (.int 0), (.int 0), (.int 0), (.int 0), (.int 0), (.int 0), (.int 0), (.int 0), (.int 0), (.int 0), (.int 0), (.int 0), (.int 0), (.int 0), (.int 0)]), (.lst []), (.int 0)]), (.tup [(.int 2), (.lst [(.int 0), (.int 0), (.int 0), (.int 0), (.int 0), (.int 0), (.int 0)]), (.lst [(.int 0), (.int 0), (.int 0), (.int 0), (.int 0), (.int 0), (.int 0), (.int 0), (.int 0), (.int 0), (.int 0), (.int 0), (.int 0), (.int 0), (.int 0), (.int 0), (.int 0), (.int 0), (.int 0), (.int 0), (.int 0), (.int 0), (.int 0), (.int 0), (.int 0), (.int 0), (.int 0), (.int 0), (.int 0), (.int 0), (.int 0), (.int 0)]), (.lst []), (.int 0)]), (.tup [(.int 2), (.lst [(.int 0), (.int 0), (.int 0), (.int 0), (.int 0), (.int 0), (.int 0), (.int 0)]), (.lst [(.int 0), (.int 0), (.int 0), (.int 0), (.int 0), (.int 0), (.int 0), (.int 0), (.int 0), (.int 0), (.int 0), (.int 0), (.int 0), (.int 0), (.int 0), (.int 0), (.int 0), (.int 0), (.int 0), (.int 0), (.int 0), (.int 0), (.int 0), (.int 0), (.int 0), (.int 0), (.int 0), (.int 0), (.int 0), (.int 0), (.int 0), (.int 0), (.int 0)]), (.lst []), (.int 0)]), (.tup [(.int 2), (.lst [(.int 0), (.int 0), (.int 0), (.int 0), (.int 0), (.int 0), (.int 0), (.int 0)]), (.lst [(.int 0), (.int 0), (.int 0), (.int 0), (.int 0), (.int 0), (.int 0), (.int 0), (.int 0), (.int 0), (.int 0), (.int 0), (.int 0), (.int 0), (.int 0), (.int 0), (.int 0), (.int 0), (.int 0), (.int 0), (.int 0), (.int 0), (.int 0), (.int 0), (.int 0), (.int 0), (.int 0), (.int 0), (.int 0), (.int 0), (.int 0), (.int 0)]), (.lst [(.int 256)]), (.int 0)]), (.tup [(.int 2), (.lst [(.int 0), (.int 0), (.int 0), (.int 0), (.int 0), (.int 0), (.int 0), (.int 0)]), (.lst [(.int 0), (.int 0), (.int 0), (.int 0), (.int 0), (.int 0), (.int 0), (.int 0), (.int 0), (.int 0), (.int 0), (.int 0), (.int 0), (.int 0), (.int 0), (.int 0), (.int 0), (.int 0), (.int 0), (.int 0), (.int 0), (.int 0), (.int 0), (.int 0), (.int 0), (.int 0), (.int 0), (.int 0), (.int 0), (.int 0), (.int 0), (.int 0)]), (.lst []), (.int (-1))]), (.tup [(.int 2), (.lst [(.int 0), (.int 0), (.int 0), (.int 0), (.int 0), (.int 0), (.int 0), (.int 0)]), (.lst [(.int 0), (.int 0), (.int 0), (.int 0), (.int 0), (.int 0), (.int 0), (.int 0), (.int 0), (.int 0), (.int 0), (.int 0), (.int 0), (.int 0), (.int 0), (.int 0), (.int 0), (.int 0), (.int 0), (.int 0), (.int 0), (.int 0), (.int 0), (.int 0), (.int 0), (.int 0), (.int 0), (.int 0), (.int 0), (.int 0), (.int 0), (.int 0)]), (.lst []), (.bl true)]), (.tup [(.int 2), (.lst [(.int 0), (.int 0), (.int 0), (.int 0), (.int 0), (.int 0), (.int 0), (.int 0)]), (.lst [(.int 0), (.int 0), (.int 0), (.int 0), (.int 0), (.int 0), (.int 0), (.int 0), (.int 0), (.int 0), (.int 0), (.int 0), (.int 0), (.int 0), (.int 0), (.int 0), (.int 0), (.int 0), (.int 0), (.int 0), (.int 0), (.int 0), (.int 0), (.int 0), (.int 0), (.int 0), (.int 0), (.int 0), (.int 0), (.int 0), (.int 0), (.int 0)]), (.lst []), (.int 0), (.int 0)])])), none], [none, none, none, none, none, (some 0)], 0⟩) ⟨[.dead, .dead, (.lst [(.fn 2), (.clo 0 []), (.clo 1 []), (.clo 2 []), (.clo 3 []), (.clo 4 []), (.clo 5 []), (.clo 6 [])]), (.lst [(.clo 7 [0]), (.clo 8 [0]), (.clo 9 [0]), (.clo 10 [0]), (.clo 11 [0])]), (.lst [(.clo 13 [0]), (.clo 14 [0]), (.clo 15 [0])])], [(some (someV 6))]⟩ := by kernel_rfl
theorem p3_7 : (ev P 120).s ⟨[none, (some (.ref 1)), (some (.ref 3)), (some (.tup [(.int 2), (.lst [(.int 0), (.int 0), (.int 0), (.int 0), (.int 0), (.int 0), (.int 0), (.int 0)]), (.lst [(.int 0), (.int 0), (.int 0), (.int 0), (.int 0), (.int 0), (.int 0), (.int 0), (.int 0), (.int 0), (.int 0), (.int 0), (.int 0), (.int 0), (.int 0), (.int 0), (.int 0), (.int 0), (.int 0), (.int 0), (.int 0), (.int 0), (.int 0), (.int 0), (.int 0), (.int 0), (.int 0), (.int 0), (.int 0), (.int 0), (.int 0), (.int 0)]), (.lst []), (.int 0)])), (some (.lst [.non, (.int 5), (.dic [] []), (.tup []), (.tup [(.int 2), (.lst [(.int 0), (.int 0), (.int 0), (.int 0), (.int 0), (.int 0), (.int 0), (.int 0)]), (.lst [(.int 0), (.int 0), (.int 0), (.int 0), (.int 0), (.int 0), (.int 0), (.int 0), (.int 0), (.int 0), (.int 0), (.int 0), (.int 0), (.int 0), (.int 0), (.int 0), (.int 0), (.int 0), (.int 0), (.int 0), (.int 0), (.int 0), (.int 0), (.int 0), (.int 0), (.int 0), (.int 0), (.int 0), (.int 0), (.int 0), (.int 0), (.int 0)]), (.lst [])]), (.tup [(.int 3), (.lst [(.int 0), (.int 0), (.int 0), (.int 0), (.int 0), (.int 0), (.int 0), (.int 0)]), (.lst [(.int 0), (.int 0), (.int 0), (.int 0), (.int 0), (.int 0), (.int 0), (.int 0), (.int 0), (.int 0), (.int 0), (.int 0), (.int 0), (.int 0), (.int 0), (.int 0), (.int 0), (.int 0), (.int 0), (.int 0), (.int 0), (.int 0), (.int 0), (.int 0), (.int 0), (.int 0), (.int 0), (.int 0), (.int 0), (.int 0), (.int 0), (.int 0)]), (.lst []), (.int 0)]), (.tup [(.int 2), (.lst [(.int 0), (.int 0), (.int 0), (.int 0), (.int 0), (.int 0), (.int 0)]), (.lst [(.int 0), (.int 0), (.int 0), (.int 0), (.int 0), (.int 0), (.int 0), (.int 0), (.int 0), (.int 0), (.int 0), (.int 0), (.int 0), (.int 0), (.int 0), (.int 0), (.int 0), (.int 0), (.int 0), (.int 0), (.int 0), (.int 0), (.int 0), (.int 0), (.int 0), (.int 0), (.int 0), (.int 0), (.int 0), (.int 0), (.int 0), (.int 0)]), (.lst []), (.int 0)]), (.tup [(.int 2), (.lst [(.int 0), (.int 0), (.int 0), (.int 0), (.int 0), (.int 0), (.int 0), (.int 0)]), (.lst [(.int 0), (.int 0), (.int 0), (.int 0), (.int 0), (.int 0), (.int 0), (.int 0), (.int 0), (.int 0), (.int 0), (.int 0), (.int 0), (.int 0), (.int 0), (.int 0), (.int 0), (.int 0), (.int 0), (.int 0), (.int 0), (.int 0), (.int 0), (.int 0), (.int 0), (.int 0), (.int 0), (.int 0), (.int 0), (.int 0), (.int 0), (.int 0), (.int 0)]), (.lst []), (.int 0)]), (.tup [(.int 2), (.lst [(.int 0), (.int 0), (.int 0), (.int 0), (.int 0), (.int 0), (.int 0), (.int 0)]), (.lst [(.int 0), (.int 0), (.int 0), (.int 0), (.int 0), (.int 0), (.int 0), (.int 0), (.int 0), (.int 0), (.int 0), (.int 0), (.int 0), (.int 0), (.int 0), (.int 0), (.int 0), (.int 0), (.int 0), (.int 0), (.int 0), (.int 0), (.int 0), (.int 0), (.int 0), (.int 0), (.int 0), (.int 0), (.int 0), (.int 0), (.int 0), (.int 0)]), (.lst [(.int 256)]), (.int 0)]), (.tup [(.int 2), (.lst [(.int 0), (.int 0), (.int 0), (.int 0), (.int 0), (.int 0), (.int 0), (.int 0)]), (.lst [(.int 0), (.int 0), (.int 0), (.int 0), (.int 0), (.int 0), (.int 0), (.int 0), (.int 0), (.int 0), (.int 0), (.int 0), (.int 0), (.int 0), (.int 0), (.int 0), (.int 0), (.int 0), (.int 0), (.int 0), (.int 0), (.int 0), (.int 0), (.int 0), (.int 0), (.int 0), (.int 0), (.int 0), (.int 0), (.int 0), (.int 0), (.int 0)]), (.lst []), (.int (-1))]), (.tup [(.int 2), (.lst [(.int 0), (.int 0), (.int 0), (.int 0), (.int 0), (.int 0), (.int 0), (.int 0)]), (.lst [(.int 0), (.int 0), (.int 0), (.int 0), (.int 0), (.int 0), (.int 0), (.int 0), (.int 0), (.int 0), (.int 0), (.int 0), (.int 0), (.int 0), (.int 0), (.int 0), (.int 0), (.int 0), (.int 0), (.int 0), (.int 0), (.int 0), (.int 0), (.int 0), (.int 0), (.int 0), (.int 0), (.int 0), (.int 0), (.int 0), (.int 0), (.int 0)]), (.lst []), (.bl true)]), (.tup [(.int 2), (.lst [(.int 0), (.int 0), (.int 0), (.int 0), (.int 0), (.int 0), (.int 0), (.int 0)]), (.lst [(.int 0), (.int 0), (.int 0), (.int 0), (.int 0), (.int 0), (.int 0), (.int 0), (.int 0), (.int 0), (.int 0), (.int 0), (.int 0), (.int 0), (.int 0), (.int 0), (.int 0), (.int 0), (.int 0), (.int 0), (.int 0), (.int 0), (.int 0), (.int 0), (.int 0), (.int 0), (.int 0), (.int 0), (.int 0), (.int 0), (.int 0), (.int 0)]), (.lst []), (.int 0), (.int 0)])])), none], [none, none, none, none, none, (some 0)], 0⟩ seg3 ⟨[.dead, .dead, (.lst [(.fn 2), (.clo 0 []), (.clo 1 []), (.clo 2 []), (.clo 3 []), (.clo 4 []), (.clo 5 []), (.clo 6 [])]), (.lst [(.clo 7 [0]), (.clo 8 [0]), (.clo 9 [0]), (.clo 10 [0]), (.clo 11 [0])])], [(some (someV 7))]⟩ = .ok (.nxt, ⟨[none, (some (.ref 1)), (some (.ref 4)), (some (.tup [(.int 2), (.lst [(.int 0), (.int 0), (.int 0), (.int 0), (.int 0), (.int 0), (.int 0), (.int 0)]), (.lst [(.int 0), (.int 0), (.int 0), (.int 0), (.int 0), (.int 0), (.int 0), (.int 0), (.int 0), (.int 0), (.int 0), (.int 0), (.int 0), (.int 0), (.int 0), (.int 0), (.int 0), (.int 0), (.int 0), (.int 0), (.int 0), (.int 0), (.int 0), (.int 0), (.int 0), (.int 0), (.int 0), (.int 0), (.int 0), (.int 0), (.int 0), (.int 0)]), (.lst []), (.int 0)])), (some (.lst [.non, (.int 5), (.dic [] []), (.tup []), (.tup [(.int 2), (.lst [(.int 0), (.int 0), (.int 0), (.int 0), (.int 0), (.int 0), (.int 0), (.int 0)]), (.lst [(.int 0), (.int 0), (.int 0), (.int 0), (.int 0), (.int 0), (.int 0), (.int 0), (.int 0), (.int 0), (.int 0), (.int 0), (.int 0), (.int 0), (.int 0), (.int 0), (.int 0), (.int 0), (.int 0), (.int 0), (.int 0), (.int 0), (.int 0), (.int 0), (.int 0), (.int 0), (.int 0), (.int 0), (.int 0), (.int 0), (.int 0), (.int 0)]), (.lst [])]), (.tup [(.int 3), (.lst [(.int 0), (.int 0), (.int 0), (.int 0), (.int 0), (.int 0), (.int 0), (.int 0)]), (.lst [(.int 0), (.int 0), (.int 0), (.int 0), (.int 0), (.int 0), (.int 0), (.int 0), (.int 0), (.int 0), (.int 0), (.int 0), (.int 0), (.int 0), (.int 0), (.int 0), (.int 0), (.int 0), (.int 0), (.int 0), (.int 0), (.int 0), (.int 0), (.int 0), (.int 0), (.int 0), (.int 0), (.int 0), (.int 0), (.int 0), (.int 0), (.int 0)]), (.lst []), (.int 0)]), (.tup [(.int 2), (.lst [(.int 0), (.int 0), (.int 0), (.int 0), (.int 0), (.int 0), (.int 0)]), (.lst [(.int 0), (.int 0), (.int 0), (.int 0), (.int 0), (.int 0), (.int 0), (.int 0), (.int 0), (.int 0), (.int 0), (.int 0), (.int 0), (.int 0), (.int 0), (.int 0), (.int 0), (.int 0), (.int 0), (.int 0), (.int 0), (.int 0), (.int 0), (.int 0), (.int 0), (.int 0), (.int 0), (.int 0), (.int 0), (.int 0), (.int 0), (.int 0)]), (.lst []), (.int 0)]), (.tup [(.int 2), (.lst [(.int 0), (.int 0), (.int 0), (.int 0), (.int 0), (.int 0), (.int 0), (.int 0)]), (.lst [(.int 0), (.int 0), (.int 0), (.int 0), (.int 0), (.int 0), (.int 0), (.int 0), (.int 0), (.int 0), (.int 0), (.int 0), (.int 0), (.int 0), (.int 0), (.int 0), (.int 0), (.int 0), (.int 0), (.int 0), (.int 0), (.int 0), (.int 0), (.int 0), (.int 0), (.int 0), (.int 0), (.int 0), (.int 0), (.int 0), (.int 0), (.int 0), (.int 0)]), (.lst []), (.int 0)]), (.tup [(.int 2), (.lst [(.int 0), (.int 0), (.int 0), (.int 0), (.int 0), (.int 0), (.int 0), (.int 0)]), (.lst [(.int 0), (.int 0), (.int 0), (.int 0), (.int 0), (.int 0), (.int 0), (.int 0), (.int 0), (.int 0), (.int 0), (.int 0), (.int 0), (.int 0), (.int 0), (.int 0), (.int 0), (.int 0), (.int 0), (.int 0), (.int 0), (.int 0), (.int 0), (.int 0), (.int 0), (.int 0), (.int 0), (.int 0), (.int 0), (.int 0), (.int 0), (.int 0)]), (.lst [(.int 256)]), (.int 0)]), (.tup [(.int 2), (.lst [(.int 0), (.int 0), (.int 0), (.int 0), (.int 0), (.int 0), (.int 0), (.int 0)]), (.lst [(.int 0), (.int 0), (.int 0), (.int 0), (.int 0), (.int 0), (.int 0), (.int 0), (.int 0), (.int 0), (.int 0), (.int 0), (.int 0), (.int 0), (.int 0), (.int 0), (.int 0), (.int 0), (.int 0), (.int 0), (.int 0), (.int 0), (.int 0), (.int 0), (.int 0), (.int 0), (.int 0), (.int 0), (.int 0), (.int 0), (.int 0), (.int 0)]), (.lst []), (.int (-1))]), (.tup [(.int 2), (.lst [(.int 0), (.int 0), (.int 0), (.int 0), (.int 0), (.int 0), (.int 0), (.int 0)]), (.lst [(.int 0), (.int 0), (.int 0), (.int 0), (.int 0), (.int 0), (.int 0), (.int 0), (.int 0), (.int 0), (.int 0), (.int 0), (.int 0), (.int 0), (.int 0), (.int 0), (.int 0), (.int 0), (.int 0), (.int 0), (.int 0), (.int 0), (.int 0), (.int 0), (.int 0), (.int 0), (.int 0), (.int 0), (.int 0), (.int 0), (.int 0), (.int 0)]), (.lst []), (.bl true)]), (.tup [(.int 2), (.lst [(.int 0), (.int 0), (.int 0), (.int 0), (.int 0), (.int 0), (.int 0), (.int 0)]), (.lst [(.int 0), (.int 0), (.int 0), (.int 0), (.int 0), (.int 0), (.int 0), (.int 0), (.int 0), (.int 0), (.int 0), (.int 0), (.int 0), (.int 0), (.int 0), (.int 0), (.int 0), (.int 0), (.int 0), (.int 0), (.int 0), (.int 0), (.int 0), (.int 0), (.int 0), (.int 0), (.int 0), (.int 0), (.int 0), (.int 0), (.int 0), (.int 0)]), (.lst []), (.int 0), (.int 0)])])), none], [none, none, none, none, none, (some 0)], 0⟩) ⟨[.dead, .dead, (.lst [(.fn 2), (.clo 0 []), (.clo 1 []), (.clo 2 []), (.clo 3 []), (.clo 4 []), (.clo 5 []), (.clo 6 [])]), (.lst [(.clo 7 [0]), (.clo 8 [0]), (.clo 9 [0]), (.clo 10 [0]), (.clo 11 [0])]), (.lst [(.clo 13 [0]), (.clo 14 [0]), (.clo 15 [0])])], [(some (someV 7))]⟩ := by kernel_rfl
theorem p4_0 : good ((ev P 120).s ⟨[none, (some (.ref 1)), (some (.ref 4)), (some (.tup [(.int 2), (.lst [(.int 0), (.int 0), (.int 0), (.int 0), (.int 0), (.int 0), (.int 0), (.int 0)]), (.lst [(.int 0), (.int 0), (.int 0), (.int 0), (.int 0), (.int 0), (.int 0), (.int 0), (.int 0), (.int 0), (.int 0), (.int 0), (.int 0), (.int 0), (.int 0), (.int 0), (.int 0), (.int 0), (.int 0), (.int 0), (.int 0), (.int 0), (.int 0), (.int 0), (.int 0), (.int 0), (.int 0), (.int 0), (.int 0), (.int 0), (.int 0), (.int 0)]), (.lst []), (.int 0)])), (some (.lst [.non, (.int 5), (.dic [] []), (.tup []), (.tup [(.int 2), (.lst [(.int 0), (.int 0), (.int 0), (.int 0), (.int 0), (.int 0), (.int 0), (.int 0)]), (.lst [(.int 0), (.int 0), (.int 0), (.int 0), (.int 0), (.int 0), (.int 0), (.int 0), (.int 0), (.int 0), (.int 0), (.int 0), (.int 0), (.int 0), (.int 0), (.int 0), (.int 0), (.int 0), (.int 0), (.int 0), (.int 0), (.int 0), (.int 0), (.int 0), (.int 0), (.int 0), (.int 0), (.int 0), (.int 0), (.int 0), (.int 0), (.int 0)]), (.lst [])]), (.tup [(.int 3), (.lst [(.int 0), (.int 0), (.int 0), (.int 0), (.int 0), (.int 0), (.int 0), (.int 0)]), (.lst [(.int 0), (.int 0), (.int 0), (.int 0), (.int 0), (.int 0), (.int 0), (.int 0), (.int 0), (.int 0), (.int 0), (.int 0), (.int 0), (.int 0), (.int 0), (.int 0), (.int 0), (.int 0), (.int 0), (.int 0), (.int 0), (.int 0), (.int 0), (.int 0), (.int 0), (.int 0), (.int 0), (.int 0), (.int 0), (.int 0), (.int 0), (.int 0)]), (.lst []), (.int 0)]), (.tup [(.int 2), (.lst [(.int 0), (.int 0), (.int 0), (.int 0), (.int 0), (.int 0), (.int 0)]), (.lst [(.int 0), (.int 0), (.int 0), (.int 0), (.int 0), (.int 0), (.int 0), (.int 0), (.int 0), (.int 0), (.int 0), (.int 0), (.int 0), (.int 0), (.int 0), (.int 0), (.int 0), (.int 0), (.int 0), (.int 0), (.int 0), (.int 0), (.int 0), (.int 0), (.int 0), (.int 0), (.int 0), (.int 0), (.int 0), (.int 0), (.int 0), (.int 0)]), (.lst []), (.int 0)]), (.tup [(.int 2), (.lst [(.int 0), (.int 0), (.int 0), (.int 0), (.int 0), (.int 0), (.int 0), (.int 0)]), (.lst [(.int 0), (.int 0), (.int 0), (.int 0), (.int 0), (.int 0), (.int 0), (.int 0), (.int 0), (.int 0), (.int 0), (.int 0), (.int 0), (.int 0), (.int 0), (.int 0), (.int 0), (.int 0), (.int 0), (.int 0), (.int 0), (.int 0), (.int 0), (.int 0), (.int 0), (.int 0), (.int 0), (.int 0), (.int 0), (.int 0), (.int 0), (.int 0), (.int 0)]), (.lst []), (.int 0)]), (.tup [(.int 2), (.lst [(.int 0), (.int 0), (.int 0), (.int 0), (.int 0), (.int 0), (.int 0), (.int 0)]), (.lst [(.int 0), (.int 0), (.int 0), (.int 0), (.int 0), (.int 0), (.int 0), (.int 0), (.int 0), (.int 0), (.int 0), (.int 0), (.int 0), (.int 0), (.int 0), (.int 0), (.int 0), (.int 0), (.int 0), (.int 0), (.int 0), (.int 0), (.int 0), (.int 0), (.int 0), (.int 0), (.int 0), (.int 0), (.int 0), (.int 0), (.int 0), (.int 0)]), (.lst [(.int 256)]), (.int 0)]), (.tup [(.int 2), (.lst [(.int 0), (.int 0), (.int 0), (.int 0), (.int 0), (.int 0), (.int 0), (.int 0)]), (.lst [(.int 0), (.int 0), (.int 0), (.int 0), (.int 0), (.int 0), (.int 0), (.int 0), (.int 0), (.int 0), (.int 0), (.int 0), (.int 0), (.int 0), (.int 0), (.int 0), (.int 0), (.int 0), (.int 0), (.int 0), (.int 0), (.int 0), (.int 0), (.int 0), (.int 0), (.int 0), (.int 0), (.int 0), (.int 0), (.int 0), (.int 0), (.int 0)]), (.lst []), (.int (-1))]), (.tup [(.int 2), (.lst [(.int 0), (.int 0), (.int 0), (.int 0), (.int 0), (.int 0), (.int 0), (.int 0)]), (.lst [(.int 0), (.int 0), (.int 0), (.int 0), (.int 0), (.int 0), (.int 0), (.int 0), (.int 0), (.int 0), (.int 0), (.int 0), (.int 0), (.int 0), (.int 0), (.int 0), (.int 0), (.int 0), (.int 0), (.int 0), (.int 0), (.int 0), (.int 0), (.int 0), (.int 0), (.int 0), (.int 0), (.int 0), (.int 0), (.int 0), (.int 0), (.int 0)]), (.lst []), (.bl true)]), (.tup [(.int 2), (.lst [(.int 0), (.int 0), (.int 0), (.int 0), (.int 0), (.int 0), (.int 0), (.int 0)]), (.lst [(.int 0), (.int 0), (.int 0), (.int 0), (.int 0), (.int 0), (.int 0), (.int 0), (.int 0), (.int 0), (.int 0), (.int 0), (.int 0), (.int 0), (.int 0), (.int 0), (.int 0), (.int 0), (.int 0), (.int 0), (.int 0), (.int 0), (.int 0), (.int 0), (.int 0), (.int 0), (.int 0), (.int 0), (.int 0), (.int 0), (.int 0), (.int 0)]), (.lst []), (.int 0), (.int 0)])])), none], [none, none, none, none, none, (some 0)], 0⟩ seg4 ⟨[.dead, .dead, (.lst [(.fn 2), (.clo 0 []), (.clo 1 []), (.clo 2 []), (.clo 3 []), (.clo 4 []), (.clo 5 []), (.clo 6 [])]), (.lst [(.clo 7 [0]), (.clo 8 [0]), (.clo 9 [0]), (.clo 10 [0]), (.clo 11 [0])]), (.lst [(.clo 13 [0]), (.clo 14 [0]), (.clo 15 [0])])], [(some (someV 0))]⟩) = true := by decide +kernel
theorem p4_1 : good ((ev P 120).s ⟨[none, (some (.ref 1)), (some (.ref 4)), (some (.tup [(.int 2), (.lst [(.int 0), (.int 0), (.int 0), (.int 0), (.int 0), (.int 0), (.int 0), (.int 0)]), (.lst [(.int 0), (.int 0), (.int 0), (.int 0), (.int 0), (.int 0), (.int 0), (.int 0), (.int 0), (.int 0), (.int 0), (.int 0), (.int 0), (.int 0), (.int 0), (.int 0), (.int 0), (.int 0), (.int 0), (.int 0), (.int 0), (.int 0), (.int 0), (.int 0), (.int 0), (.int 0), (.int 0), (.int 0), (.int 0), (.int 0), (.int 0), (.int 0)]), (.lst []), (.int 0)])), (some (.lst [.non, (.int 5), (.dic [] []), (.tup []), (.tup [(.int 2), (.lst [(.int 0), (.int 0), (.int 0), (.int 0), (.int 0), (.int 0), (.int 0), (.int 0)]), (.lst [(.int 0), (.int 0), (.int 0), (.int 0), (.int 0), (.int 0), (.int 0), (.int 0), (.int 0), (.int 0), (.int 0), (.int 0), (.int 0), (.int 0), (.int 0), (.int 0), (.int 0), (.int 0), (.int 0), (.int 0), (.int 0), (.int 0), (.int 0), (.int 0), (.int 0), (.int 0), (.int 0), (.int 0), (.int 0), (.int 0), (.int 0), (.int 0)]), (.lst [])]), (.tup [(.int 3), (.lst [(.int 0), (.int 0), (.int 0), (.int 0), (.int 0), (.int 0), (.int 0), (.int 0)]), (.lst [(.int 0), (.int 0), (.int 0), (.int 0), (.int 0), (.int 0), (.int 0), (.int 0), (.int 0), (.int 0), (.int 0), (.int 0), (.int 0), (.int 0), (.int 0), (.int 0), (.int 0), (.int 0), (.int 0), (.int 0), (.int 0), (.int 0), (.int 0), (.int 0), (.int 0), (.int 0), (.int 0), (.int 0), (.int 0), (.int 0), (.int 0), (.int 0)]), (.lst []), (.int 0)]), (.tup [(.int 2), (.lst [(.int 0), (.int 0), (.int 0), (.int 0), (.int 0), (.int 0), (.int 0)]), (.lst [(.int 0), (.int 0), (.int 0), (.int 0), (.int 0), (.int 0), (.int 0), (.int 0), (.int 0), (.int 0), (.int 0), (.int 0), (.int 0), (.int 0), (.int 0), (.int 0), (.int 0), (.int 0), (.int 0), (.int 0), (.int 0), (.int 0), (.int 0), (.int 0), (.int 0), (.int 0), (.int 0), (.int 0), (.int 0), (.int 0), (.int 0), (.int 0)]), (.lst []), (.int 0)]), (.tup [(.int 2), (.lst [(.int 0), (.int 0), (.int 0), (.int 0), (.int 0), (.int 0), (.int 0), (.int 0)]), (.lst [(.int 0), (.int 0), (.int 0), (.int 0), (.int 0), (.int 0), (.int 0), (.int 0), (.int 0), (.int 0), (.int 0), (.int 0), (.int 0), (.int 0), (.int 0), (.int 0), (.int 0), (.int 0), (.int 0), (.int 0), (.int 0), (.int 0), (.int 0), (.int 0), (.int 0), (.int 0), (.int 0), (.int 0), (.int 0), (.int 0), (.int 0), (.int 0), (.int 0)]), (.lst []), (.int 0)]), (.tup [(.int 2), (.lst [(.int 0), (.int 0), (.int 0), (.int 0), (.int 0), (.int 0), (.int 0), (.int 0)]), (.lst [(.int 0), (.int 0), (.int 0), (.int 0), (.int 0), (.int 0), (.int 0), (.int 0), (.int 0), (.int 0), (.int 0), (.int 0), (.int 0), (.int 0), (.int 0), (.int 0), (.int 0), (.int 0), (.int 0), (.int 0), (.int 0), (.int 0), (.int 0), (.int 0), (.int 0), (.int 0), (.int 0), (.int 0), (.int 0), (.int 0), (.int 0), (.int 0)]), (.lst [(.int 256)]), (.int 0)]), (.tup [(.int 2), (.lst [(.int 0), (.int 0), (.int 0), (.int 0), (.int 0), (.int 0), (.int 0), (.int 0)]), (.lst [(.int 0), (.int 0), (.int 0), (.int 0), (.int 0), (.int 0), (.int 0), (.int 0), (.int 0), (.int 0), (.int 0), (.int 0), (.int 0), (.int 0), (.int 0), (.int 0), (.int 0), (.int 0), (.int 0), (.int 0), (.int 0), (.int 0), (.int 0), (.int 0), (.int 0), (.int 0), (.int 0), (.int 0), (.int 0), (.int 0), (.int 0), (.int 0)]), (.lst []), (.int (-1))]), (.tup [(.int 2), (.lst [(.int 0), (.int 0), (.int 0), (.int 0), (.int 0), (.int 0), (.int 0), (.int 0)]), (.lst [(.int 0), (.int 0), (.int 0), (.int 0), (.int 0), (.int 0), (.int 0), (.int 0), (.int 0), (.int 0), (.int 0), (.int 0), (.int 0), (.int 0), (.int 0), (.int 0), (.int 0), (.int 0), (.int 0), (.int 0), (.int 0), (.int 0), (.int 0), (.int 0), (.int 0), (.int 0), (.int 0), (.int 0), (.int 0), (.int 0), (.int 0), (.int 0)]), (.lst []), (.bl true)]), (.tup [(.int 2), (.lst [(.int 0), (.int 0), (.int 0), (.int 0), (.int 0), (.int 0), (.int 0), (.int 0)]), (.lst [(.int 0), (.int 0), (.int 0), (.int 0), (.int 0), (.int 0), (.int 0), (.int 0), (.int 0), (.int 0), (.int 0), (.int 0), (.int 0), (.int 0), (.int 0), (.int 0), (.int 0), (.int 0), (.int 0), (.int 0), (.int 0), (.int 0), (.int 0), (.int 0), (.int 0), (.int 0), (.int 0), (.int 0), (.int 0), (.int 0), (.int 0), (.int 0)]), (.lst []), (.int 0), (.int 0)])])), none], [none, none, none, none, none, (some 0)], 0⟩ seg4 ⟨[.dead, .dead, (.lst [(.fn 2), (.clo 0 []), (.clo 1 []), (.clo 2 []), (.clo 3 []), (.clo 4 []), (.clo 5 []), (.clo 6 [])]), (.lst [(.clo 7 [0]), (.clo 8 [0]), (.clo 9 [0]), (.clo 10 [0]), (.clo 11 [0])]), (.lst [(.clo 13 [0]), (.clo 14 [0]), (.clo 15 [0])])], [(some (someV 1))]⟩) = true := by decide +kernel
theorem p4_2 : good ((ev P 120).s ⟨[none, (some (.ref 1)), (some (.ref 4)), (some (.tup [(.int 2), (.lst [(.int 0), (.int 0), (.int 0), (.int 0), (.int 0), (.int 0), (.int 0), (.int 0)]), (.lst [(.int 0), (.int 0), (.int 0), (.int 0), (.int 0), (.int 0), (.int 0), (.int 0), (.int 0), (.int 0), (.int 0), (.int 0), (.int 0), (.int 0), (.int 0), (.int 0), (.int 0), (.int 0), (.int 0), (.int 0), (.int 0), (.int 0), (.int 0), (.int 0), (.int 0), (.int 0), (.int 0), (.int 0), (.int 0), (.int 0), (.int 0), (.int 0)]), (.lst []), (.int 0)])), (some (.lst [.non, (.int 5), (.dic [] []), (.tup []), (.tup [(.int 2), (.lst [(.int 0), (.int 0), (.int 0), (.int 0), (.int 0), (.int 0), (.int 0), (.int 0)]), (.lst [(.int 0), (.int 0), (.int 0), (.int 0), (.int 0), (.int 0), (.int 0), (.int 0), (.int 0), (.int 0), (.int 0), (.int 0), (.int 0), (.int 0), (.int 0), (.int 0), (.int 0), (.int 0), (.int 0), (.int 0), (.int 0), (.int 0), (.int 0), (.int 0), (.int 0), (.int 0), (.int 0), (.int 0), (.int 0), (.int 0), (.int 0), (.int 0)]), (.lst [])]), (.tup [(.int 3), (.lst [(.int 0), (.int 0), (.int 0), (.int 0), (.int 0), (.int 0), (.int 0), (.int 0)]), (.lst [(.int 0), (.int 0), (.int 0), (.int 0), (.int 0), (.int 0), (.int 0), (.int 0), (.int 0), (.int 0), (.int 0), (.int 0), (.int 0), (.int 0), (.int 0), (.int 0), (.int 0), (.int 0), (.int 0), (.int 0), (.int 0), (.int 0), (.int 0), (.int 0), (.int 0), (.int 0), (.int 0), (.int 0), (.int 0), (.int 0), (.int 0), (.int 0)]), (.lst []), (.int 0)]), (.tup [(.int 2), (.lst [(.int 0), (.int 0), (.int 0), (.int 0), (.int 0), (.int 0), (.int 0)]), (.lst [(.int 0), (.int 0), (.int 0), (.int 0), (.int 0), (.int 0), (.int 0), (.int 0), (.int 0), (.int 0), (.int 0), (.int 0), (.int 0), (.int 0), (.int 0), (.int 0), (.int 0), (.int 0), (.int 0), (.int 0), (.int 0), (.int 0), (.int 0), (.int 0), (.int 0), (.int 0), (.int 0), (.int 0), (.int 0), (.int 0), (.int 0), (.int 0)]), (.lst []), (.int 0)]), (.tup [(.int 2), (.lst [(.int 0), (.int 0), (.int 0), (.int 0), (.int 0), (.int 0), (.int 0), (.int 0)]), (.lst [(.int 0), (.int 0), (.int 0), (.int 0), (.int 0), (.int 0), (.int 0), (.int 0), (.int 0), (.int 0), (.int 0), (.int 0), (.int 0), (.int 0), (.int 0), (.int 0), (.int 0), (.int 0), (.int 0), (.int 0), (.int 0), (.int 0), (.int 0), (.int 0), (.int 0), (.int 0), (.int 0), (.int 0), (.int 0), (.int 0), (.int 0), (.int 0), (.int 0)]), (.lst []), (.int 0)]), (.tup [(.int 2), (.lst [(.int 0), (.int 0), (.int 0), (.int 0), (.int 0), (.int 0), (.int 0), (.int 0)]), (.lst [(.int 0), (.int 0), (.int 0), (.int 0), (.int 0), (.int 0), (.int 0), (.int 0), (.int 0), (.int 0), (.int 0), (.int 0), (.int 0), (.int 0), (.int 0), (.int 0), (.int 0), (.int 0), (.int 0), (.int 0), (.int 0), (.int 0), (.int 0), (.int 0), (.int 0), (.int 0), (.int 0), (.int 0), (.int 0), (.int 0), (.int 0), (.int 0)]), (.lst [(.int 256)]), (.int 0)]), (.tup [(.int 2), (.lst [(.int 0), (.int 0), (.int 0), (.int 0), (.int 0), (.int 0), (.int 0), (.int 0)]), (.lst [(.int 0), (.int 0), (.int 0), (.int 0), (.int 0), (.int 0), (.int 0), (.int 0), (.int 0), (.int 0), (.int 0), (.int 0), (.int 0), (.int 0), (.int 0), (.int 0), (.int 0), (.int 0), (.int 0), (.int 0), (.int 0), (.int 0), (.int 0), (.int 0), (.int 0), (.int 0), (.int 0), (.int 0), (.int 0), (.int 0), (.int 0), (.int 0)]), (.lst []), (.int (-1))]), (.tup [(.int 2), (.lst [(.int 0), (.int 0), (.int 0), (.int 0), (.int 0), (.int 0), (.int 0), (.int 0)]), (.lst [(.int 0), (.int 0), (.int 0), (.int 0), (.int 0), (.int 0), (.int 0), (.int 0), (.int 0), (.int 0), (.int 0), (.int 0), (.int 0), (.int 0), (.int 0), (.int 0), (.int 0), (.int 0), (.int 0), (.int 0), (.int 0), (.int 0), (.int 0), (.int 0), (.int 0), (.int 0), (.int 0), (.int 0), (.int 0), (.int 0), (.int 0), (.int 0)]), (.lst []), (.bl true)]), (.tup [(.int 2), (.lst [(.int 0), (.int 0), (.int 0), (.int 0), (.int 0), (.int 0), (.int 0), (.int 0)]), (.lst [(.int 0), (.int 0), (.int 0), (.int 0), (.int 0), (.int 0), (.int 0), (.int 0), (.int 0), (.int 0), (.int 0), (.int 0), (.int 0), (.int 0), (.int 0), (.int 0), (.int 0), (.int 0), (.int 0), (.int 0), (.int 0), (.int 0), (.int 0), (.int 0), (.int 0), (.int 0), (.int 0), (.int 0), (.int 0), (.int 0), (.int 0), (.int 0)]), (.lst []), (.int 0), (.int 0)])])), none], [none, none, none, none, none, (some 0)], 0⟩ seg4 ⟨[.dead, .dead, (.lst [(.fn 2), (.clo 0 []), (.clo 1 []), (.clo 2 []), (.clo 3 []), (.clo 4 []), (.clo 5 []), (.clo 6 [])]), (.lst [(.clo 7 [0]), (.clo 8 [0]), (.clo 9 [0]), (.clo 10 [0]), (.clo 11 [0])]), (.lst [(.clo 13 [0]), (.clo 14 [0]), (.clo 15 [0])])], [(some (someV 2))]⟩) = true := by decide +kernel
theorem p4_3 : good ((ev P 120).s ⟨[none, (some (.ref 1)), (some (.ref 4)), (some (.tup [(.int 2), (.lst [(.int 0), (.int 0), (.int 0), (.int 0), (.int 0), (.int 0), (.int 0), (.int 0)]), (.lst [(.int 0), (.int 0), (.int 0), (.int 0), (.int 0), (.int 0), (.int 0), (.int 0), (.int 0), (.int 0), (.int 0), (.int 0), (.int 0), (.int 0), (.int 0), (.int 0), (.int 0), (.int 0), (.int 0), (.int 0), (.int 0), (.int 0), (.int 0), (.int 0), (.int 0), (.int 0), (.int 0), (.int 0), (.int 0), (.int 0), (.int 0), (.int 0)]), (.lst []), (.int 0)])), (some (.lst [.non, (.int 5), (.dic [] []), (.tup []), (.tup [(.int 2), (.lst [(.int 0), (.int 0), (.int 0), (.int 0), (.int 0), (.int 0), (.int 0), (.int 0)]), (.lst [(.int 0), (.int 0), (.int 0), (.int 0), (.int 0), (.int 0), (.int 0), (.int 0), (.int 0), (.int 0), (.int 0), (.int 0), (.int 0), (.int 0), (.int 0), (.int 0), (.int 0), (.int 0), (.int 0), (.int 0), (.int 0), (.int 0), (.int 0), (.int 0), (.int 0), (.int 0), (.int 0), (.int 0), (.int 0), (.int 0), (.int 0), (.int 0)]), (.lst [])]), (.tup [(.int 3), (.lst [(.int 0), (.int 0), (.int 0), (.int 0), (.int 0), (.int 0), (.int 0), (.int 0)]), (.lst [(.int 0), (.int 0), (.int 0), (.int 0), (.int 0), (.int 0), (.int 0), (.int 0), (.int 0), (.int 0), (.int 0), (.int 0), (.int 0), (.int 0), (.int 0), (.int 0), (.int 0), (.int 0), (.int 0), (.int 0), (.int 0), (.int 0), (.int 0), (.int 0), (.int 0), (.int 0), (.int 0), (.int 0), (.int 0), (.int 0), (.int 0), (.int 0)]), (.lst []), (.int 0)]), (.tup [(.int 2), (.lst [(.int 0), (.int 0), (.int 0), (.int 0), (.int 0), (.int 0), (.int 0)]), (.lst [(.int 0), (.int 0), (.int 0), (.int 0), (.int 0), (.int 0), (.int 0), (.int 0), (.int 0), (.int 0), (.int 0), (.int 0), (.int 0), (.int 0), (.int 0), (.int 0), (.int 0), (.int 0), (.int 0), (.int 0), (.int 0), (.int 0), (.int 0), (.int 0), (.int 0), (.int 0), (.int 0), (.int 0), (.int 0), (.int 0), (.int 0), (.int 0)]), (.lst []), (.int 0)]), (.tup [(.int 2), (.lst [(.int 0), (.int 0), (.int 0), (.int 0), (.int 0), (.int 0), (.int 0), (.int 0)]), (.lst [(.int 0), (.int 0), (.int 0), (.int 0), (.int 0), (.int 0), (.int 0), (.int 0), (.int 0), (.int 0), (.int 0), (.int 0), (.int 0), (.int 0), (.int 0), (.int 0), (.int 0), (.int 0), (.int 0), (.int 0), (.int 0), (.int 0), (.int 0), (.int 0), (.int 0), (.int 0), (.int 0), (.int 0), (.int 0), (.int 0), (.int 0), (.int 0), (.int 0)]), (.lst []), (.int 0)]), (.tup [(.int 2), (.lst [(.int 0), (.int 0), (.int 0), (.int 0), (.int 0), (.int 0), (.int 0), (.int 0)]), (.lst [(.int 0), (.int 0), (.int 0), (.int 0), (.int 0), (.int 0), (.int 0), (.int 0), (.int 0), (.int 0), (.int 0), (.int 0), (.int 0), (.int 0), (.int 0), (.int 0), (.int 0), (.int 0), (.int 0), (.int 0), (.int 0), (.int 0), (.int 0), (.int 0), (.int 0), (.int 0), (.int 0), (.int 0), (.int 0), (.int 0), (.int 0), (.int 0)]), (.lst [(.int 256)]), (.int 0)]), (.tup [(.int 2), (.lst [(.int 0), (.int 0), (.int 0), (.int 0), (.int 0), (.int 0), (.int 0), (.int 0)]), (.lst [(.int 0), (.int 0), (.int 0), (.int 0), (.int 0), (.int 0), (.int 0), (.int 0), (.int 0), (.int 0), (.int 0), (.int 0), (.int 0), (.int 0), (.int 0), (.int 0), (.int 0), (.int 0), (.int 0), (.int 0), (.int 0), (.int 0), (.int 0), (.int 0), (.int 0), (.int 0), (.int 0), (.int 0), (.int 0), (.int 0), (.int 0), (.int 0)]), (.lst []), (.int (-1))]), (.tup [(.int 2), (.lst [(.int 0), (.int 0), (.int 0), (.int 0), (.int 0), (.int 0), (.int 0), (.int 0)]), (.lst [(.int 0), (.int 0), (.int 0), (.int 0), (.int 0), (.int 0), (.int 0), (.int 0), (.int 0), (.int 0), (.int 0), (.int 0), (.int 0), (.int 0), (.int 0), (.int 0), (.int 0), (.int 0), (.int 0), (.int 0), (.int 0), (.int 0), (.int 0), (.int 0), (.int 0), (.int 0), (.int 0), (.int 0), (.int 0), (.int 0), (.int 0), (.int 0)]), (.lst []), (.bl true)]), (.tup [(.int 2), (.lst [(.int 0), (.int 0), (.int 0), (.int 0), (.int 0), (.int 0), (.int 0), (.int 0)]), (.lst [(.int 0), (.int 0), (.int 0), (.int 0), (.int 0), (.int 0), (.int 0), (.int 0), (.int 0), (.int 0), (.int 0), (.int 0), (.int 0), (.int 0), (.int 0), (.int 0), (.int 0), (.int 0), (.int 0), (.int 0), (.int 0), (.int 0), (.int 0), (.int 0), (.int 0), (.int 0), (.int 0), (.int 0), (.int 0), (.int 0), (.int 0), (.int 0)]), (.lst []), (.int 0), (.int 0)])])), none], [none, none, none, none, none, (some 0)], 0⟩ seg4 ⟨[.dead, .dead, (.lst [(.fn 2), (.clo 0 []), (.clo 1 []), (.clo 2 []), (.clo 3 []), (.clo 4 []), (.clo 5 []), (.clo 6 [])]), (.lst [(.clo 7 [0]), (.clo 8 [0]), (.clo 9 [0]), (.clo 10 [0]), (.clo 11 [0])]), (.lst [(.clo 13 [0]), (.clo 14 [0]), (.clo 15 [0])])], [(some (someV 3))]⟩) = true := by decide +kernel
theorem p4_4 : good ((ev P 120).s ⟨[none, (some (.ref 1)), (some (.ref 4)), (some (.tup [(.int 2), (.lst [(.int 0), (.int 0), (.int 0), (.int 0), (.int 0), (.int 0), (.int 0), (.int 0)]), (.lst [(.int 0), (.int 0), (.int 0), (.int 0), (.int 0), (.int 0), (.int 0), (.int 0), (.int 0), (.int 0), (.int 0), (.int 0), (.int 0), (.int 0), (.int 0), (.int 0), (.int 0), (.int 0), (.int 0), (.int 0), (.int 0), (.int 0), (.int 0), (.int 0), (.int 0), (.int 0), (.int 0), (.int 0), (.int 0), (.int 0), (.int 0), (.int 0)]), (.lst []), (.int 0)])), (some (.lst [.non, (.int 5), (.dic [] []), (.tup []), (.tup [(.int 2), (.lst [(.int 0), (.int 0), (.int 0), (.int 0), (.int 0), (.int 0), (.int 0), (.int 0)]), (.lst [(.int 0), (.int 0), (.int 0), (.int 0), (.int 0), (.int 0), (.int 0), (.int 0), (.int 0), (.int 0), (.int 0), (.int 0), (.int 0), (.int 0), (.int 0), (.int 0), (.int 0), (.int 0), (.int 0), (.int 0), (.int 0), (.int 0), (.int 0), (.int 0), (.int 0), (.int 0), (.int 0), (.int 0), (.int 0), (.int 0), (.int 0), (.int 0)]), (.lst [])]), (.tup [(.int 3), (.lst [(.int 0), (.int 0), (.int 0), (.int 0), (.int 0), (.int 0), (.int 0), (.int 0)]), (.lst [(.int 0), (.int 0), (.int 0), (.int 0), (.int 0), (.int 0), (.int 0), (.int 0), (.int 0), (.int 0), (.int 0), (.int 0), (.int 0), (.int 0), (.int 0), (.int 0), (.int 0), (.int 0), (.int 0), (.int 0), (.int 0), (.int 0), (.int 0), (.int 0), (.int 0), (.int 0), (.int 0), (.int 0), (.int 0), (.int 0), (.int 0), (.int 0)]), (.lst []), (.int 0)]), (.tup [(.int 2), (.lst [(.int 0), (.int 0), (.int 0), (.int 0), (.int 0), (.int 0), (.int 0)]), (.lst [(.int 0), (.int 0), (.int 0), (.int 0), (.int 0), (.int 0), (.int 0), (.int 0), (.int 0), (.int 0), (.int 0), (.int 0), (.int 0), (.int 0), (.int 0), (.int 0), (.int 0), (.int 0), (.int 0), (.int 0), (.int 0), (.int 0), (.int 0), (.int 0), (.int 0), (.int 0), (.int 0), (.int 0), (.int 0), (.int 0), (.int 0), (.int 0)]), (.lst []), (.int 0)]), (.tup [(.int 2), (.lst [(.int 0), (.int 0), (.int 0), (.int 0), (.int 0), (.int 0), (.int 0), (.int 0)]), (.lst [(.int 0), (.int 0), (.int 0), (.int 0), (.int 0), (.int 0), (.int 0), (.int 0), (.int 0), (.int 0), (.int 0), (.int 0), (.int 0), (.int 0), (.int 0), (.int 0), (.int 0), (.int 0), (.int 0), (.int 0), (.int 0), (.int 0), (.int 0), (.int 0), (.int 0), (.int 0), (.int 0), (.int 0), (.int 0), (.int 0), (.int 0), (.int 0), (.int 0)]), (.lst []), (.int 0)]), (.tup [(.int 2), (.lst [(.int 0), (.int 0), (.int 0), (.int 0), (.int 0), (.int 0), (.int 0), (.int 0)]), (.lst [(.int 0), (.int 0), (.int 0), (.int 0), (.int 0), (.int 0), (.int 0), (.int 0), (.int 0), (.int 0), (.int 0), (.int 0), (.int 0), (.int 0), (.int 0), (.int 0), (.int 0), (.int 0), (.int 0), (.int 0), (.int 0), (.int 0), (.int 0), (.int 0), (.int 0), (.int 0), (.int 0), (.int 0), (.int 0), (.int 0), (.int 0), (.int 0)]), (.lst [(.int 256)]), (.int 0)]), (.tup [(.int 2), (.lst [(.int 0), (.int 0), (.int 0), (.int 0), (.int 0), (.int 0), (.int 0), (.int 0)]), (.lst [(.int 0), (.int 0), (.int 0), (.int 0), (.int 0), (.int 0), (.int 0), (.int 0), (.int 0), (.int 0), (.int 0), (.int 0), (.int 0), (.int 0), (.int 0), (.int 0), (.int 0), (.int 0), (.int 0), (.int 0), (.int 0), (.int 0), (.int 0), (.int 0), (.int 0), (.int 0), (.int 0), (.int 0), (.int 0), (.int 0), (.int 0), (.int 0)]), (.lst []), (.int (-1))]), (.tup [(.int 2), (.lst [(.int 0), (.int 0), (.int 0), (.int 0), (.int 0), (.int 0), (.int 0), (.int 0)]), (.lst [(.int 0), (.int 0), (.int 0), (.int 0), (.int 0), (.int 0), (.int 0), (.int 0), (.int 0), (.int 0), (.int 0), (.int 0), (.int 0), (.int 0), (.int 0), (.int 0), (.int 0), (.int 0), (.int 0), (.int 0), (.int 0), (.int 0), (.int 0), (.int 0), (.int 0), (.int 0), (.int 0), (.int 0), (.int 0), (.int 0), (.int 0), (.int 0)]), (.lst []), (.bl true)]), (.tup [(.int 2), (.lst [(.int 0), (.int 0), (.int 0), (.int 0), (.int 0), (.int 0), (.int 0), (.int 0)]), (.lst [(.int 0), (.int 0), (.int 0), (.int 0), (.int 0), (.int 0), (.int 0), (.int 0), (.int 0), (.int 0), (.int 0), (.int 0), (.int 0), (.int 0), (.int 0), (.int 0), (.int 0), (.int 0), (.int 0), (.int 0), (.int 0), (.int 0), (.int 0), (.int 0), (.int 0), (.int 0), (.int 0), (.int 0), (.int 0), (.int 0), (.int 0), (.int 0)]), (.lst []), (.int 0), (.int 0)])])), none], [none, none, none, none, none, (some 0)], 0⟩ seg4 ⟨[.dead, .dead, (.lst [(.fn 2), (.clo 0 []), (.clo 1 []), (.clo 2 []), (.clo 3 []), (.clo 4 []), (.clo 5 []), (.clo 6 [])]), (.lst [(.clo 7 [0]), (.clo 8 [0]), (.clo 9 [0]), (.clo 10 [0]), (.clo 11 [0])]), (.lst [(.clo 13 [0]), (.clo 14 [0]), (.clo 15 [0])])], [(some (someV 4))]⟩) = true := by decide +kernel
theorem p4_5 : good ((ev P 120).s ⟨[none, (some (.ref 1)), (some (.ref 4)), (some (.tup [(.int 2), (.lst [(.int 0), (.int 0), (.int 0), (.int 0), (.int 0), (.int 0), (.int 0), (.int 0)]), (.lst [(.int 0), (.int 0), (.int 0), (.int 0), (.int 0), (.int 0), (.int 0), (.int 0), (.int 0), (.int 0), (.int 0), (.int 0), (.int 0), (.int 0), (.int 0), (.int 0), (.int 0), (.int 0), (.int 0), (.int 0), (.int 0), (.int 0), (.int 0), (.int 0), (.int 0), (.int 0), (.int 0), (.int 0), (.int 0), (.int 0), (.int 0), (.int 0)]), (.lst []), (.int 0)])), (some (.lst [.non, (.int 5), (.dic [] []), (.tup []), (.tup [(.int 2), (.lst [(.int 0), (.int 0), (.int 0), (.int 0), (.int 0), (.int 0), (.int 0), (.int 0)]), (.lst [(.int 0), (.int 0), (.int 0), (.int 0), (.int 0), (.int 0), (.int 0), (.int 0), (.int 0), (.int 0), (.int 0), (.int 0), (.int 0), (.int 0), (.int 0), (.int 0), (.int 0), (.int 0), (.int 0), (.int 0), (.int 0), (.int 0), (.int 0), (.int 0), (.int 0), (.int 0), (.int 0), (.int 0), (.int 0), (.int 0), (.int 0), (.int 0)]), (.lst [])]), (.tup [(.int 3), (.lst [(.int 0), (.int 0), (.int 0), (.int 0), (.int 0), (.int 0), (.int 0), (.int 0)]), (.lst [(.int 0), (.int 0), (.int 0), (.int 0), (.int 0), (.int 0), (.int 0), (.int 0), (.int 0), (.int 0), (.int 0), (.int 0), (.int 0), (.int 0), (.int 0), (.int 0), (.int 0), (.int 0), (.int 0), (.int 0), (.int 0), (.int 0), (.int 0), (.int 0), (.int 0), (.int 0), (.int 0), (.int 0), (.int 0), (.int 0), (.int 0), (.int 0)]), (.lst []), (.int 0)]), (.tup [(.int 2), (.lst [(.int 0), (.int 0), (.int 0), (.int 0), (.int 0), (.int 0), (.int 0)]), (.lst [(.int 0), (.int 0), (.int 0), (.int 0), (.int 0), (.int 0), (.int 0), (.int 0), (.int 0), (.int 0), (.int 0), (.int 0), (.int 0), (.int 0), (.int 0), (.int 0), (.int 0), (.int 0), (.int 0), (.int 0), (.int 0), (.int 0), (.int 0), (.int 0), (.int 0), (.int 0), (.int 0), (.int 0), (.int 0), (.int 0), (.int 0), (.int 0)]), (.lst []), (.int 0)]), (.tup [(.int 2), (.lst [(.int 0), (.int 0), (.int 0), (.int 0), (.int 0), (.int 0), (.int 0), (.int 0)]), (.lst [(.int 0), (.int 0), (.int 0), (.int 0), (.int 0), (.int 0), (.int 0), (.int 0), (.int 0), (.int 0), (.int 0), (.int 0), (.int 0), (.int 0), (.int 0), (.int 0), (.int 0), (.int 0), (.int 0), (.int 0), (.int 0), (.int 0), (.int 0), (.int 0), (.int 0), (.int 0), (.int 0), (.int 0), (.int 0), (.int 0), (.int 0), (.int 0), (.int 0)]), (.lst []), (.int 0)]), (.tup [(.int 2), (.lst [(.int 0), (.int 0), (.int 0), (.int 0), (.int 0), (.int 0), (.int 0), (.int 0)]), (.lst [(.int 0), (.int 0), (.int 0), (.int 0), (.int 0), (.int 0), (.int 0), (.int 0), (.int 0), (.int 0), (.int 0), (.int 0), (.int 0), (.int 0), (.int 0), (.int 0), (.int 0), (.int 0), (.int 0), (.int 0), (.int 0), (.int 0), (.int 0), (.int 0), (.int 0), (.int 0), (.int 0), (.int 0), (.int 0), (.int 0), (.int 0), (.int 0)]), (.lst [(.int 256)]), (.int 0)]), (.tup [(.int 2), (.lst [(.int 0), (.int 0), (.int 0), (.int 0), (.int 0), (.int 0), (.int 0), (.int 0)]), (.lst [(.int 0), (.int 0), (.int 0), (.int 0), (.int 0), (.int 0), (.int 0), (.int 0), (.int 0), (.int 0), (.int 0), (.int 0), (.int 0), (.int 0), (.int 0), (.int 0), (.int 0), (.int 0), (.int 0), (.int 0), (.int 0), (.int 0), (.int 0), (.int 0), (.int 0), (.int 0), (.int 0), (.int 0), (.int 0), (.int 0), (.int 0), (.int 0)]), (.lst []), (.int (-1))]), (.tup [(.int 2), (.lst [(.int 0), (.int 0), (.int 0), (.int 0), (.int 0), (.int 0), (.int 0), (.int 0)]), (.lst [(.int 0), (.int 0), (.int 0), (.int 0), (.int 0), (.int 0), (.int 0), (.int 0), (.int 0), (.int 0), (.int 0), (.int 0), (.int 0), (.int 0), (.int 0), (.int 0), (.int 0), (.int 0), (.int 0), (.int 0), (.int 0), (.int 0), (.int 0), (.int 0), (.int 0), (.int 0), (.int 0), (.int 0), (.int 0), (.int 0), (.int 0), (.int 0)]), (.lst []), (.bl true)]), (.tup [(.int 2), (.lst [(.int 0), (.int 0), (.int 0), (.int 0), (.int 0), (.int 0), (.int 0), (.int 0)]), (.lst [(.int 0), (.int 0), (.int 0), (.int 0), (.int 0), (.int 0), (.int 0), (.int 0), (.int 0), (.int 0), (.int 0), (.int 0), (.int 0), (.int 0), (.int 0), (.int 0), (.int 0), (.int 0), (.int 0), (.int 0), (.int 0), (.int 0), (.int 0), (.int 0), (.int 0), (.int 0), (.int 0), (.int 0), (.int 0), (.int 0), (.int 0), (.int 0)]), (.lst []), (.int 0), (.int 0)])])), none], [none, none, none, none, none, (some 0)], 0⟩ seg4 ⟨[.dead, .dead, (.lst [(.fn 2), (.clo 0 []), (.clo 1 []), (.clo 2 []), (.clo 3 []), (.clo 4 []), (.clo 5 []), (.clo 6 [])]), (.lst [(.clo 7 [0]), (.clo 8 [0]), (.clo 9 [0]), (.clo 10 [0]), (.clo 11 [0])]), (.lst [(.clo 13 [0]), (.clo 14 [0]), (.clo 15 [0])])], [(some (someV 5))]⟩) = true := by decide +kernel
theorem p4_6 : good ((ev P 120).s ⟨[none, (some (.ref 1)), (some (.ref 4)), (some (.tup [(.int 2), (.lst [(.int 0), (.int 0), (.int 0), (.int 0), (.int 0), (.int 0), (.int 0), (.int 0)]), (.lst [(.int 0), (.int 0), (.int 0), (.int 0), (.int 0), (.int 0), (.int 0), (.int 0), (.int 0), (.int 0), (.int 0), (.int 0), (.int 0), (.int 0), (.int 0), (.int 0), (.int 0), (.int 0), (.int 0), (.int 0), (.int 0), (.int 0), (.int 0), (.int 0), (.int 0), (.int 0), (.int 0), (.int 0), (.int 0), (.int 0), (.int 0), (.int 0)]), (.lst []), (.int 0)])), (some (.lst [.non, (.int 5), (.dic [] []), (.tup []), (.tup [(.int 2), (.lst [(.int 0), (.int 0), (.int 0), (.int 0), (.int 0), (.int 0), (.int 0), (.int 0)]), (.lst [(.int 0), (.int 0), (.int 0), (.int 0), (.int 0), (.int 0), (.int 0), (.int 0), (.int 0), (.int 0), (.int 0), (.int 0), (.int 0), (.int 0), (.int 0), (.int 0), (.int 0), (.int 0), (.int 0), (.int 0), (.int 0), (.int 0), (.int 0), (.int 0), (.int 0), (.int 0), (.int 0), (.int 0), (.int 0), (.int 0), (.int 0), (.int 0)]), (.lst [])]), (.tup [(.int 3), (.lst [(.int 0), (.int 0), (.int 0), (.int 0), (.int 0), (.int 0), (.int 0), (.int 0)]), (.lst [(.int 0), (.int 0), (.int 0), (.int 0), (.int 0), (.int 0), (.int 0), (.int 0), (.int 0), (.int 0), (.int 0), (.int 0), (.int 0), (.int 0), (.int 0), (.int 0), (.int 0), (.int 0), (.int 0), (.int 0), (.int 0), (.int 0), (.int 0), (.int 0), (.int 0), (.int 0), (.int 0), (.int 0), (.int 0), (.int 0), (.int 0), (.int 0)]), (.lst []), (.int 0)]), (.tup [(.int 2), (.lst [(.int 0), (.int 0), (.int 0), (.int 0), (.int 0), (.int 0), (.int 0)]), (.lst [(.int 0), (.int 0), (.int 0), (.int 0), (.int 0), (.int 0), (.int 0), (.int 0), (.int 0), (.int 0), (.int 0), (.int 0), (.int 0), (.int 0), (.int 0), (.int 0), (.int 0), (.int 0), (.int 0), (.int 0), (.int 0), (.int 0), (.int 0), (.int 0), (.int 0), (.int 0), (.int 0), (.int 0), (.int 0), (.int 0), (.int 0), (.int 0)]), (.lst []), (.int 0)]), (.tup [(.int 2), (.lst [(.int 0), (.int 0), (.int 0), (.int 0), (.int 0), (.int 0), (.int 0), (.int 0)]), (.lst [(.int 0), (.int 0), (.int 0), (.int 0), (.int 0), (.int 0), (.int 0), (.int 0), (.int 0), (.int 0), (.int 0), (.int 0), (.int 0), (.int 0), (.int 0), (.int 0), (.int 0), (.int 0), (.int 0), (.int 0), (.int 0), (.int 0), (.int 0), (.int 0), (.int 0), (.int 0), (.int 0), (.int 0), (.int 0), (.int 0), (.int 0), (.int 0), (.int 0)]), (.lst []), (.int 0)]), (.tup [(.int 2), (.lst [(.int 0), (.int 0), (.int 0), (.int 0), (.int 0), (.int 0), (.int 0), (.int 0)]), (.lst [(.int 0), (.int 0), (.int 0), (.int 0), (.int 0), (.int 0), (.int 0), (.int 0), (.int 0), (.int 0), (.int 0), (.int 0), (.int 0), (.int 0), (.int 0), (.int 0), (.int 0), (.int 0), (.int 0), (.int 0), (.int 0), (.int 0), (.int 0), (.int 0), (.int 0), (.int 0), (.int 0), (.int 0), (.int 0), (.int 0), (.int 0), (.int 0)]), (.lst [(.int 256)]), (.int 0)]), (.tup [(.int 2), (.lst [(.int 0), (.int 0), (.int 0), (.int 0), (.int 0), (.int 0), (.int 0), (.int 0)]), (.lst [(.int 0), (.int 0), (.int 0), (.int 0), (.int 0), (.int 0), (.int 0), (.int 0), (.int 0), (.int 0), (.int 0), (.int 0), (.int 0), (.int 0), (.int 0), (.int 0), (.int 0), (.int 0), (.int 0), (.int 0), (.int 0), (.int 0), (.int 0), (.int 0), (.int 0), (.int 0), (.int 0), (.int 0), (.int 0), (.int 0), (.int 0), (.int 0)]), (.lst []), (.int (-1))]), (.tup [(.int 2), (.lst [(.int 0), (.int 0), (.int 0), (.int 0), (.int 0), (.int 0), (.int 0), (.int 0)]), (.lst [(.int 0), (.int 0), (.int 0), (.int 0), (.int 0), (.int 0), (.int 0), (.int 0), (.int 0), (.int 0), (.int 0), (.int 0), (.int 0), (.int 0), (.int 0), (.int 0), (.int 0), (.int 0), (.int 0), (.int 0), (.int 0), (.int 0), (.int 0), (.int 0), (.int 0), (.int 0), (.int 0), (.int 0), (.int 0), (.int 0), (.int 0), (.int 0)]), (.lst []), (.bl true)]), (.tup [(.int 2), (.lst [(.int 0), (.int 0), (.int 0), (.int 0), (.int 0), (.int 0), (.int 0), (.int 0)]), (.lst [(.int 0), (.int 0), (.int 0), (.int 0), (.int 0), (.int 0), (.int 0), (.int 0), (.int 0), (.int 0), (.int 0), (.int 0), (.int 0), (.int 0), (.int 0), (.int 0), (.int 0), (.int 0), (.int 0), (.int 0), (.int 0), (.int 0), (.int 0), (.int 0), (.int 0), (.int 0), (.int 0), (.int 0), (.int 0), (.int 0), (.int 0), (.int 0)]), (.lst []), (.int 0), (.int 0)])])), none], [none, none, none, none, none, (some 0)], 0⟩ seg4 ⟨[.dead, .dead, (.lst [(.fn 2), (.clo 0 []), (.clo 1 []), (.clo 2 []), (.clo 3 []), (.clo 4 []), (.clo 5 []), (.clo 6 [])]), (.lst [(.clo 7 [0]), (.clo 8 [0]), (.clo 9 [0]), (.clo 10 [0]), (.clo 11 [0])]), (.lst [(.clo 13 [0]), (.clo 14 [0]), (.clo 15 [0])])], [(some (someV 6))]⟩) = true := by decide +kernel
theorem p4_7 : good ((ev P 120).s ⟨[none, (some (.ref 1)), (some (.ref 4)), (some (.tup [(.int 2), (.lst [(.int 0), (.int 0), (.int 0), (.int 0), (.int 0), (.int 0), (.int 0), (.int 0)]), (.lst [(.int 0), (.int 0), (.int 0), (.int 0), (.int 0), (.int 0), (.int 0), (.int 0), (.int 0), (.int 0), (.int 0), (.int 0), (.int 0), (.int 0), (.int 0), (.int 0), (.int 0), (.int 0), (.int 0), (.int 0), (.int 0), (.int 0), (.int 0), (.int 0), (.int 0), (.int 0), (.int 0), (.int 0), (.int 0), (.int 0), (.int 0), (.int 0)]), (.lst []), (.int 0)])), (some (.lst [.non, (.int 5), (.dic [] []), (.tup []), (.tup [(.int 2), (.lst [(.int 0), (.int 0), (.int 0), (.int 0), (.int 0), (.int 0), (.int 0), (.int 0)]), (.lst [(.int 0), (.int 0), (.int 0), (.int 0), (.int 0), (.int 0), (.int 0), (.int 0), (.int 0), (.int 0), (.int 0), (.int 0), (.int 0), (.int 0), (.int 0), (.int 0), (.int 0), (.int 0), (.int 0), (.int 0), (.int 0), (.int 0), (.int 0), (.int 0), (.int 0), (.int 0), (.int 0), (.int 0), (.int 0), (.int 0), (.int 0), (.int 0)]), (.lst [])]), (.tup [(.int 3), (.lst [(.int 0), (.int 0), (.int 0), (.int 0), (.int 0), (.int 0), (.int 0), (.int 0)]), (.lst [(.int 0), (.int 0), (.int 0), (.int 0), (.int 0), (.int 0), (.int 0), (.int 0), (.int 0), (.int 0), (.int 0), (.int 0), (.int 0), (.int 0), (.int 0), (.int 0), (.int 0), (.int 0), (.int 0), (.int 0), (.int 0), (.int 0), (.int 0), (.int 0), (.int 0), (.int 0), (.int 0), (.int 0), (.int 0), (.int 0), (.int 0), (.int 0)]), (.lst []), (.int 0)]), (.tup [(.int 2), (.lst [(.int 0), (.int 0), (.int 0), (.int 0), (.int 0), (.int 0), (.int 0)]), (.lst [(.int 0), (.int 0), (.int 0), (.int 0), (.int 0), (.int 0), (.int 0), (.int 0), (.int 0), (.int 0), (.int 0), (.int 0), (.int 0), (.int 0), (.int 0), (.int 0), (.int 0), (.int 0), (.int 0), (.int 0), (.int 0), (.int 0), (.int 0), (.int 0), (.int 0), (.int 0), (.int 0), (.int 0), (.int 0), (.int 0), (.int 0), (.int 0)]), (.lst []), (.int 0)]), (.tup [(.int 2), (.lst [(.int 0), (.int 0), (.int 0), (.int 0), (.int 0), (.int 0), (.int 0), (.int 0)]), (.lst [(.int 0), (.int 0), (.int 0), (.int 0), (.int 0), (.int 0), (.int 0), (.int 0), (.int 0), (.int 0), (.int 0), (.int 0), (.int 0), (.int 0), (.int 0), (.int 0), (.int 0), (.int 0), (.int 0), (.int 0), (.int 0), (.int 0), (.int 0), (.int 0), (.int 0), (.int 0), (.int 0), (.int 0), (.int 0), (.int 0), (.int 0), (.int 0), (.int 0)]), (.lst []), (.int 0)]), (.tup [(.int 2), (.lst [(.int 0), (.int 0), (.int 0), (.int 0), (.int 0), (.int 0), (.int 0), (.int 0)]), (.lst [(.int 0), (.int 0), (.int 0), (.int 0), (.int 0), (.int 0), (.int 0), (.int 0), (.int 0), (.int 0), (.int 0), (.int 0), (.int 0), (.int 0), (.int 0), (.int 0), (.int 0), (.int 0), (.int 0), (.int 0), (.int 0), (.int 0), (.int 0), (.int 0), (.int 0), (.int 0), (.int 0), (.int 0), (.int 0), (.int 0), (.int 0), (.int 0)]), (.lst [(.int 256)]), (.int 0)]), (.tup [(.int 2), (.lst [(.int 0), (.int 0), (.int 0), (.int 0), (.int 0), (.int 0), (.int 0), (.int 0)]), (.lst [(.int 0), (.int 0), (.int 0), (.int 0), (.int 0), (.int 0), (.int 0), (.int 0), (.int 0), (.int 0), (.int 0), (.int 0), (.int 0), (.int 0), (.int 0), (.int 0), (.int 0), (.int 0), (.int 0), (.int 0), (.int 0), (.int 0), (.int 0), (.int 0), (.int 0), (.int 0), (.int 0), (.int 0), (.int 0), (.int 0), (.int 0), (.int 0)]), (.lst []), (.int (-1))]), (.tup [(.int 2), (.lst [(.int 0), (.int 0), (.int 0), (.int 0), (.int 0), (.int 0), (.int 0), (.int 0)]), (.lst [(.int 0), (.int 0), (.int 0), (.int 0), (.int 0), (.int 0), (.int 0), (.int 0), (.int 0), (.int 0), (.int 0), (.int 0), (.int 0), (.int 0), (.int 0), (.int 0), (.int 0), (.int 0), (.int 0), (.int 0), (.int 0), (.int 0), (.int 0), (.int 0), (.int 0), (.int 0), (.int 0), (.int 0), (.int 0), (.int 0), (.int 0), (.int 0)]), (.lst []), (.bl true)]), (.tup [(.int 2), (.lst [(.int 0), (.int 0), (.int 0), (.int 0), (.int 0), (.int 0), (.int 0), (.int 0)]), (.lst [(.int 0), (.int 0), (.int 0), (.int 0), (.int 0), (.int 0), (.int 0), (.int 0), (.int 0), (.int 0), (.int 0), (.int 0), (.int 0), (.int 0), (.int 0), (.int 0), (.int 0), (.int 0), (.int 0), (.int 0), (.int 0), (.int 0), (.int 0), (.int 0), (.int 0), (.int 0), (.int 0), (.int 0), (.int 0), (.int 0), (.int 0), (.int 0)]), (.lst []), (.int 0), (.int 0)])])), none], [none, none, none, none, none, (some 0)], 0⟩ seg4 ⟨[.dead, .dead, (.lst [(.fn 2), (.clo 0 []), (.clo 1 []), (.clo 2 []), (.clo 3 []), (.clo 4 []), (.clo 5 []), (.clo 6 [])]), (.lst [(.clo 7 [0]), (.clo 8 [0]), (.clo 9 [0]), (.clo 10 [0]), (.clo 11 [0])]), (.lst [(.clo 13 [0]), (.clo 14 [0]), (.clo 15 [0])])], [(some (someV 7))]⟩) = true := by decide +kernel
theorem lrest_eq : lrest = seg0 ++ (seg1 ++ (seg2 ++ (seg3 ++ (seg4)))) := rfl
theorem rest_0 : good ((ev P 120).s lawE lrest (stR 0)) = true := by
  rw [lrest_eq]; unfold stR
  rw [s_app (show (ev P 120).s _ seg0 _ = _ from p0 (someV 0))]
  rw [s_app (show (ev P 120).s _ seg1 _ = _ from p1_0)]
  rw [s_app (show (ev P 120).s _ seg2 _ = _ from p2_0)]
  rw [s_app (show (ev P 120).s _ seg3 _ = _ from p3_0)]
  exact p4_0
theorem rest_1 : good ((ev P 120).s lawE lrest (stR 1)) = true := by
  rw [lrest_eq]; unfold stR
  rw [s_app (show (ev P 120).s _ seg0 _ = _ from p0 (someV 1))]
  rw [s_app (show (ev P 120).s _ seg1 _ = _ from p1_1)]
  rw [s_app (show (ev P 120).s _ seg2 _ = _ from p2_1)]
  rw [s_app (show (ev P 120).s _ seg3 _ = _ from p3_1)]
  exact p4_1
theorem rest_2 : good ((ev P 120).s lawE lrest (stR 2)) = true := by
  rw [lrest_eq]; unfold stR
  rw [s_app (show (ev P 120).s _ seg0 _ = _ from p0 (someV 2))]
  rw [s_app (show (ev P 120).s _ seg1 _ = _ from p1_2)]
  rw [s_app (show (ev P 120).s _ seg2 _ = _ from p2_2)]
  rw [s_app (show (ev P 120).s _ seg3 _ = _ from p3_2)]
  exact p4_2
theorem rest_3 : good ((ev P 120).s lawE lrest (stR 3)) = true := by
  rw [lrest_eq]; unfold stR
  rw [s_app (show (ev P 120).s _ seg0 _ = _ from p0 (someV 3))]
  rw [s_app (show (ev P 120).s _ seg1 _ = _ from p1_3)]
  rw [s_app (show (ev P 120).s _ seg2 _ = _ from p2_3)]
  rw [s_app (show (ev P 120).s _ seg3 _ = _ from p3_3)]
  exact p4_3
theorem rest_4 : good ((ev P 120).s lawE lrest (stR 4)) = true := by
  rw [lrest_eq]; unfold stR
  rw [s_app (show (ev P 120).s _ seg0 _ = _ from p0 (someV 4))]
  rw [s_app (show (ev P 120).s _ seg1 _ = _ from p1_4)]
  rw [s_app (show (ev P 120).s _ seg2 _ = _ from p2_4)]
  rw [s_app (show (ev P 120).s _ seg3 _ = _ from p3_4)]
  exact p4_4
theorem rest_5 : good ((ev P 120).s lawE lrest (stR 5)) = true := by
  rw [lrest_eq]; unfold stR
  rw [s_app (show (ev P 120).s _ seg0 _ = _ from p0 (someV 5))]
  rw [s_app (show (ev P 120).s _ seg1 _ = _ from p1_5)]
  rw [s_app (show (ev P 120).s _ seg2 _ = _ from p2_5)]
  rw [s_app (show (ev P 120).s _ seg3 _ = _ from p3_5)]
  exact p4_5
theorem rest_6 : good ((ev P 120).s lawE lrest (stR 6)) = true := by
  rw [lrest_eq]; unfold stR
  rw [s_app (show (ev P 120).s _ seg0 _ = _ from p0 (someV 6))]
  rw [s_app (show (ev P 120).s _ seg1 _ = _ from p1_6)]
  rw [s_app (show (ev P 120).s _ seg2 _ = _ from p2_6)]
  rw [s_app (show (ev P 120).s _ seg3 _ = _ from p3_6)]
  exact p4_6
theorem rest_7 : good ((ev P 120).s lawE lrest (stR 7)) = true := by
  rw [lrest_eq]; unfold stR
  rw [s_app (show (ev P 120).s _ seg0 _ = _ from p0 (someV 7))]
  rw [s_app (show (ev P 120).s _ seg1 _ = _ from p1_7)]
  rw [s_app (show (ev P 120).s _ seg2 _ = _ from p2_7)]
  rw [s_app (show (ev P 120).s _ seg3 _ = _ from p3_7)]
  exact p4_7
end K8

set_option maxRecDepth 100000
set_option maxHeartbeats 0
namespace K8
open PySem L2 Dz
def loose0 : List Str := ["__name__", "is_list", "is_whole", "is_number", "is_row", "BitError", "BadProgram", "BadCells", "BadState", "BadMost", "BadSteps", "FIELDS", "is_value", "is_cell", "is_row_of", "is_program", "need_program", "are_values", "kept_state", "is_state", "need_cells", "begun", "reckoned", "Plain", "next_state", "led", "need_run", "run", "state_after", "trace"]
def loose1 : List Str := ["KINDS", "symbols_of", "counted", "counts", "counts_run", "_law_stream", "_law_draw", "_law_same", "_law_is_very", "_law_all_refused", "_law_met"]
def loose : List Str := loose0 ++ loose1
abbrev R : PySem.W.OpenRow := PySem.W.OpenLaw.row PySem.Challenge.rw_denserows_k08_machine_refused
theorem runF (w : World) : HandSHeadRun.RunEq R (PySem.W.view R.prog [46]) L.hook L.ob 5000 loose (w.withFollow "special-get-raises" false) := by
  intro os
  kernel_rfl
theorem runT (w : World) : HandSHeadRun.RunEq R (PySem.W.view R.prog [46]) L.hook L.ob 5000 loose (w.withFollow "special-get-raises" true) := by
  intro os
  kernel_rfl
theorem run (w : World) : HandSHeadRun.RunEq R (PySem.W.view R.prog [46]) L.hook L.ob 5000 loose w := PySem.W.byRow2 "special-get-raises" (P := fun w => HandSHeadRun.RunEq R (PySem.W.view R.prog [46]) L.hook L.ob 5000 loose w) runF runT w
end K8

set_option maxRecDepth 100000
set_option maxHeartbeats 0
namespace K8
open PySem L2 Dz
theorem lawD : LawD L lm2 lrest := ⟨⟨_, _, _, _, _, rfl⟩, by decide +kernel, rfl, rfl, rfl, by decide +kernel, by decide +kernel, rfl, by decide, by decide +kernel, by decide +kernel, by decide +kernel, by decide +kernel, by decide +kernel, by repeat (first | exact lamHold.nil | refine lamHold.cons rfl rfl rfl rfl ?_), by decide +kernel,
  by repeat (first | exact lamHold.nil | refine lamHold.cons rfl rfl rfl rfl ?_), fun _ _ _ _ _ _ us hl => match us, hl with | [_], _ => rfl, ⟨0, a_law_stream, d_law_stream, _, _, _, _, _, _, _, _, rfl, rfl, rfl, rfl, rfl, rfl, rfl⟩⟩
theorem good_ok {r : Res (Fl × MEnv)} (h : good r = true) : ∃ env s, r = .ok (.ret (.bl true), env) s := by
  unfold good at h
  split at h
  · exact ⟨_, _, rfl⟩
  · cases h
theorem rest_all (d : Int) (h0 : 0 ≤ d) (h1 : d < 8) : good ((ev P 120).s lawE lrest (stR d)) = true := by
  have h : d = 0 ∨ d = 1 ∨ d = 2 ∨ d = 3 ∨ d = 4 ∨ d = 5 ∨ d = 6 ∨ d = 7 := by omega
  rcases h with rfl | rfl | rfl | rfl | rfl | rfl | rfl | rfl
  · exact rest_0
  · exact rest_1
  · exact rest_2
  · exact rest_3
  · exact rest_4
  · exact rest_5
  · exact rest_6
  · exact rest_7
theorem hev (ns : List Int) (hl : ns.length ≤ 63) : ∃ env1 s1 env' s', stm L.P.ncls (ev L.P 120) ⟨none :: some (.ref 1) :: List.replicate (L.lawF.nsl - 2) none, cellsFor L.lawF.cels L.lawF.nsl 0, 0⟩ lm2 (stS ns L.lawF.cels.length) = .ok (.nxt, env1) s1 ∧
    (ev L.P 120).s env1 lrest { s1 with refs := s1.refs.map fun _ => MO.dead } = .ok (.ret (.bl true), env') s' := by
  obtain ⟨d, Ls, c', g', he, d0, d1, _⟩ := draw [] [none] 8 103 ns 0 0 17 (by unfold LW; omega) (by decide) (by decide) (by decide) (by decide)
  obtain ⟨env', s', hr⟩ := good_ok (rest_all d d0 d1)
  exact ⟨lawE, _, env', s', m2_ok (stS ns 1) _ d rfl he, hr⟩
end K8
open PySem PySem.W PySem.Calls PyProof.Rows
theorem PySem.Challenge.cw_denserows_k08_machine_refused_holds : PySem.Challenge.rw_denserows_k08_machine_refused.Holds := by
  w_on; o_law
  refine HandSHeadRun.head_any (r := OpenLaw.row PySem.Challenge.rw_denserows_k08_machine_refused) (q := view (OpenLaw.row PySem.Challenge.rw_denserows_k08_machine_refused).prog [46]) (H := K8.L.hook) (ob := K8.L.ob) (M := 5000) (loose := K8.loose) (d := HandSHeadRun.topDef (OpenLaw.row PySem.Challenge.rw_denserows_k08_machine_refused).prog 46) (kwd := []) K8.L.ob_eq
    (by kernel_rfl) (fun s => by kernel_rfl) K8.run (by kernel_rfl) (by kernel_rfl) (by kernel_rfl) (by rfl) (by first | assumption | decide +kernel) (by decide +kernel) ⟨rfl, rfl, rfl, rfl, rfl, by decide +kernel⟩ ?hw ?hc
  case hw => w_witness2
  case hc =>
    refine LamX.walk_ofTsE (l := PySem.Challenge.rw_denserows_k08_machine_refused) (n := 63) (k := 123) (x := "script") (CX := fun w => L2.CX PySem.Challenge.rw_denserows_k08_machine_refused.prog w) rfl (by decide) (by kernel_rfl) ⟨rfl, by decide, by decide⟩ ?F
      (fun _ _ _ _ _ ⟨_, _, _, _, _, _, _, _, _, _, _, _, z⟩ => z)
    intro w mg fa h Y G hmg0
    obtain ⟨K, KX, c⟩ := Y
    have hmg : mg K8.L.law.x = some (.ref fa) := by
      have e : (HandSHeadRun.topDef (OpenLaw.row PySem.Challenge.rw_denserows_k08_machine_refused).prog 46).name = K8.L.law.x := by kernel_rfl
      rw [← e]
      exact hmg0
    have hfa := Dz.LD.glo_l KX G c
    rw [hmg] at hfa
    cases hfa
    exact ⟨K, KX, Dz.LD.lawAt K8.okL K8.lawD KX G c K8.hev⟩

