import PyProof.Rows.All
import PySem.Syntax
import PySem.PyData
import KE.KDictKeyed
import HandS.ForMost
import HandS.Exc
import HandS.Flow
import HandS.Strs
import HandS.Deep
import HandS.TupAny
import HandS.TupMul
import HandS.Conv
import HandS.CallSlots
import HandS.Style
import HandS.TupLe
import HandS.WordsExc
import HandS.Zip
import HandS.SortOrd
import KE.KSortTupG
import HandS.SortInts
import KE.KDictSum
import HandS.More
import HandS.Gcd
import HandS.IsInst
import KE.GoesEnum
import HandS.Defaults
import HandS.Head0
import HandS.Head1
import HandS.Head2
import HandS.HeadEnd
import HandS.HeadHook1
import HandS.HeadHook2
import KE.KExcSuper
import HandS.ExcInit
import HandS.ExcCtx
import HandS.ExcIs
import HandS.ExcField
import KE.KExcIs
import HandS.Words
import PySem.Challenge.RW_flagfloors_k90_whole_frames
set_option Elab.async false
set_option linter.all false
section
/-! FE1: a small machine over pure data, its own syntax, and how that syntax reads as the model's. -/
namespace FF
open PySem

/-! ### data -/
inductive Dv where
  | non | bl (b : Bool) | int (i : Int) | str (s : Str) | tup (xs : List Dv) | ref (n : Nat) | exn (c : Nat) (fs : List Dv)
  deriving Inhabited

/-- keys of dicts: whole numbers, texts, nested tuples of these -/
inductive Ob where
  | lst (xs : List Dv) | fro (xs : List Dv) | set (xs : List Int)
  | dk (kvs : List ((Int ⊕ Str) × Dv)) | dn (kvs : List (NestedKey × Dv))
  | ins (c : Nat) (fs : List (Nat × Dv))
  deriving Inhabited

structure Ex where
  c : Nat
  fs : List Dv
  deriving Inhabited

abbrev Hh := List Ob
abbrev Sg := List (Option Dv)

inductive R (α : Type) where
  | ok (a : α) (h : Hh) | ex (x : Ex) (h : Hh) | no
namespace R
variable {α β : Type}
def bind (r : R α) (f : α → Hh → R β) : R β := match r with
  | .ok a h => f a h
  | .ex x h => .ex x h
  | .no => .no
@[simp] theorem bind_ok (a : α) (h : Hh) (f : α → Hh → R β) : (R.ok a h).bind f = f a h := rfl
@[simp] theorem bind_ex (x : Ex) (h : Hh) (f : α → Hh → R β) : (R.ex x h : R α).bind f = .ex x h := rfl
@[simp] theorem bind_no (f : α → Hh → R β) : (R.no : R α).bind f = .no := rfl
def noX (r : R α) : R α := match r with
  | .ok a h => .ok a h
  | _ => .no
def of (o : Option α) (h : Hh) : R α := match o with
  | some a => .ok a h
  | none => .no
end R

/-! ### data of the heap as trees -/
def toD : Nat → Hh → Dv → Option PyData
  | 0, _, _ => none
  | n + 1, h, d => match d with
    | .non => some .none
    | .bl b => some (.bool b)
    | .int i => some (.int i)
    | .str s => if PyData.canLay0 (.str s) then some (.str s) else none
    | .tup xs => (xs.mapM (toD n h)).map .tuple
    | .ref a => match h[a]? with
      | some (.lst xs) => (xs.mapM (toD n h)).map .list
      | some (.fro xs) => (xs.mapM (toD n h)).map .list
      | _ => none
    | .exn _ _ => none

/-- the order of whole numbers and of nested tuples of them: < (or ≤) -/
def ltG (lt : PyData → PyData → Option Bool) (le : Bool) : List PyData → List PyData → Option Bool
    | [], [] => some le
    | [], _ :: _ => some true
    | _ :: _, [] => some false
    | x :: xs, y :: ys => if PyData.eqv x y then ltG lt le xs ys else if (xs.zip ys).all fun p => PyData.eqv p.1 p.2 || (lt p.1 p.2).isSome then lt x y else none
def ltD (le : Bool) : Nat → PyData → PyData → Option Bool
  | 0, _, _ => none
  | n + 1, a, b => match a, b with
    | .int i, .int j => some (if le then decide (i ≤ j) else decide (i < j))
    | .tuple xs, .tuple ys => ltG (ltD le n) le xs ys
    | _, _ => none
def ltD.go (le : Bool) (n : Nat) (xs ys : List PyData) : Option Bool := ltG (ltD le n) le xs ys
section
variable {le : Bool} {n : Nat} {x y : PyData} {xs ys : List PyData}
theorem ltD.go_nn : ltD.go le n [] [] = some le := rfl
theorem ltD.go_nc : ltD.go le n [] (y :: ys) = some true := rfl
theorem ltD.go_cn : ltD.go le n (x :: xs) [] = some false := rfl
theorem ltD.go_cc : ltD.go le n (x :: xs) (y :: ys) = if PyData.eqv x y then ltD.go le n xs ys else if (xs.zip ys).all fun p => PyData.eqv p.1 p.2 || (ltD le n p.1 p.2).isSome then ltD le n x y else none := rfl
end

def dlt (le : Bool) (h : Hh) (x y : Dv) : Option Bool := match x, y with
  | .int i, .int j => some (if le then decide (i ≤ j) else decide (i < j))
  | x, y => match toD 8 h x, toD 8 h y with
    | some a, some b => ltD le 8 a b
    | _, _ => none

def scalD : Dv → Bool
  | .tup _ | .ref _ | .exn _ _ => false
  | _ => true

/-- == -/
def deq (h : Hh) (x y : Dv) : Option Bool := match x, y with
  | .int i, .int j => some (decide (i = j))
  | .str i, .str j => some (decide (i = j))
  | .bl i, .bl j => some (decide (i = j))
  | x, y => match toD 8 h x, toD 8 h y with
    | some a, some b => some (PyData.eqv a b)
    | _, _ => none

/-! ### syntax -/
inductive BO where | add | sub | mul | fdiv | mod | pow deriving DecidableEq, Inhabited
inductive CO where | eq | ne | lt | le | gt | ge | isn | notn | mem | nmem deriving DecidableEq, Inhabited
inductive Bi where | len | tuple | list | int | any | all | sorted | min | max | abs | set0 | min2 | max2 | sum | gcd deriving DecidableEq, Inhabited
inductive Mt where | append | extend | pop | add deriving DecidableEq, Inhabited
inductive Ty where | int | bool | tuple | str | list | cls (c : Nat) deriving DecidableEq, Inhabited

abbrev Pq := Pos

mutual
inductive E where
  | var (i : Nat) (p : Pq)
  | gint (x : Str) (i : Int) (p : Pq)
  | int (i : Int) (k : Nat) (p : Pq)
  | str (s : Str) (k : Nat) (p : Pq)
  | bl (b : Bool) (k : Nat) (p : Pq)
  | non (k : Nat) (p : Pq)
  | tup (es : EL) (k : Nat) (p : Pq)
  | lst (es : EL) (p : Pq)
  | bin (op : BO) (a b : E) (p : Pq)
  | neg (a : E) (p : Pq)
  | cmp (op : CO) (a b : E) (p : Pq)
  | chain (op op' : CO) (a b c : E) (p : Pq)
  | not (a : E) (p : Pq)
  | and (es : EL) (p : Pq)
  | or (es : EL) (p : Pq)
  | ife (c a b : E) (p : Pq)
  | ix (a b : E) (p : Pq)
  | sl (a : E) (lo hi : O) (p q : Pq)
  | call (f : Nat) (es : EL) (fp p : Pq)
  | bi (b : Bi) (es : EL) (fp p : Pq)
  | lrg (es : EL) (fp rp q p : Pq)
  | bm (m : Mt) (o : E) (es : EL) (ap p : Pq)
  | isi (a : E) (t : Ty) (fp tp p : Pq)
  | exf (a : E) (f : Nat) (x : Str) (p : Pq)
  | disp (ks : EL) (vs : EL) (p : Pq)
  | dnew (n : Bool) (p : Pq)
  | lc (own : List (Str × Nat)) (sc : Scope) (tg : G) (it : I) (ifs : EL) (elt : E) (p : Pq)
inductive EL where
  | nil | cons (e : E) (es : EL)
inductive O where
  | none | some (e : E)
/-- targets -/
inductive G where
  | name (i : Nat) (p : Pq)
  | tup (gs : GL) (k : Nat) (p : Pq)
  | sub (a b : E) (p : Pq)
inductive GL where
  | nil | cons (g : G) (gs : GL)
/-- what is walked -/
inductive I where
  | seq (e : E)
  | rng1 (a : E) (fp p : Pq)
  | rng2 (a b : E) (fp p : Pq)
  | rng3 (a b c : E) (fp p : Pq)
  | enum (e : E) (fp p : Pq)
  | zip (a b : E) (fp p : Pq)
end
instance : Inhabited E := ⟨.non 0 default⟩

mutual
inductive S where
  | asg (g : G) (e : E) (p : Pq)
  | par (i j : Nat) (px py : Pq) (kt : Nat) (pt : Pq) (a b : E) (k2 : Nat) (pt2 : Pq) (p : Pq)
  | setlc (i : Nat) (py : Pq) (own : List (Str × Nat)) (sc : Scope) (tg : G) (it : I) (ifs : EL) (elt : E) (q p : Pq)
  | aug (i : Nat) (py : Pq) (op : BO) (e : E) (p : Pq)
  | exp (e : E) (p : Pq)
  | ret (e : E) (p : Pq)
  | retn (p : Pq)
  | ifs (c : E) (a b : SL) (p : Pq)
  | for (g : G) (it : I) (b : SL) (p : Pq)
  | whl (c : E) (b : SL) (p : Pq)
  | brk (p : Pq) | cnt (p : Pq) | pass (p : Pq)
  | par3 (i j k : Nat) (px py pz : Pq) (kt : Nat) (pt : Pq) (a b d : E) (k2 : Nat) (pt2 : Pq) (p : Pq)
  | nev (st : Stmt)
inductive SL where
  | nil | cons (s : S) (ss : SL)
end

/-! ### how it reads as the model's syntax -/
structure Ctx where
  N : List Str
  fns : List Str
  clss : List Str

def boOf : BO → Operator
  | .add => .Add | .sub => .Sub | .mul => .Mult | .fdiv => .FloorDiv | .mod => .Mod | .pow => .Pow
def coOf : CO → CmpOp
  | .eq => .Eq | .ne => .NotEq | .lt => .Lt | .le => .LtE | .gt => .Gt | .ge => .GtE | .isn => .Is | .notn => .IsNot | .mem => .In | .nmem => .NotIn
def biOf : Bi → Str
  | .len => "len" | .tuple => "tuple" | .list => "list" | .int => "int" | .any => "any" | .all => "all" | .sorted => "sorted" | .min => "min" | .max => "max" | .abs => "abs" | .set0 => "set" | .min2 => "min" | .max2 => "max" | .sum => "sum" | .gcd => "gcd"
def mtOf : Mt → Str
  | .append => "append" | .extend => "extend" | .pop => "pop" | .add => "add"
def Ctx.ty (c : Ctx) : Ty → Str
  | .int => "int" | .bool => "bool" | .tuple => "tuple" | .str => "str" | .list => "list" | .cls k => c.clss.getD k ⟨#[]⟩
def Ctx.nm (c : Ctx) (i : Nat) : Str := c.N.getD i ⟨#[]⟩
def Ctx.fn (c : Ctx) (i : Nat) : Str := c.fns.getD i ⟨#[]⟩

section
variable (c : Ctx)
mutual
def toE : E → Expr
  | .var i p => .Name (c.nm i) p
  | .gint x _ p => .Name x p
  | .int i k p => .Constant (.int i) k p
  | .str s k p => .Constant (.str s) k p
  | .bl b k p => .Constant (.bool b) k p
  | .non k p => .Constant .none k p
  | .tup es k p => .Tuple (toEL es) k p
  | .lst es p => .List (toEL es) p
  | .bin op a b p => .BinOp (toE a) (boOf op) (toE b) p
  | .neg a p => .UnaryOp .USub (toE a) p
  | .cmp op a b p => .Compare (toE a) [coOf op] [toE b] p
  | .chain op op' a b d p => .Compare (toE a) [coOf op, coOf op'] [toE b, toE d] p
  | .not a p => .UnaryOp .Not (toE a) p
  | .and es p => .BoolOp .And (toEL es) p
  | .or es p => .BoolOp .Or (toEL es) p
  | .ife t a b p => .IfExp (toE t) (toE a) (toE b) p
  | .ix a b p => .Subscript (toE a) (toE b) p
  | .sl a lo hi p q => .Subscript (toE a) (.Slice (toO lo) (toO hi) none q) p
  | .call f es fp p => .Call (.Name (c.fn f) fp) (toEL es) [] p
  | .bi b es fp p => .Call (.Name (biOf b) fp) (toEL es) [] p
  | .lrg es fp rp q p => .Call (.Name "list" fp) [.Call (.Name "range" rp) (toEL es) [] q] [] p
  | .bm m o es ap p => .Call (.Attribute (toE o) (mtOf m) ap) (toEL es) [] p
  | .isi a t fp tp p => .Call (.Name "isinstance" fp) [toE a, .Name (c.ty t) tp] [] p
  | .exf a _ x p => .Attribute (toE a) x p
  | .disp ks vs p => .Dict ((toEL ks).map some) (toEL vs) p
  | .dnew _ p => .Dict [] [] p
  | .lc _ sc tg it ifs elt p => .ListComp (toE elt) [⟨toG tg, toI it, toEL ifs, 0⟩] sc p
def toEL : EL → List Expr
  | .nil => []
  | .cons e es => toE e :: toEL es
def toO : O → Option Expr
  | .none => none
  | .some e => some (toE e)
def toG : G → Expr
  | .name i p => .Name (c.nm i) p
  | .tup gs k p => .Tuple (toGL gs) k p
  | .sub a b p => .Subscript (toE a) (toE b) p
def toGL : GL → List Expr
  | .nil => []
  | .cons g gs => toG g :: toGL gs
def toI : I → Expr
  | .seq e => toE e
  | .rng1 a fp p => .Call (.Name "range" fp) [toE a] [] p
  | .rng2 a b fp p => .Call (.Name "range" fp) [toE a, toE b] [] p
  | .rng3 a b d fp p => .Call (.Name "range" fp) [toE a, toE b, toE d] [] p
  | .enum e fp p => .Call (.Name "enumerate" fp) [toE e] [] p
  | .zip a b fp p => .Call (.Name "zip" fp) [toE a, toE b] [] p
end
mutual
def toS : S → Stmt
  | .asg g e p => .Assign [toG c g] (toE c e) p
  | .par i j px py kt pt a b k2 pt2 p => .Assign [.Tuple [.Name (c.nm i) px, .Name (c.nm j) py] kt pt] (.Tuple [toE c a, toE c b] k2 pt2) p
  | .setlc i py _ sc tg it ifs elt q p => .Assign [.Name (c.nm i) py] (.ListComp (toE c elt) [⟨toG c tg, toI c it, toEL c ifs, 0⟩] sc q) p
  | .aug i py op e p => .AugAssign (.Name (c.nm i) py) (boOf op) (toE c e) p
  | .exp e p => .Expr (toE c e) p
  | .ret e p => .Return (some (toE c e)) p
  | .retn p => .Return none p
  | .ifs t a b p => .If (toE c t) (toSL a) (toSL b) p
  | .for g it b p => .For (toG c g) (toI c it) (toSL b) [] p
  | .whl t b p => .While (toE c t) (toSL b) [] p
  | .brk p => .Break p
  | .cnt p => .Continue p
  | .pass p => .Pass p
  | .par3 i j k px py pz kt pt a b d k2 pt2 p => .Assign [.Tuple [.Name (c.nm i) px, .Name (c.nm j) py, .Name (c.nm k) pz] kt pt] (.Tuple [toE c a, toE c b, toE c d] k2 pt2) p
  | .nev st => st
def toSL : SL → List Stmt
  | .nil => []
  | .cons s ss => toS s :: toSL ss
end
end

/-! ### the machine -/
structure Fx where
  call : Nat → List Dv → Hh → R Dv
  wf : Nat

def keyK : Dv → Option (Int ⊕ Str)
  | .int i => some (.inl i)
  | .str s => some (.inr s)
  | _ => none
def dvK : (Int ⊕ Str) → Dv
  | .inl i => .int i
  | .inr s => .str s
def nkOf : Nat → Dv → Option NestedKey
  | 0, _ => none
  | n + 1, d => match d with
    | .int i => some (.num i)
    | .str s => some (.text s)
    | .tup xs => (xs.mapM (nkOf n)).map .tup
    | _ => none
mutual
def dvN : NestedKey → Dv
  | .none => .non
  | .num i => .int i
  | .text s => .str s
  | .tup ks => .tup (dvNs ks)
def dvNs : List NestedKey → List Dv
  | [] => []
  | k :: ks => dvN k :: dvNs ks
end

section
variable {κ : Type} [DecidableEq κ]
def kLook (kvs : List (κ × Dv)) (k : κ) : Option Dv := match kvs with
  | [] => none
  | (q, v) :: r => if q = k then some v else kLook r k
def kPut (kvs : List (κ × Dv)) (k : κ) (v : Dv) : List (κ × Dv) := match kvs with
  | [] => [(k, v)]
  | (q, u) :: r => if q = k then (q, v) :: r else (q, u) :: kPut r k v
end

/-- how long a thing may be that is only kept small -/
def most : Nat := 100000
def intOk (i : Int) : Bool := decide (-(2 ^ 62) ≤ i) && decide (i < 2 ^ 62)
def mulOk (i j : Int) : Bool := (decide (-(2 ^ 64) < i) && decide (i < 2 ^ 64)) || (decide (-(2 ^ 64) < j) && decide (j < 2 ^ 64))

def bop (op : BO) (x y : Dv) (h : Hh) : R Dv := match op, x, y with
  | .add, .int i, .int j => .ok (.int (i + j)) h
  | .sub, .int i, .int j => .ok (.int (i - j)) h
  | .mul, .int i, .int j => if mulOk i j then .ok (.int (i * j)) h else .no
  | .fdiv, .int i, .int j => if decide (j ≠ 0) && decide (j.natAbs < 1073741824) then .ok (.int (i.fdiv j)) h else .no
  | .mod, .int i, .int j => if decide (j ≠ 0) then .ok (.int (i.fmod j)) h else .no
  | .pow, .int i, .int j => if decide (0 ≤ j) && decide (j ≤ 1000000) && decide (i.natAbs < 2 ^ 64) then .ok (.int (i ^ j.toNat)) h else .no
  | .add, .str s, .str t => if decide (s.length + t.length ≤ most) then .ok (.str (s ++ t)) h else .no
  | .add, .tup xs, .tup ys => if decide (xs.length + ys.length ≤ most) then .ok (.tup (xs ++ ys)) h else .no
  | .add, .ref a, .ref b => match seqOf h a, seqOf h b with
    | some xs, some ys => if decide (xs.length + ys.length ≤ most) then .ok (.ref h.length) (h ++ [.lst (xs ++ ys)]) else .no
    | _, _ => .no
  | .mul, .tup xs, .int k => if !xs.isEmpty && decide (1 ≤ k) && decide (k ≤ 1000) && decide (xs.length ≤ 1000) then .ok (.tup (List.replicate k.toNat xs).flatten) h else .no
  | .mul, .ref a, .int k => match seqOf h a with
    | some xs => if decide (-(2 ^ 62) ≤ k) && decide (k < 2 ^ 62) && decide (xs.length * k.toNat ≤ most) then .ok (.ref h.length) (h ++ [.lst (List.replicate k.toNat xs).flatten]) else .no
    | none => .no
  | _, _, _ => .no
where
  seqOf (h : Hh) (a : Nat) : Option (List Dv) := match h[a]? with
    | some (.lst xs) => some xs
    | _ => none

/-- the items of a list or tuple -/
def items (h : Hh) : Dv → Option (List Dv)
  | .tup xs => some xs
  | .ref a => match h[a]? with
    | some (.lst xs) => some xs
    | some (.fro xs) => some xs
    | _ => none
  | _ => none

def isMem (x y : Dv) (h : Hh) : Option Bool := match y with
  | .ref a => match h[a]? with
    | some (.set is) => match x with
      | .int i => some (is.contains i)
      | _ => none
    | some (.dk kvs) => (keyK x).map fun k => (kLook kvs k).isSome
    | some (.dn kvs) => (nkOf 8 x).bind fun k => match k with
      | .tup _ => some (kLook kvs k).isSome
      | _ => none
    | some (.lst _) => memL x h
    | some (.fro _) => memL x h
    | _ => none
  | .tup xs => if scalD x && xs.all scalD then memT x xs else memU x h
  | _ => none
where
  memL (x : Dv) (h : Hh) : Option Bool := match toD 8 h x, toD 8 h y with
    | some d, some (.list ds) => some (ds.any fun z => PyData.eqv z d)
    | _, _ => none
  memU (x : Dv) (h : Hh) : Option Bool := match toD 8 h x, toD 8 h y with
    | some d, some (.tuple ds) => some (ds.any fun z => PyData.eqv z d)
    | _, _ => none
  memT (x : Dv) (xs : List Dv) : Option Bool := if scalD x && xs.all scalD then some (xs.any fun z => sEq z x) else none
  sEq : Dv → Dv → Bool
    | .non, .non => true
    | .bl a, .bl b => a == b
    | .bl a, .int b => (if a then 1 else 0) == b
    | .int a, .bl b => a == (if b then 1 else 0)
    | .int a, .int b => a == b
    | .str a, .str b => a == b
    | _, _ => false

def cop (op : CO) (x y : Dv) (h : Hh) : Option Bool := match op with
  | .eq => deq h x y
  | .ne => (deq h x y).map not
  | .lt => dlt false h x y
  | .le => dlt true h x y
  | .gt => match x, y with
    | .int i, .int j => some (decide (j < i))
    | _, _ => none
  | .ge => match x, y with
    | .int i, .int j => some (decide (j ≤ i))
    | _, _ => none
  | .isn => match y with
    | .non => some (match x with | .non => true | _ => false)
    | _ => none
  | .notn => match y with
    | .non => some (match x with | .non => false | _ => true)
    | _ => none
  | .mem => isMem x y h
  | .nmem => (isMem x y h).map not

/-- a place counted from either end -/
def ixA (n : Nat) (i : Int) : Option Nat :=
  if 0 ≤ i then (if i < n then some i.toNat else none) else if -(n : Int) ≤ i then some (i + n).toNat else none
def at0 (xs : List Dv) (i : Int) : Option Dv := (ixA xs.length i).bind fun j => xs[j]?
/-- a slice's bound -/
def bnd (n : Nat) (d : Nat) : Option Int → Nat
  | none => d
  | some i => if i < 0 then (i + n).toNat else min i.toNat n
def cut (xs : List Dv) (lo hi : Option Int) : List Dv :=
  let a := bnd xs.length 0 lo
  let b := bnd xs.length xs.length hi
  (xs.drop a).take (b - a)

inductive Src where | t (xs : List Dv) | l (a : Nat)
def Src.look (h : Hh) : Src → Option (List Dv)
  | .t xs => some xs
  | .l a => match h[a]? with
    | some (.lst xs) => some xs
    | some (.fro xs) => some xs
    | _ => none
inductive It where
  | seq (s : Src) | ints (lo c : Int) (n : Nat) | enum (s : Src) | zip (s t : Src)
/-- none: stuck; some none: at an end -/
def It.at (h : Hh) (i : Nat) : It → Option (Option Dv)
  | .seq s => (s.look h).map fun xs => xs[i]?
  | .ints lo c n => some (if i < n then some (.int (lo + i * c)) else none)
  | .enum s => (s.look h).map fun xs => xs[i]?.map fun v => .tup [.int i, v]
  | .zip s t => match s.look h, t.look h with
    | some xs, some ys => some (match xs[i]?, ys[i]? with
      | some x, some y => some (.tup [x, y])
      | _, _ => none)
    | _, _ => none
def srcOf (h : Hh) : Dv → Option Src
  | .tup xs => some (.t xs)
  | .ref a => match h[a]? with
    | some (.lst _) => some (.l a)
    | some (.fro _) => some (.l a)
    | _ => none
  | _ => none

inductive RS where
  | nx (σ : Sg) (h : Hh) | rt (v : Dv) (h : Hh) | bk (σ : Sg) (h : Hh) | ct (σ : Sg) (h : Hh) | ex (x : Ex) (σ : Sg) (h : Hh) | no
def R.toS {α : Type} (σ : Sg) (r : R α) (f : α → Hh → RS) : RS := match r with
  | .ok a h => f a h
  | .ex x h => .ex x σ h
  | .no => .no

def forL (step : Dv → Sg → Hh → RS) (it : It) : Nat → Nat → Sg → Hh → RS
  | 0, _, _, _ => .no
  | n + 1, i, σ, h => match it.at h i with
    | none => .no
    | some none => .nx σ h
    | some (some v) => match step v σ h with
      | .nx σ' h' => forL step it n (i + 1) σ' h'
      | .ct σ' h' => forL step it n (i + 1) σ' h'
      | .bk σ' h' => .nx σ' h'
      | .rt v h' => .rt v h'
      | .ex x σ' h' => .ex x σ' h'
      | .no => .no
def whileL (test : Sg → Hh → R Dv) (body : Sg → Hh → RS) : Nat → Sg → Hh → RS
  | 0, _, _ => .no
  | n + 1, σ, h => match test σ h with
    | .ok (.bl true) h1 => match body σ h1 with
      | .nx σ' h' => whileL test body n σ' h'
      | .ct σ' h' => whileL test body n σ' h'
      | .bk σ' h' => .nx σ' h'
      | .rt v h' => .rt v h'
      | .ex x σ' h' => .ex x σ' h'
      | .no => .no
    | .ok (.bl false) h1 => .nx σ h1
    | .ex x h1 => .ex x σ h1
    | _ => .no
/-- a comprehension's turns: none where the item is left out -/
def lcL (step : Dv → Hh → R (Option Dv)) (it : It) : Nat → Nat → List Dv → Hh → R (List Dv)
  | 0, _, _, _ => .no
  | n + 1, i, acc, h => match it.at h i with
    | none => .no
    | some none => .ok acc.reverse h
    | some (some v) => match step v h with
      | .ok (some y) h' => if acc.length < most then lcL step it n (i + 1) (y :: acc) h' else .no
      | .ok none h' => lcL step it n (i + 1) acc h'
      | _ => .no

def tyIs (x : Dv) (t : Ty) : Option Bool := match t, x with
  | .cls _, _ => none
  | _, .ref _ => none
  | _, .exn _ _ => none
  | .int, .int _ => some true
  | .int, .bl _ => some true
  | .bool, .bl _ => some true
  | .tuple, .tup _ => some true
  | .str, .str _ => some true
  | _, _ => some false

/-- sorting by insertion -/
def insS (lt : Dv → Dv → Bool) (x : Dv) : List Dv → List Dv
  | [] => [x]
  | y :: r => if lt x y then x :: y :: r else y :: insS lt x r
def sortI (lt : Dv → Dv → Bool) (xs : List Dv) : List Dv := xs.foldl (fun acc x => insS lt x acc) []
/-- whole numbers and tuples alone -/
def pureD : Nat → Dv → Bool
  | 0, _ => false
  | _ + 1, .int _ => true
  | n + 1, .tup xs => xs.all (pureD n)
  | _, _ => false
def headK : Dv → Nat
  | .int _ => 0
  | .tup (.int _ :: _) => 1
  | .tup (.tup _ :: _) => 2
  | _ => 3
/-- the items in order: all whole numbers, or all tuples that begin with a number (or: with a tuple); any two of them compare -/
def sortS (h : Hh) (xs : List Dv) : Option (List Dv) := match xs with
  | [] => some []
  | y :: r => if decide (headK y < 3) && xs.all (fun x => headK x == headK y && pureD 8 x) && xs.all (fun x => xs.all fun z => (dlt false h x z).isSome) then some (sortI (fun x z => (dlt false h x z).getD false) (y :: r)) else none
def minS (h : Hh) : Dv → List Dv → Option Dv
  | b, [] => some b
  | b, x :: r => match dlt false h x b with
    | some true => minS h x r
    | some false => minS h b r
    | none => none

def bis (b : Bi) (vs : List Dv) (h : Hh) : R Dv := match b, vs with
  | .len, [x] => match lenOf h x with
    | some n => .ok (.int n) h
    | none => .no
  | .tuple, [x] => match items h x with
    | some xs => .ok (.tup xs) h
    | none => .no
  | .list, [x] => match listOf h x with
    | some xs => if decide (xs.length ≤ most) then .ok (.ref h.length) (h ++ [.lst xs]) else .no
    | none => .no
  | .int, [.int i] => .ok (.int i) h
  | .any, [.ref a] => match h[a]? with
    | some (.lst xs) => R.of ((boolsOf xs).map fun bs => .bl (bs.any id)) h
    | _ => .no
  | .all, [.ref a] => match h[a]? with
    | some (.lst xs) => R.of ((boolsOf xs).map fun bs => .bl (bs.all id)) h
    | _ => .no
  | .sorted, [x] => match keysOf h x with
    | some xs => match sortS h xs with
      | some ys => if decide (ys.length ≤ most) then .ok (.ref h.length) (h ++ [.lst ys]) else .no
      | none => .no
    | none => .no
  | .min, [x] => match items h x with
    | some (y :: ys) => match x with
      | .ref _ => R.of (minS h y ys) h
      | _ => .no
    | _ => .no
  | .max, [x] => match (items h x).bind intsOf with
    | some (i :: is) => .ok (.int (is.foldl max i)) h
    | _ => .no
  | .min2, [.int i, .int j] => .ok (.int (if j < i then j else i)) h
  | .max2, [.int i, .int j] => .ok (.int (if j > i then j else i)) h
  | .abs, [.int i] => .ok (.int (if i < 0 then -i else i)) h
  | .set0, [] => .ok (.ref h.length) (h ++ [.set []])
  | .gcd, [.int i, .int j] => .ok (.int (Int.gcd i j)) h
  | _, _ => .no
where
  lenOf (h : Hh) : Dv → Option Nat
    | .tup xs => some xs.length
    | .str s => if decide (s.length ≤ most) then some s.length else none
    | .ref a => match h[a]? with
      | some (.lst xs) => some xs.length
      | some (.fro xs) => some xs.length
      | some (.dk kvs) => some kvs.length
      | _ => none
    | _ => none
  listOf (h : Hh) : Dv → Option (List Dv)
    | .tup xs => some xs
    | .ref a => match h[a]? with
      | some (.lst xs) => some xs
      | some (.fro xs) => some xs
      | some (.dk kvs) => some (kvs.map fun p => dvK p.1)
      | _ => none
    | _ => none
  keysOf (h : Hh) : Dv → Option (List Dv)
    | .ref a => match h[a]? with
      | some (.lst xs) => some xs
      | some (.fro xs) => some xs
      | some (.dk kvs) => some (kvs.map fun p => dvK p.1)
      | some (.dn kvs) => some (kvs.map fun p => dvN p.1)
      | _ => none
    | _ => none
  intsOf (xs : List Dv) : Option (List Int) := xs.mapM fun d => match d with
    | .int i => some i
    | _ => none
  boolsOf (xs : List Dv) : Option (List Bool) := xs.mapM fun d => match d with
    | .bl b => some b
    | _ => none

def mts (m : Mt) (o : Dv) (vs : List Dv) (h : Hh) : R Dv := match m, o, vs with
  | .append, .ref a, [v] => match h[a]? with
    | some (.lst xs) => if decide (xs.length < most) then .ok .non (h.set a (.lst (xs ++ [v]))) else .no
    | _ => .no
  | .extend, .ref a, [v] => match h[a]?, v with
    | some (.lst xs), .ref b => match h[b]? with
      | some (.lst ys) => if decide (xs.length + ys.length ≤ most) && decide (a ≠ b) then .ok .non (h.set a (.lst (xs ++ ys))) else .no
      | _ => .no
    | _, _ => .no
  | .pop, .ref a, [] => match h[a]? with
    | some (.lst xs) => match xs.getLast? with
      | some v => .ok v (h.set a (.lst xs.dropLast))
      | none => .no
    | _ => .no
  | .add, .ref a, [.int i] => match h[a]? with
    | some (.set is) => if decide (is.length < 1000) then .ok .non (if is.contains i then h else h.set a (.set (is ++ [i]))) else .no
    | _ => .no
  | _, _, _ => .no

/-- the kind of thing that the method is of -/
def mtk (m : Mt) (o : Dv) (h : Hh) : Bool := match o with
  | .ref a => match h[a]?, m with
    | some (.set _), .add => true
    | some (.lst _), .append => true
    | some (.lst _), .extend => true
    | some (.lst _), .pop => true
    | _, _ => false
  | _ => false

/-- x[y] -/
def ixs (x y : Dv) (h : Hh) : Option Dv := match x with
  | .tup xs => match y with
    | .int i => at0 xs i
    | _ => none
  | .ref a => match h[a]? with
    | some (.lst xs) => match y with
      | .int i => at0 xs i
      | _ => none
    | some (.fro xs) => match y with
      | .int i => at0 xs i
      | _ => none
    | some (.dk kvs) => (keyK y).bind (kLook kvs)
    | some (.dn kvs) => match nkOf 8 y with
      | some (.tup ks) => kLook kvs (.tup ks)
      | _ => none
    | _ => none
  | _ => none
/-- x[y] = v -/
def sets (x y v : Dv) (h : Hh) : R Unit := match x with
  | .ref n => match h[n]? with
    | some (.lst xs) => match y with
      | .int i => match ixA xs.length i with
        | some j => .ok () (h.set n (.lst (xs.set j v)))
        | none => .no
      | _ => .no
    | some (.dk kvs) => match keyK y with
      | some k => if decide (kvs.length < most) then .ok () (h.set n (.dk (kPut kvs k v))) else .no
      | none => .no
    | some (.dn kvs) => match nkOf 8 y with
      | some (.tup ks) => if decide (kvs.length < most) then .ok () (h.set n (.dn (kPut kvs (.tup ks) v))) else .no
      | _ => .no
    | _ => .no
  | _ => .no

/-- the slots of a comprehension's own names are forgotten -/
def wipeS (σ : Sg) : List Nat → Sg
  | [] => σ
  | v :: vs => (wipeS σ vs).set v none

def disps : List Dv → List Dv → List ((Int ⊕ Str) × Dv) → Option (List ((Int ⊕ Str) × Dv))
  | [], [], acc => some acc
  | k :: ks, v :: vs, acc => match keyK k with
    | some q => disps ks vs (kPut acc q v)
    | none => none
  | _, _, _ => none

def elLen : EL → Nat
  | .nil => 0
  | .cons _ es => elLen es + 1
def glLen : GL → Nat
  | .nil => 0
  | .cons _ es => glLen es + 1

section
variable (F : Fx)
mutual
def evE : E → Sg → Hh → R Dv
  | .var i _, σ, h => match σ[i]? with
    | some (some v) => .ok v h
    | _ => .no
  | .gint _ i _, _, h => .ok (.int i) h
  | .int i _ _, _, h => .ok (.int i) h
  | .str s _ _, _, h => .ok (.str s) h
  | .bl b _ _, _, h => .ok (.bl b) h
  | .non _ _, _, h => .ok .non h
  | .tup es _ _, σ, h => (evL es σ h).bind fun vs h1 => if decide (vs.length ≤ most) then .ok (.tup vs) h1 else .no
  | .lst es _, σ, h => (evL es σ h).bind fun vs h1 => if decide (vs.length ≤ most) then .ok (.ref h1.length) (h1 ++ [.lst vs]) else .no
  | .bin op a b _, σ, h => (evE a σ h).bind fun x h1 => (evE b σ h1).bind fun y h2 => bop op x y h2
  | .neg a _, σ, h => (evE a σ h).bind fun x h1 => match x with
    | .int i => .ok (.int (-i)) h1
    | _ => .no
  | .cmp op a b _, σ, h => (evE a σ h).bind fun x h1 => (evE b σ h1).bind fun y h2 => R.of ((cop op x y h2).map .bl) h2
  | .chain op op' a b d _, σ, h => (evE a σ h).bind fun x h1 => (evE b σ h1).bind fun y h2 => match cop op x y h2 with
    | some true => (evE d σ h2).bind fun z h3 => R.of ((cop op' y z h3).map .bl) h3
    | some false => .ok (.bl false) h2
    | none => .no
  | .not a _, σ, h => (evE a σ h).bind fun x h1 => match x with
    | .bl b => .ok (.bl (!b)) h1
    | _ => .no
  | .and es _, σ, h => evAnd es σ h
  | .or es _, σ, h => evOr es σ h
  | .ife t a b _, σ, h => (evE t σ h).bind fun x h1 => match x with
    | .bl true => evE a σ h1
    | .bl false => evE b σ h1
    | _ => .no
  | .ix a b _, σ, h => (evE a σ h).bind fun x h1 => (evE b σ h1).bind fun y h2 => R.of (ixs x y h2) h2
  | .sl a lo hi _ _, σ, h => (evE a σ h).bind fun x h1 => (evO lo σ h1).bind fun l h2 => (evO hi σ h2).bind fun u h3 => match x with
    | .tup xs => .ok (.tup (cut xs l u)) h3
    | .ref b => match h3[b]? with
      | some (.lst xs) => .ok (.ref h3.length) (h3 ++ [.lst (cut xs l u)])
      | some (.fro xs) => .ok (.ref h3.length) (h3 ++ [.lst (cut xs l u)])
      | _ => .no
    | _ => .no
  | .call f es _ _, σ, h => (evL es σ h).bind fun vs h1 => F.call f vs h1
  | .bi b es _ _, σ, h => (evL es σ h).bind fun vs h1 => bis b vs h1
  | .lrg es _ _ _ _, σ, h => (evL es σ h).bind fun vs h1 => match vs with
    | [.int n] => if decide (n ≤ most) && intOk n then .ok (.ref h1.length) (h1 ++ [.lst ((List.range n.toNat).map fun (i : Nat) => Dv.int (i : Int))]) else .no
    | [.int a, .int b] => if decide (b - a ≤ most) && intOk a && intOk b then .ok (.ref h1.length) (h1 ++ [.lst ((List.range (b - a).toNat).map fun (i : Nat) => Dv.int (a + (i : Int)))]) else .no
    | _ => .no
  | .bm m o es _ _, σ, h => (evE o σ h).bind fun x h1 => if mtk m x h1 then (evL es σ h1).bind fun vs h2 => mts m x vs h2 else .no
  | .isi a t _ _ _, σ, h => (evE a σ h).bind fun x h1 => R.of ((tyIs x t).map .bl) h1
  | .exf a f _ _, σ, h => (evE a σ h).bind fun x h1 => match x with
    | .exn _ fs => R.of fs[f]? h1
    | _ => .no
  | .disp ks vs _, σ, h => (evL ks σ h).bind fun qs h1 => (evL vs σ h1).bind fun ws h2 => match disps qs ws [] with
    | some kvs => if decide (kvs.length ≤ 15) then .ok (.ref h2.length) (h2 ++ [.dk kvs]) else .no
    | none => .no
  | .dnew n _, _, h => .ok (.ref h.length) (h ++ [if n then .dn [] else .dk []])
  | .lc own _ tg it ifs elt _, σ, h => (evI it σ h).bind fun J h1 =>
      let σ0 := wipeS σ (own.map (·.2))
      (lcL (fun v h' => (evG tg v σ0 h').bind fun σ1 h2 => (evIfs ifs σ1 h2).bind fun b h3 =>
        if b then (evE elt σ1 h3).bind fun y h4 => .ok (some y) h4 else .ok none h3) J F.wf 0 [] h1).bind fun ys h2 =>
      .ok (.ref h2.length) (h2 ++ [.lst ys])
def evL : EL → Sg → Hh → R (List Dv)
  | .nil, _, h => .ok [] h
  | .cons e es, σ, h => (evE e σ h).bind fun v h1 => (evL es σ h1).bind fun vs h2 => .ok (v :: vs) h2
def evAnd : EL → Sg → Hh → R Dv
  | .nil, _, _ => .no
  | .cons e es, σ, h => match es with
    | .nil => evE e σ h
    | .cons e2 es2 => (evE e σ h).bind fun v h1 => match v with
      | .bl true => evAnd (.cons e2 es2) σ h1
      | .bl false => .ok (.bl false) h1
      | _ => .no
def evOr : EL → Sg → Hh → R Dv
  | .nil, _, _ => .no
  | .cons e es, σ, h => match es with
    | .nil => evE e σ h
    | .cons e2 es2 => (evE e σ h).bind fun v h1 => match v with
      | .bl false => evOr (.cons e2 es2) σ h1
      | .bl true => .ok (.bl true) h1
      | _ => .no
/-- the tests of a comprehension -/
def evIfs : EL → Sg → Hh → R Bool
  | .nil, _, h => .ok true h
  | .cons e es, σ, h => (evE e σ h).bind fun v h1 => match v with
    | .bl true => evIfs es σ h1
    | .bl false => .ok false h1
    | _ => .no
def evO : O → Sg → Hh → R (Option Int)
  | .none, _, h => .ok none h
  | .some e, σ, h => (evE e σ h).bind fun v h1 => match v with
    | .int i => .ok (some i) h1
    | _ => .no
def evI : I → Sg → Hh → R It
  | .seq e, σ, h => (evE e σ h).bind fun v h1 => R.of ((srcOf h1 v).map .seq) h1
  | .rng1 a _ _, σ, h => (evE a σ h).bind fun v h1 => match v with
    | .int n => if intOk n then .ok (.ints 0 1 n.toNat) h1 else .no
    | _ => .no
  | .rng2 a b _ _, σ, h => (evE a σ h).bind fun x h1 => (evE b σ h1).bind fun y h2 => match x, y with
    | .int i, .int j => if intOk i && intOk j then .ok (.ints i 1 (j - i).toNat) h2 else .no
    | _, _ => .no
  | .rng3 a b d _ _, σ, h => (evE a σ h).bind fun x h1 => (evE b σ h1).bind fun y h2 => (evE d σ h2).bind fun z h3 => match x, y, z with
    | .int i, .int j, .int c => if intOk i && intOk j && decide (0 < c) && decide (c < 1073741824) then .ok (.ints i c ((j - i + c - 1) / c).toNat) h3 else .no
    | _, _, _ => .no
  | .enum e _ _, σ, h => (evE e σ h).bind fun v h1 => R.of ((srcOf h1 v).map .enum) h1
  | .zip a b _ _, σ, h => (evE a σ h).bind fun x h1 => (evE b σ h1).bind fun y h2 => match srcOf h2 x, srcOf h2 y with
    | some (.t s), some (.t t) => .ok (.zip (.t s) (.t t)) h2
    | some (.l s), some (.l t) => .ok (.zip (.l s) (.l t)) h2
    | _, _ => .no
def evG : G → Dv → Sg → Hh → R Sg
  | .name i _, v, σ, h => .ok (σ.set i (some v)) h
  | .tup gs _ _, v, σ, h => match v with
    | .tup xs => if decide (xs.length = glLen gs) then evGL gs xs σ h else .no
    | _ => .no
  | .sub a b _, v, σ, h => (evE a σ h).bind fun x h1 => (evE b σ h1).bind fun y h2 => (sets x y v h2).bind fun _ h3 => .ok σ h3
def evGL : GL → List Dv → Sg → Hh → R Sg
  | .nil, vs, σ, h => match vs with
    | [] => .ok σ h
    | _ => .no
  | .cons g gs, vs, σ, h => match vs with
    | v :: r => (evG g v σ h).bind fun σ1 h1 => evGL gs r σ1 h1
    | [] => .no
end
mutual
def evS : S → Sg → Hh → RS
  | .asg g e _, σ, h => (evE F e σ h).toS σ fun v h1 => (evG F g v σ h1).noX.toS σ fun σ1 h2 => .nx σ1 h2
  | .par i j _ _ _ _ a b _ _ _, σ, h => (evE F a σ h).toS σ fun x h1 => (evE F b σ h1).toS σ fun y h2 => .nx ((σ.set i (some x)).set j (some y)) h2
  | .setlc i _ own sc tg it ifs elt q _, σ, h => (evE F (.lc own sc tg it ifs elt q) σ h).toS σ fun v h1 => .nx (σ.set i (some v)) h1
  | .aug i _ op e _, σ, h => match σ[i]? with
    | some (some x) => (evE F e σ h).toS σ fun y h1 => match op, x, y with
      | .add, .int i0, .int j0 => .nx (σ.set i (some (.int (i0 + j0)))) h1
      | .sub, .int i0, .int j0 => .nx (σ.set i (some (.int (i0 - j0)))) h1
      | _, _, _ => .no
    | _ => .no
  | .exp e _, σ, h => (evE F e σ h).toS σ fun _ h1 => .nx σ h1
  | .ret e _, σ, h => (evE F e σ h).toS σ fun v h1 => .rt v h1
  | .retn _, _, h => .rt .non h
  | .ifs t a b _, σ, h => (evE F t σ h).toS σ fun v h1 => match v with
    | .bl true => evSL a σ h1
    | .bl false => evSL b σ h1
    | _ => .no
  | .for g it b _, σ, h => (evI F it σ h).toS σ fun J h1 => forL (fun v σ1 h2 => (evG F g v σ1 h2).noX.toS σ1 fun σ2 h3 => evSL b σ2 h3) J F.wf 0 σ h1
  | .whl t b _, σ, h => whileL (fun σ1 h1 => evE F t σ1 h1) (fun σ1 h1 => evSL b σ1 h1) F.wf σ h
  | .brk _, σ, h => .bk σ h
  | .cnt _, σ, h => .ct σ h
  | .pass _, σ, h => .nx σ h
  | .par3 i j k _ _ _ _ _ a b d _ _ _, σ, h => (evE F a σ h).toS σ fun x h1 => (evE F b σ h1).toS σ fun y h2 => (evE F d σ h2).toS σ fun z h3 => .nx (((σ.set i (some x)).set j (some y)).set k (some z)) h3
  | .nev _, _, _ => .no
def evSL : SL → Sg → Hh → RS
  | .nil, σ, h => .nx σ h
  | .cons s ss, σ, h => match evS s σ h with
    | .nx σ1 h1 => evSL ss σ1 h1
    | r => r
end
end

def RS.toR : RS → R Dv
  | .rt v h => .ok v h
  | .nx _ h => .ok .non h
  | .ex x _ h => .ex x h
  | _ => .no

inductive FD where
  | ir (np ns : Nat) (body : SL)
  | ext (k : Nat) (f : List Dv → Hh → R Dv)
def start (ns : Nat) (vs : List Dv) : Sg := vs.map some ++ List.replicate (ns - vs.length) none
def callN (T : List FD) (wf : Nat) : Nat → Nat → List Dv → Hh → R Dv
  | 0, _, _, _ => .no
  | n + 1, f, vs, h => match T[f]? with
    | some (.ir np ns body) => if vs.length = np then (evSL ⟨callN T wf n, wf⟩ body (start ns vs) h).toR else .no
    | some (.ext k g) => if k ≤ n then g vs h else .no
    | none => .no
end FF
end

section
set_option Elab.async false
set_option linter.all false
set_option maxRecDepth 100000
set_option maxHeartbeats 1000000
/-! FE2: how the small machine's state stands in the abstract heap. -/
namespace FF
open PySem PySem.Spec
open PyProof.Rows hiding St
open L2 hiding start It

/-- the object of a dict with nested keys, by its very entries -/
def dnO (w : World) (P : Program) (a : Addr) (xs : List (NestedKey × Addr × Value)) : HO := .ext fun h =>
  (a == sysModules) = false ∧ ∃ o ep, h.get? a = some o ∧ o.ExactDict ∧ o.data = .dict (xs.map (entryOfKey (nestedKind P w))).toArray ep

section
variable (K : PySem.W.Frag) (w : World) (P : Program)

mutual
/-- how a datum stands: numbers by themselves, tuples by what stands at an address, lists and dicts by their place in ρ -/
def Rp (ρ : List Addr) (H : Hp) : Dv → V → Prop
  | .non, v => v = .non
  | .bl b, v => v = .bl b
  | .int i, v => v = .int i
  | .str s, v => v = .str s
  | .tup xs, v => ∃ a vs, v = .ref a ∧ SqT K H a vs ∧ RpL ρ H xs vs
  | .ref n, v => ∃ a, v = .ref a ∧ ρ[n]? = some a
  | .exn _ _, _ => False
def RpL (ρ : List Addr) (H : Hp) : List Dv → List V → Prop
  | [], vs => vs = []
  | d :: ds, vs => ∃ v r, vs = v :: r ∧ Rp ρ H d v ∧ RpL ρ H ds r
end

def RpO (ρ : List Addr) (H : Hp) : Option Dv → Option V → Prop
  | some d, some v => Rp K ρ H d v
  | none, _ => True
  | some _, none => False

/-- the slots; what is forgotten above may stand below -/
def RpS (ρ : List Addr) (H : Hp) : Sg → St → Prop
  | [], vs => vs = []
  | d :: ds, vs => ∃ v r, vs = v :: r ∧ RpO K ρ H d v ∧ RpS ρ H ds r

def RpK {κ : Type} (ρ : List Addr) (H : Hp) : List (κ × Dv) → List (κ × V) → Prop
  | [], vs => vs = []
  | p :: ds, vs => ∃ v r, vs = (p.1, v) :: r ∧ Rp K ρ H p.2 v ∧ RpK ρ H ds r

/-- the entries of a dict with nested keys -/
def RpN (ρ : List Addr) (H : Hp) : List (NestedKey × Dv) → List (NestedKey × Addr × Value) → Prop
  | [], xs => xs = []
  | p :: ds, xs => ∃ b v u r, xs = (p.1, b, u) :: r ∧ RelV v u ∧ Rp K ρ H p.2 v ∧ Rp K ρ H (dvN p.1) (.ref b) ∧ p.1.depth ≤ 8 ∧ RpN ρ H ds r

def RpOb (ρ : List Addr) (H : Hp) (a : Addr) : Ob → Prop
  | .lst xs => ∃ vs, H a = some (.lst vs) ∧ RpL K ρ H xs vs
  | .fro xs => ∃ o vs, H a = some (.frz o (.lst vs)) ∧ RpL K ρ H xs vs
  | .set is => ∃ S n, H a = some (SetO w a S n) ∧ n = is.length ∧ ∀ k, S k = is.contains k
  | .dk kvs => ∃ kv, H a = some (.dK kv) ∧ RpK K ρ H kvs kv ∧ (kvs.map (·.1)).Nodup
  | .dn kvs => ∃ xs, H a = some (dnO w P a xs) ∧ RpN K ρ H kvs xs ∧ (kvs.map (·.1)).Nodup
  | .ins _ _ => False

structure RpH (ρ : List Addr) (H : Hp) (h : Hh) : Prop where
  len : ρ.length = h.length
  nd : ρ.Nodup
  ob : ∀ (n : Nat) (ob : Ob) (a : Addr), h[n]? = some ob → ρ[n]? = some a → RpOb K w P ρ H a ob

/-- what comes later: more places, all that is not ours stays -/
structure Ltr (ρ : List Addr) (H : Hp) (ρ' : List Addr) (H' : Hp) : Prop where
  pre : ∃ l, ρ' = ρ ++ l ∧ ∀ a ∈ l, H a = none
  keep : ∀ a o, H a = some o → a ∉ ρ → H' a = some o
  there : ∀ a o, H a = some o → ∃ o', H' a = some o'

structure Rep (ρ : List Addr) (H : Hp) (h : Hh) (σ : Sg) (σV : St) : Prop where
  hp : RpH K w P ρ H h
  sl : RpS K ρ H σ σV
end

section
variable {K : PySem.W.Frag} {w : World} {P : Program} {ρ ρ' ρ2 : List Addr} {H H' H2 : Hp} {h h' : Hh}

theorem Ltr.refl : Ltr ρ H ρ H := ⟨⟨[], by simp, by simp⟩, fun _ _ e _ => e, fun _ o e => ⟨o, e⟩⟩
theorem RpOb.there {a : Addr} : ∀ {ob : Ob}, RpOb K w P ρ H a ob → ∃ o, H a = some o ∧ ∀ xs, o ≠ .tup xs
  | .lst _, ⟨_, e, _⟩ => ⟨_, e, fun _ q => nomatch q⟩
  | .fro _, ⟨_, _, e, _⟩ => ⟨_, e, fun _ q => nomatch q⟩
  | .set _, ⟨_, _, e, _⟩ => ⟨_, e, fun _ q => nomatch q⟩
  | .dk _, ⟨_, e, _⟩ => ⟨_, e, fun _ q => nomatch q⟩
  | .dn _, ⟨_, e, _⟩ => ⟨_, e, fun _ q => nomatch q⟩
theorem RpH.at {K : PySem.W.Frag} {w : World} {P : Program} (r : RpH K w P ρ H h) {n : Nat} {ob : Ob} (e : h[n]? = some ob) : ∃ a, ρ[n]? = some a ∧ RpOb K w P ρ H a ob := by
  have hn : n < h.length := (List.getElem?_eq_some_iff.mp e).1
  have hr : n < ρ.length := by rw [r.len]; exact hn
  exact ⟨ρ[n], List.getElem?_eq_getElem hr, r.ob n ob _ e (List.getElem?_eq_getElem hr)⟩
theorem RpH.mem {K : PySem.W.Frag} {w : World} {P : Program} (r : RpH K w P ρ H h) {a : Addr} (m : a ∈ ρ) : ∃ o, H a = some o ∧ ∀ xs, o ≠ .tup xs := by
  obtain ⟨n, hn, e⟩ := List.getElem_of_mem m
  have hh : n < h.length := by rw [← r.len]; exact hn
  exact (r.ob n h[n] a (List.getElem?_eq_getElem hh) (by rw [List.getElem?_eq_getElem hn, e])).there
theorem Ltr.trans {K : PySem.W.Frag} {w : World} {P : Program} (r' : RpH K w P ρ' H' h') (a : Ltr ρ H ρ' H') (b : Ltr ρ' H' ρ2 H2) : Ltr ρ H ρ2 H2 := by
  obtain ⟨l, e, hl⟩ := a.pre
  obtain ⟨l2, e2, hl2⟩ := b.pre
  refine ⟨⟨l ++ l2, by rw [e2, e, List.append_assoc], fun x hx => ?_⟩, fun x o hx nx => ?_, fun x o hx => ?_⟩
  · rcases List.mem_append.mp hx with hx | hx
    · exact hl x hx
    · cases q : H x with
      | none => rfl
      | some o =>
        obtain ⟨o', q'⟩ := a.there x o q
        rw [hl2 x hx] at q'
        cases q'
  · refine b.keep x o (a.keep x o hx nx) fun m => ?_
    rw [e] at m
    rcases List.mem_append.mp m with m | m
    · exact nx m
    · rw [hl x m] at hx
      cases hx
  · obtain ⟨o', q⟩ := a.there x o hx
    exact b.there x o' q
theorem Ltr.get (a : Ltr ρ H ρ' H') {n : Nat} {x : Addr} (e : ρ[n]? = some x) : ρ'[n]? = some x := by
  obtain ⟨l, q, _⟩ := a.pre
  rw [q, List.getElem?_append_left (List.getElem?_eq_some_iff.mp e).1, e]

/-- a tuple that stands, and is none of ours -/
theorem SqT.ltr (r : RpH K w P ρ H h) (a : Ltr ρ H ρ' H') {x : Addr} {xs : List V} (t : SqT K H x xs) : SqT K H' x xs := by
  rcases t with (t | ⟨o, t⟩) | t
  · refine .inl (.inl (a.keep x _ t fun m => ?_))
    obtain ⟨o, e, q⟩ := r.mem m
    rw [t] at e
    cases e
    exact q _ rfl
  · by_cases m : x ∈ ρ
    · exfalso
      obtain ⟨n, hn, e⟩ := List.getElem_of_mem m
      have hh : n < h.length := by rw [← r.len]; exact hn
      have q := r.ob n h[n] x (List.getElem?_eq_getElem hh) (by rw [List.getElem?_eq_getElem hn, e])
      generalize h[n] = ob at q
      cases ob with
      | lst _ => obtain ⟨_, z, _⟩ := q; rw [t] at z; cases z
      | fro _ => obtain ⟨_, _, z, _⟩ := q; rw [t] at z; cases z
      | set _ => obtain ⟨_, _, z, _⟩ := q; rw [t] at z; cases z
      | dk _ => obtain ⟨_, z, _⟩ := q; rw [t] at z; cases z
      | dn _ => obtain ⟨_, z, _⟩ := q; rw [t] at z; cases z
      | ins _ _ => exact q
    · exact .inl (.inr ⟨o, a.keep x _ t m⟩)
  · exact .inr t
mutual
theorem Rp.ltr (r : RpH K w P ρ H h) (a : Ltr ρ H ρ' H') : ∀ {d : Dv} {v : V}, Rp K ρ H d v → Rp K ρ' H' d v
  | .non, _, x => by simpa only [Rp] using x
  | .bl _, _, x => by simpa only [Rp] using x
  | .int _, _, x => by simpa only [Rp] using x
  | .str _, _, x => by simpa only [Rp] using x
  | .tup xs, _, x => by
    simp only [Rp] at x ⊢
    obtain ⟨b, vs, e, t, l⟩ := x
    exact ⟨b, vs, e, SqT.ltr r a t, RpL.ltr r a l⟩
  | .ref n, _, x => by
    simp only [Rp] at x ⊢
    obtain ⟨b, e, q⟩ := x
    exact ⟨b, e, a.get q⟩
  | .exn _ _, _, x => by simp only [Rp] at x
theorem RpL.ltr (r : RpH K w P ρ H h) (a : Ltr ρ H ρ' H') : ∀ {d : List Dv} {v : List V}, RpL K ρ H d v → RpL K ρ' H' d v
  | [], _, x => by simpa only [RpL] using x
  | _ :: _, _, x => by
    simp only [RpL] at x ⊢
    obtain ⟨v, q, e, x, l⟩ := x
    exact ⟨v, q, e, Rp.ltr r a x, RpL.ltr r a l⟩
end
theorem RpO.ltr (r : RpH K w P ρ H h) (a : Ltr ρ H ρ' H') : ∀ {d : Option Dv} {v : Option V}, RpO K ρ H d v → RpO K ρ' H' d v
  | none, _, _ => trivial
  | some _, some _, x => Rp.ltr r a x
theorem RpS.ltr (r : RpH K w P ρ H h) (a : Ltr ρ H ρ' H') : ∀ {d : Sg} {v : St}, RpS K ρ H d v → RpS K ρ' H' d v
  | [], _, x => x
  | _ :: _, _, ⟨v, q, e, x, l⟩ => ⟨v, q, e, RpO.ltr r a x, RpS.ltr r a l⟩
theorem RpK.ltr {κ : Type} (r : RpH K w P ρ H h) (a : Ltr ρ H ρ' H') : ∀ {d : List (κ × Dv)} {v : List (κ × V)}, RpK K ρ H d v → RpK K ρ' H' d v
  | [], _, x => x
  | _ :: _, _, ⟨v, q, e, x, l⟩ => ⟨v, q, e, Rp.ltr r a x, RpK.ltr r a l⟩
theorem RpN.ltr (r : RpH K w P ρ H h) (a : Ltr ρ H ρ' H') : ∀ {d : List (NestedKey × Dv)} {v : List (NestedKey × Addr × Value)}, RpN K ρ H d v → RpN K ρ' H' d v
  | [], _, x => x
  | _ :: _, _, ⟨b, v, u, q, e, z, x, y, dd, l⟩ => ⟨b, v, u, q, e, z, Rp.ltr r a x, Rp.ltr r a y, dd, RpN.ltr r a l⟩
/-- an object that was not written -/
theorem RpOb.ltr (r : RpH K w P ρ H h) (a : Ltr ρ H ρ' H') {x : Addr} (e : H' x = H x) : ∀ {ob : Ob}, RpOb K w P ρ H x ob → RpOb K w P ρ' H' x ob
  | .lst _, ⟨vs, q, l⟩ => ⟨vs, e.trans q, RpL.ltr r a l⟩
  | .fro _, ⟨o, vs, q, l⟩ => ⟨o, vs, e.trans q, RpL.ltr r a l⟩
  | .set _, ⟨S, n, q, l⟩ => ⟨S, n, e.trans q, l⟩
  | .dk _, ⟨kv, q, l, n⟩ => ⟨kv, e.trans q, RpK.ltr r a l, n⟩
  | .dn _, ⟨xs, q, l, n⟩ => ⟨xs, e.trans q, RpN.ltr r a l, n⟩

/-! ### a new object, a written one -/
theorem Ltr.new {p : Addr} {o : HO} (hp : H p = none) : Ltr ρ H (ρ ++ [p]) (upd H p o) := by
  refine ⟨⟨[p], rfl, fun a m => by rw [List.mem_singleton.mp m]; exact hp⟩, fun a u e _ => ?_, fun a u e => ?_⟩
  · rw [upd_ne (ne_of_none e hp)]; exact e
  · exact ⟨u, by rw [upd_ne (ne_of_none e hp)]; exact e⟩
/-- .. that is a tuple: no place of ours -/
theorem Ltr.newT {p : Addr} {o : HO} (hp : H p = none) : Ltr ρ H ρ (upd H p o) := by
  refine ⟨⟨[], by simp, by simp⟩, fun a u e _ => ?_, fun a u e => ?_⟩
  · rw [upd_ne (ne_of_none e hp)]; exact e
  · exact ⟨u, by rw [upd_ne (ne_of_none e hp)]; exact e⟩
theorem Ltr.put {p : Addr} {o : HO} (hp : p ∈ ρ) : Ltr ρ H ρ (upd H p o) := by
  refine ⟨⟨[], by simp, by simp⟩, fun a u e na => ?_, fun a u e => ?_⟩
  · rw [upd_ne (fun q => na (by rw [q]; exact hp))]; exact e
  · by_cases q : a = p
    · exact ⟨o, by rw [q, upd_same]⟩
    · exact ⟨u, by rw [upd_ne q]; exact e⟩
theorem RpH.fresh (r : RpH K w P ρ H h) {p : Addr} (hp : H p = none) : p ∉ ρ := fun m => by
  obtain ⟨o, e, _⟩ := r.mem m
  rw [hp] at e
  cases e
theorem RpH.stay (r : RpH K w P ρ H h) (a : Ltr ρ H ρ H') (e : ∀ x ∈ ρ, H' x = H x) : RpH K w P ρ H' h :=
  ⟨r.len, r.nd, fun n ob x e1 e2 => RpOb.ltr r a (e x (List.mem_of_getElem? e2)) (r.ob n ob x e1 e2)⟩
theorem RpH.newT (r : RpH K w P ρ H h) {p : Addr} {o : HO} (hp : H p = none) : RpH K w P ρ (upd H p o) h :=
  r.stay (Ltr.newT hp) fun x m => upd_ne fun q => r.fresh hp (by rw [← q]; exact m)
theorem RpH.new (r : RpH K w P ρ H h) {p : Addr} {o : HO} {ob : Ob} (hp : H p = none) (q : RpOb K w P (ρ ++ [p]) (upd H p o) p ob) : RpH K w P (ρ ++ [p]) (upd H p o) (h ++ [ob]) := by
  have np := r.fresh hp
  refine ⟨by simp [r.len], ?_, fun n ob' x e1 e2 => ?_⟩
  · rw [List.nodup_append]
    refine ⟨r.nd, by simp, fun a m b m2 z => ?_⟩
    rw [List.mem_singleton.mp m2] at z
    exact np (by rw [← z]; exact m)
  · by_cases hn : n < h.length
    · rw [List.getElem?_append_left hn] at e1
      rw [List.getElem?_append_left (by rw [r.len]; exact hn)] at e2
      exact RpOb.ltr r (Ltr.new hp) (upd_ne fun z => np (by rw [← z]; exact List.mem_of_getElem? e2)) (r.ob n ob' x e1 e2)
    · have hl := (List.getElem?_eq_some_iff.mp e1).1
      rw [List.length_append] at hl
      have hn' : n = h.length := by simp at hl; omega
      subst hn'
      rw [List.getElem?_append_right (Nat.le_refl _), Nat.sub_self] at e1
      rw [← r.len, List.getElem?_append_right (Nat.le_refl _), Nat.sub_self] at e2
      cases e1
      cases e2
      exact q
theorem RpH.put (r : RpH K w P ρ H h) {p : Addr} {o : HO} {ob : Ob} {n : Nat} (hp : ρ[n]? = some p) (q : RpOb K w P ρ (upd H p o) p ob) : RpH K w P ρ (upd H p o) (h.set n ob) := by
  have hn : n < h.length := by rw [← r.len]; exact (List.getElem?_eq_some_iff.mp hp).1
  refine ⟨by simp [r.len], r.nd, fun m ob' x e1 e2 => ?_⟩
  by_cases hm : n = m
  · subst hm
    rw [hp] at e2
    cases e2
    rw [List.getElem?_set_self hn] at e1
    cases e1
    exact q
  · rw [List.getElem?_set_ne hm] at e1
    refine RpOb.ltr r (Ltr.put (List.mem_of_getElem? hp)) (upd_ne fun z => hm ?_) (r.ob m ob' x e1 e2)
    subst z
    obtain ⟨l1, q1⟩ := List.getElem?_eq_some_iff.mp hp
    obtain ⟨l2, q2⟩ := List.getElem?_eq_some_iff.mp e2
    exact (List.getElem_inj r.nd).mp (q1.trans q2.symm)

/-! ### lists of data -/
theorem RpL.len : ∀ {ds : List Dv} {vs : List V}, RpL K ρ H ds vs → ds.length = vs.length
  | [], _, x => by simp only [RpL] at x; rw [x]; rfl
  | _ :: _, _, x => by
    simp only [RpL] at x
    obtain ⟨v, r, e, _, l⟩ := x
    rw [e, List.length_cons, List.length_cons, RpL.len l]
theorem RpL.get : ∀ {ds : List Dv} {vs : List V} {i : Nat} {d : Dv}, RpL K ρ H ds vs → ds[i]? = some d → ∃ v, vs[i]? = some v ∧ Rp K ρ H d v
  | [], _, _, _, _, e => by simp at e
  | _ :: _, _, 0, _, x, e => by
    simp only [RpL] at x
    obtain ⟨v, r, rfl, x, l⟩ := x
    simp at e
    subst e
    exact ⟨v, rfl, x⟩
  | _ :: _, _, i + 1, _, x, e => by
    simp only [RpL] at x
    obtain ⟨v, r, rfl, x, l⟩ := x
    simpa using RpL.get (i := i) l (by simpa using e)
theorem RpL.none {ds : List Dv} {vs : List V} {i : Nat} (x : RpL K ρ H ds vs) (e : ds[i]? = Option.none) : vs[i]? = Option.none := by
  rw [List.getElem?_eq_none_iff] at e ⊢
  rw [← x.len]
  exact e
theorem RpL.append : ∀ {ds es : List Dv} {vs us : List V}, RpL K ρ H ds vs → RpL K ρ H es us → RpL K ρ H (ds ++ es) (vs ++ us)
  | [], _, _, _, x, y => by simp only [RpL] at x; rw [x]; exact y
  | _ :: _, _, _, _, x, y => by
    simp only [RpL] at x
    obtain ⟨v, r, rfl, x, l⟩ := x
    show RpL K ρ H (_ :: (_ ++ _)) _
    simp only [RpL]
    exact ⟨v, _, rfl, x, RpL.append l y⟩
theorem RpL.one {d : Dv} {v : V} (x : Rp K ρ H d v) : RpL K ρ H [d] [v] := by
  simp only [RpL]
  exact ⟨v, [], rfl, x, rfl⟩
theorem RpL.drop : ∀ {ds : List Dv} {vs : List V} (n : Nat), RpL K ρ H ds vs → RpL K ρ H (ds.drop n) (vs.drop n)
  | _, _, 0, x => x
  | [], _, n + 1, x => by simp only [RpL] at x; rw [x]; simp only [List.drop_nil, RpL]
  | _ :: _, _, n + 1, x => by
    simp only [RpL] at x
    obtain ⟨v, r, rfl, x, l⟩ := x
    exact RpL.drop n l
theorem RpL.take : ∀ {ds : List Dv} {vs : List V} (n : Nat), RpL K ρ H ds vs → RpL K ρ H (ds.take n) (vs.take n)
  | _, _, 0, x => by simp only [List.take_zero, RpL]
  | [], _, n + 1, x => by simp only [RpL] at x; rw [x]; simp only [List.take_nil, RpL]
  | _ :: _, _, n + 1, x => by
    simp only [RpL] at x
    obtain ⟨v, r, rfl, x, l⟩ := x
    simp only [List.take_succ_cons, RpL]
    exact ⟨v, _, rfl, x, RpL.take n l⟩
theorem RpL.set : ∀ {ds : List Dv} {vs : List V} (i : Nat) {d : Dv} {v : V}, RpL K ρ H ds vs → Rp K ρ H d v → RpL K ρ H (ds.set i d) (vs.set i v)
  | [], _, i, _, _, x, _ => by simp only [RpL] at x; rw [x]; simp only [List.set_nil, RpL]
  | _ :: _, _, 0, _, _, x, y => by
    simp only [RpL] at x
    obtain ⟨v, r, rfl, x, l⟩ := x
    simp only [List.set_cons_zero, RpL]
    exact ⟨_, _, rfl, y, l⟩
  | _ :: _, _, i + 1, _, _, x, y => by
    simp only [RpL] at x
    obtain ⟨v, r, rfl, x, l⟩ := x
    simp only [List.set_cons_succ, RpL]
    exact ⟨_, _, rfl, x, RpL.set i l y⟩
theorem RpL.flat {ds : List Dv} {vs : List V} (x : RpL K ρ H ds vs) : ∀ k : Nat, RpL K ρ H (List.replicate k ds).flatten (List.replicate k vs).flatten
  | 0 => by simp only [List.replicate_zero, List.flatten_nil, RpL]
  | k + 1 => by
    simp only [List.replicate_succ, List.flatten_cons]
    exact x.append (RpL.flat x k)
theorem RpL.ints (f : Nat → Int) : ∀ l : List Nat, RpL K ρ H (l.map fun i => Dv.int (f i)) (l.map fun i => V.int (f i))
  | [] => by simp only [List.map_nil, RpL]
  | i :: l => by
    simp only [List.map_cons, RpL]
    exact ⟨_, _, rfl, by simp only [Rp], RpL.ints f l⟩
theorem RpL.ref {xs : List Dv} {vs : List V} (x : RpL K ρ H xs vs) {a : Addr} (t : SqT K H a vs) : Rp K ρ H (.tup xs) (.ref a) := by
  simp only [Rp]
  exact ⟨a, vs, rfl, t, x⟩

/-! ### slots -/
theorem RpS.get : ∀ {ds : Sg} {vs : St} {i : Nat} {d : Dv}, RpS K ρ H ds vs → ds[i]? = some (some d) → ∃ v, vs[i]? = some (some v) ∧ Rp K ρ H d v
  | [], _, _, _, _, e => by simp at e
  | o :: _, _, 0, d, ⟨v, r, hq, x, l⟩, e => by
    subst hq
    simp at e
    subst e
    cases v with
    | none => exact x.elim
    | some v => exact ⟨v, rfl, x⟩
  | _ :: _, _, i + 1, _, ⟨v, r, hq, x, l⟩, e => by
    subst hq
    simpa using RpS.get (i := i) l (by simpa using e)
theorem RpS.set : ∀ {ds : Sg} {vs : St} (i : Nat) {d : Dv} {v : V}, RpS K ρ H ds vs → Rp K ρ H d v → RpS K ρ H (ds.set i (some d)) (vs.set i (some v))
  | [], _, _, _, _, x, _ => by rw [show _ = _ from x]; simp [RpS]
  | _ :: _, _, 0, _, _, ⟨v, r, hq, x, l⟩, y => by subst hq; exact ⟨_, _, rfl, y, l⟩
  | _ :: _, _, i + 1, _, _, ⟨v, r, hq, x, l⟩, y => by subst hq; exact ⟨_, _, rfl, x, RpS.set i l y⟩
theorem RpS.gone : ∀ {ds : Sg} {vs : St} (i : Nat), RpS K ρ H ds vs → RpS K ρ H (ds.set i none) (vs.set i none)
  | [], _, _, x => by rw [show _ = _ from x]; simp [RpS]
  | _ :: _, _, 0, ⟨v, r, hq, x, l⟩ => by subst hq; exact ⟨_, _, rfl, trivial, l⟩
  | _ :: _, _, i + 1, ⟨v, r, hq, x, l⟩ => by subst hq; exact ⟨_, _, rfl, x, RpS.gone i l⟩
theorem RpS.wipe {ds : Sg} {vs : St} (x : RpS K ρ H ds vs) : ∀ l : List Nat, RpS K ρ H (wipeS ds l) (L2.wipe vs l)
  | [] => x
  | i :: l => (RpS.wipe x l).gone i
theorem RpS.nones : ∀ n : Nat, RpS K ρ H (List.replicate n none) (List.replicate n none)
  | 0 => rfl
  | n + 1 => ⟨_, _, rfl, trivial, RpS.nones n⟩
theorem RpS.start (n : Nat) : ∀ {ds : List Dv} {vs : List V}, RpL K ρ H ds vs → RpS K ρ H (ds.map some ++ List.replicate n none) (vs.map some ++ List.replicate n none)
  | [], _, x => by
    simp only [RpL] at x
    rw [x]
    exact RpS.nones n
  | _ :: _, _, x => by
    simp only [RpL] at x
    obtain ⟨v, r, rfl, x, l⟩ := x
    exact ⟨_, _, rfl, x, RpS.start n l⟩
end
end FF
end

section
set_option Elab.async false
set_option linter.all false
set_option maxRecDepth 100000
set_option maxHeartbeats 1000000
/-! FE3: readings of the small machine's runs, and how they go together. -/
namespace FF
open PySem PySem.Spec
open PyProof.Rows hiding St
open L2 hiding start It

/-- what a run goes on in: the written part, the world, the program; how an exception stands -/
structure Bd where
  K : PySem.W.Frag
  w : World
  P : Program
  XR : Ex → Value → Option Addr → Hp → Prop

section
variable (B : Bd)
abbrev Bd.H (B : Bd) (ρ : List Addr) (H : Hp) (h : Hh) : Prop := RpH B.K B.w B.P ρ H h
abbrev Bd.S (B : Bd) (ρ : List Addr) (H : Hp) (h : Hh) (σ : Sg) (σV : St) : Prop := Rep B.K B.w B.P ρ H h σ σV

/-- the end of an expression's run -/
def Fin (W : WX) (σV : St) (ρ : List Addr) (H : Hp) {α β : Type} (rel : List Addr → Hp → α → β → Prop) (r : R α) (Q : β → Hp → Prop) : Prop := match r with
  | .ok a h' => ∀ ρ' H' x, Ltr ρ H ρ' H' → B.H ρ' H' h' → rel ρ' H' a x → Q x H'
  | .ex x h' => ∀ ρ' H' cls d, Ltr ρ H ρ' H' → B.H ρ' H' h' → B.XR x cls d H' → W cls d σV H'
  | .no => False
variable {B}
theorem Fin.ltr {W : WX} {σV : St} {ρ ρ1 : List Addr} {H H1 : Hp} {h1 : Hh} {α β : Type} {rel : List Addr → Hp → α → β → Prop} {r : R α} {Q : β → Hp → Prop} (rp : B.H ρ1 H1 h1) (l : Ltr ρ H ρ1 H1) (f : Fin B W σV ρ H rel r Q) : Fin B W σV ρ1 H1 rel r Q := by
  cases r with
  | ok a h' => exact fun ρ' H' x l' rp' q => f ρ' H' x (Ltr.trans rp l l') rp' q
  | ex x h' => exact fun ρ' H' c d l' rp' q => f ρ' H' c d (Ltr.trans rp l l') rp' q
  | no => exact f
theorem Fin.bind {W : WX} {σV : St} {ρ : List Addr} {H : Hp} {α α' β β' : Type} {rel : List Addr → Hp → α → β → Prop} {rel' : List Addr → Hp → α' → β' → Prop} {r : R α} {f : α → Hh → R α'} {Q : β' → Hp → Prop} {Q1 : β → Hp → Prop}
    (F : Fin B W σV ρ H rel' (r.bind f) Q) (k : ∀ a h1 ρ1 H1 x, r = .ok a h1 → Ltr ρ H ρ1 H1 → B.H ρ1 H1 h1 → rel ρ1 H1 a x → Fin B W σV ρ1 H1 rel' (f a h1) Q → Q1 x H1) : Fin B W σV ρ H rel r Q1 := by
  cases r with
  | ok a h1 => exact fun ρ' H' x l' rp' q => k a h1 ρ' H' x rfl l' rp' q (Fin.ltr rp' l' F)
  | ex x h' => exact F
  | no => exact F
theorem Fin.of {W : WX} {σV : St} {ρ : List Addr} {H : Hp} {h : Hh} {α β : Type} {rel : List Addr → Hp → α → β → Prop} {o : Option α} {Q : β → Hp → Prop} (F : Fin B W σV ρ H rel (R.of o h) Q) : ∃ a, o = some a ∧ Fin B W σV ρ H rel (.ok a h) Q := by
  cases o with
  | none => exact F.elim
  | some a => exact ⟨a, rfl, F⟩
/-- the state as it stands -/
theorem Fin.now {W : WX} {σV : St} {ρ : List Addr} {H : Hp} {h : Hh} {α β : Type} {rel : List Addr → Hp → α → β → Prop} {a : α} {x : β} {Q : β → Hp → Prop} (F : Fin B W σV ρ H rel (.ok a h) Q) (rp : B.H ρ H h) (q : rel ρ H a x) : Q x H := F ρ H x Ltr.refl rp q

/-- an expression's reading -/
def tE (B : Bd) (F : Fx) (W : WX) (e : E) : TE := fun σV H Q => ∃ ρ h σ, B.S ρ H h σ σV ∧ Fin B W σV ρ H (Rp B.K) (evE F e σ h) Q
def tA (B : Bd) (F : Fx) (W : WX) (es : EL) : TA := fun σV H Q => ∃ ρ h σ, B.S ρ H h σ σV ∧ Fin B W σV ρ H (RpL B.K) (evL F es σ h) Q
/-- a truth value -/
def asB : R Dv → R Bool
  | .ok (.bl b) h => .ok b h
  | .ex x h => .ex x h
  | _ => .no
def relEq {α : Type} : List Addr → Hp → α → α → Prop := fun _ _ a b => b = a
def tT (B : Bd) (F : Fx) (W : WX) (e : E) : TT := fun σV H Q => ∃ ρ h σ, B.S ρ H h σ σV ∧ Fin B W σV ρ H relEq (asB (evE F e σ h)) Q
def tP (B : Bd) (F : Fx) (W : WX) (o : O) : St → Hp → (Option Int → Hp → Prop) → Prop := fun σV H Q => ∃ ρ h σ, B.S ρ H h σ σV ∧ Fin B W σV ρ H relEq (evO F o σ h) Q

theorem asB_bind {r : R Dv} {α : Type} (f : Bool → Hh → R α) : (asB r).bind f = r.bind fun v h => match v with
    | .bl b => f b h
    | _ => .no := by
  cases r with
  | ok v h => cases v <;> rfl
  | ex => rfl
  | no => rfl

/-- W may be asked of more -/
structure Cok (X : Cx) (B : Bd) (N : List Str) (sc : Scope) : Prop where
  K : X.K = B.K
  w : X.w = B.w
  P : X.prog = B.P
  N : X.N = N
  nd : X.N.Nodup
  sc : X.env.scope = sc
  calm : X.calm = true
  room : X.A.units + 66 < cLine
end

section
variable {X : Cx} {e : Expr}
theorem pe_mono {t t' : TE} (h : PE X e t) (k : ∀ σ H Q, t' σ H Q → t σ H Q) : PE X e t' := ⟨fun pins s σ H Q I q => h.run pins s σ H Q I (k σ H Q q)⟩
theorem pt_mono {t t' : TT} (h : PT X e t) (k : ∀ σ H Q, t' σ H Q → t σ H Q) : PT X e t' := ⟨fun pins s σ H Q I q => h.run pins s σ H Q I (k σ H Q q)⟩
theorem pw_mono {t t' : TT} (h : PW X e t) (k : ∀ σ H Q, t' σ H Q → t σ H Q) : PW X e t' := ⟨fun wh pins s σ H Q I q => h.run wh pins s σ H Q I (k σ H Q q)⟩
theorem pa_mono {es : List Expr} {t t' : TA} (h : PA X es t) (k : ∀ σ H Q, t' σ H Q → t σ H Q) : PA X es t' := ⟨fun ps pins s σ H Q I q => h.run ps pins s σ H Q I (k σ H Q q)⟩
theorem ps_mono {st : Stmt} {t t' : TS} (h : PS X st t) (k : ∀ D σ H, t' D σ H → t D σ H) : PS X st t' := ⟨fun pins s σ H D I q => h.run pins s σ H D I (k D σ H q)⟩
theorem pss_mono {st : List Stmt} {t t' : TS} (h : PSs X st t) (k : ∀ D σ H, t' D σ H → t D σ H) : PSs X st t' := ⟨fun pins s σ H D I q => h.run pins s σ H D I (k D σ H q)⟩
theorem pe_or2 {t t' : TE} (h : PE X e t) (h' : PE X e t') : PE X e (fun σ H Q => t σ H Q ∨ t' σ H Q) := ⟨fun pins s σ H Q I q => q.elim (h.run pins s σ H Q I) (h'.run pins s σ H Q I)⟩
theorem ps_or2 {st : Stmt} {t t' : TS} (h : PS X st t) (h' : PS X st t') : PS X st (fun D σ H => t D σ H ∨ t' D σ H) := ⟨fun pins s σ H D I q => q.elim (h.run pins s σ H D I) (h'.run pins s σ H D I)⟩
theorem pi_or2 {tg it : Expr} {t t' : TI} (h : PI X tg it t) (h' : PI X tg it t') : PI X tg it (fun σ H R => t σ H R ∨ t' σ H R) := ⟨fun pins s σ H D I q => q.elim (h.run pins s σ H D I) (h'.run pins s σ H D I)⟩
theorem pi_mono {tg it : Expr} {t t' : TI} (h : PI X tg it t) (k : ∀ σ H Q, t' σ H Q → t σ H Q) : PI X tg it t' := ⟨fun pins s σ H D I q => h.run pins s σ H D I (k _ _ _ q)⟩
theorem pg_mono {tg : Expr} {t t' : TG} (h : PG X tg t) (k : ∀ v σ H Q, t' v σ H Q → t v σ H Q) : PG X tg t' := ⟨fun pins s σ H v u Q I r q => h.run pins s σ H v u Q I r (k _ _ _ _ q)⟩
end

/-! ### looks at the scope -/
def isVis (sc : Scope) (x : Str) : Bool := match sc.names.lookup x with
  | some .local => true
  | some .cell => true
  | some .free => true
  | _ => false
def plainNm (x : Str) : Bool := decide (x ≠ ("__debug__" : Str)) && decide (x ≠ ("__classdict__" : Str))
def isGl (sc : Scope) (x : Str) : Bool := decide (sc.names.lookup x = some .globalImplicit) && decide (x ≠ ("__debug__" : Str)) && decide (x ≠ ("__name__" : Str))
theorem isVis_ok {sc : Scope} {x : Str} (h : isVis sc x = true) : Vis sc x := by
  unfold isVis at h
  unfold Vis
  split at h
  · rename_i q; exact .inl q
  · rename_i q; exact .inr (.inl q)
  · rename_i q; exact .inr (.inr q)
  · cases h
theorem isGl_ok {X : Cx} {sc : Scope} {x : Str} (e : X.env.scope = sc) (h : isGl sc x = true) : Gl X x ∧ (x == ("__debug__" : Str)) = false ∧ x ≠ ("__name__" : Str) := by
  unfold isGl at h
  simp only [Bool.and_eq_true, decide_eq_true_eq] at h
  refine ⟨?_, beq_eq_false_iff_ne.mpr h.1.2, h.2⟩
  show X.env.scope.names.lookup x = _
  rw [e]
  exact h.1.1
def isStar : Expr → Bool
  | .Starred .. => true
  | _ => false
theorem star_of {e : Expr} {es : List Expr} {env : Env} (h : isStar e = false) : starEach (e :: es) env = (false, eval e env) :: starEach es env := by
  cases e <;> first | rfl | cases h
theorem assign_of {e : Expr} {es : List Expr} {env : Env} (h : isStar e = false) : assignEach (e :: es) env = (false, assign e env) :: assignEach es env := by
  cases e <;> first | rfl | cases h
section
variable {c : Ctx}
theorem toE_star : ∀ e : E, isStar (toE c e) = false := fun e => by cases e <;> rfl
theorem toG_star : ∀ e : G, isStar (toG c e) = false := fun e => by cases e <;> rfl
theorem starEL (env : Env) : ∀ es : EL, starEach (toEL c es) env = (toEL c es).map fun e => (false, eval e env)
  | .nil => rfl
  | .cons e es => by
    show starEach (toE c e :: toEL c es) env = _
    rw [star_of (toE_star e), starEL env es]
    rfl
theorem anyStar {pos : Pos} (env : Env) (es : EL) : (backTo pos (starEach (toEL c es) env)).any (·.1) = false := by
  rw [starEL]
  unfold backTo
  simp [List.any_eq_false]
theorem assignGL (env : Env) : ∀ gs : GL, assignEach (toGL c gs) env = (toGL c gs).map fun e => (false, assign e env)
  | .nil => rfl
  | .cons g gs => by
    show assignEach (toG c g :: toGL c gs) env = _
    rw [assign_of (toG_star g), assignGL env gs]
    rfl
end
end FF
end

section
set_option Elab.async false
set_option linter.all false
set_option maxRecDepth 100000
set_option maxHeartbeats 4000000
/-! FE4: operators. -/
namespace FF
open PySem PySem.Spec
open PyProof.Rows hiding St
open L2 hiding start It

theorem most_line : most < sizeLine := by rw [sizeLine_eq]; decide
theorem most_le {n : Nat} (h : n ≤ most) : n ≤ sizeLine := Nat.le_of_lt (Nat.lt_of_le_of_lt h most_line)

/-! ### a tuple times 1 is itself -/
theorem tuple_mul1 (l : Addr) (items : Array Value) (n : Nat) (dd : Option Addr) (sl : Array (Option Value)) (u : Tok) :
    Meets (Builtin.«tuple.__mul__» ⟨[.ref l, .int 1 u], []⟩) (fun _ R s => s.heap.get? l = some { cls := .type "tuple", dict := dd, data := .seq items n, slots := sl } ∧
      R (.ok (.ret (Value.ref l))) s) :=
  .of_wp fun prog w A R s h => by
    obtain ⟨hp, g, d, tk, os⟩ := s
    obtain ⟨hl, h⟩ := h
    have f1 := AutoSeq1.idx_int
    wp_walk using wpAny_loadPart' hl
    exact ⟨_, rfl, h⟩
section
variable {X : Cx}
theorem op_rep1 : OpR X (binaryOp .Mult) (fun x y H Q => ∃ l xs, x = .ref l ∧ y = .int 1 ∧ SqT X.K H l xs ∧ Q (.ref l) H) := by
  intro pins s σ H x y v u Q I rx ry h
  obtain ⟨l, xs, rfl, rfl, hT, q⟩ := h
  cases rx
  obtain ⟨t, rfl⟩ := ry
  obtain ⟨its, r, ⟨⟨cls, dd, data, sl⟩, ho, hc, n, hd⟩, hs⟩ := I.tuple hT
  simp only at hc hd
  subst hc hd
  refine wpAny_binaryOp_repeat_ref (T := "tuple") (U := "int") (by decide) ⟨_, ho, rfl⟩ (fun s' => typeIs_int s' 1 t) noFill_tuple_mul F.fills_int_mul F.slot_int_rmul repeat_tuple F.slot_int_index.lookup
    (call_meets F.slot_int_rmul (typeIs_int s 1 t) F.entry_int_rmul (F.args_int_rmul_2 _ _) (int_rmul_tuple 1 t l its.toArray n dd sl)
      ⟨ho, rfl, ⟨_, ho, rfl⟩, call_meets F.slot_tuple_mul ⟨_, ho, rfl⟩ F.entry_tuple_mul (F.args_tuple_mul_2 _ _) (tuple_mul1 l its.toArray n dd sl t) ⟨ho, ?_⟩⟩)
  exact ⟨.ref l, H, I, rfl, q⟩

/-- what bop gives -/
def rBop (B : Bd) (op : BO) : R2 := fun x y H Q => ∃ ρ h a b, B.H ρ H h ∧ Rp B.K ρ H a x ∧ Rp B.K ρ H b y ∧ Fin B (fun _ _ _ _ => False) [] ρ H (Rp B.K) (bop op a b h) Q
theorem run_op {f : Value → Value → Sem Value} {r : R2} (o : OpR X f r) {pins : List (Addr × Obj)} {s : Shared} {σ : St} {H : Hp} {x y : V} {v u : Value} {Q : VK} (I : Inv X pins σ H s) (rx : RelV x v) (ry : RelV y u) (h : r x y H Q) :
    wpAny (model X.prog X.w) X.A (f v u) (EP X pins σ Q) X.xe s := o pins s σ H x y v u Q I rx ry h
theorem seqOf_some {h : Hh} {a : Nat} {xs : List Dv} (e : bop.seqOf h a = some xs) : h[a]? = some (.lst xs) := by
  unfold bop.seqOf at e
  split at e
  · rename_i q; cases e; exact q
  · cases e
theorem rp_lst {K : PySem.W.Frag} {w : World} {P : Program} {ρ : List Addr} {H : Hp} {h : Hh} {n : Nat} {xs : List Dv} {a : Addr} (rp : RpH K w P ρ H h) (e : h[n]? = some (.lst xs)) (ea : ρ[n]? = some a) : ∃ vs, H a = some (.lst vs) ∧ RpL K ρ H xs vs := rp.ob n _ a e ea
theorem op_bop {B : Bd} (hK : X.K = B.K) (op : BO) : OpR X (binaryOp (boOf op)) (rBop B op) := by
  intro pins s σ H x y v u Q I rx ry h
  obtain ⟨ρ, h, a, b, rp, ra, rb, fin⟩ := h
  cases op with
  | add =>
    cases a with
    | int i =>
      cases b with
      | int j =>
        simp only [Rp] at ra rb
        exact run_op op_add I rx ry ⟨i, j, ra, rb, fin.now rp (by simp only [Rp])⟩
      | _ => exact fin.elim
    | str i =>
      cases b with
      | str j =>
        simp only [Rp] at ra rb
        simp only [bop] at fin
        split at fin <;> rename_i c
        · exact run_op op_add_str I rx ry ⟨i, j, ra, rb, most_le (of_decide_eq_true c), fin.now rp (by simp only [Rp])⟩
        · exact fin.elim
      | _ => exact fin.elim
    | tup xs =>
      cases b with
      | tup ys =>
        simp only [Rp] at ra rb
        obtain ⟨p, vs, rfl, tp, lp⟩ := ra
        obtain ⟨q, us, rfl, tq, lq⟩ := rb
        simp only [bop] at fin
        split at fin <;> rename_i c
        · have c := of_decide_eq_true c
          rw [lp.len, lq.len] at c
          rw [← hK] at tp tq
          refine run_op op_catA I rx ry ⟨p, q, vs, us, rfl, rfl, tp, tq, most_le c, fun e => ?_, fun _ e => ?_, fun _ _ z hz => ?_⟩
          · refine fin.now rp (RpL.ref (lp.append lq) ?_)
            rw [e, List.nil_append, ← hK]; exact tq
          · refine fin.now rp (RpL.ref (lp.append lq) ?_)
            rw [e, List.append_nil, ← hK]; exact tp
          · exact fin ρ _ _ (Ltr.newT hz) (rp.newT hz) (RpL.ref (RpL.ltr rp (Ltr.newT hz) (lp.append lq)) (.inl (.inl upd_same)))
        · exact fin.elim
      | _ => exact fin.elim
    | ref n =>
      cases b with
      | ref m =>
        simp only [bop] at fin
        split at fin
        · rename_i xs ys e1 e2
          split at fin <;> rename_i c
          · have c := of_decide_eq_true c
            simp only [Rp] at ra rb
            obtain ⟨p, rfl, ep⟩ := ra
            obtain ⟨q, rfl, eq⟩ := rb
            obtain ⟨vs, hp, lp⟩ := rp_lst rp (seqOf_some e1) ep
            obtain ⟨us, hq, lq⟩ := rp_lst rp (seqOf_some e2) eq
            rw [lp.len, lq.len] at c
            refine run_op op_cat I rx ry ⟨p, q, vs, us, rfl, rfl, hp, hq, most_le c, fun z hz => ?_⟩
            refine fin _ _ _ (Ltr.new hz) (rp.new hz ⟨_, upd_same, RpL.ltr rp (Ltr.new hz) (lp.append lq)⟩) ?_
            simp only [Rp]
            exact ⟨z, rfl, by rw [← rp.len, List.getElem?_append_right (Nat.le_refl _), Nat.sub_self]; rfl⟩
          · exact fin.elim
        · exact fin.elim
      | _ => exact fin.elim
    | _ => exact fin.elim
  | sub =>
    cases a with
    | int i =>
      cases b with
      | int j =>
        simp only [Rp] at ra rb
        exact run_op op_sub I rx ry ⟨i, j, ra, rb, fin.now rp (by simp only [Rp])⟩
      | _ => exact fin.elim
    | _ => exact fin.elim
  | mul =>
    cases a with
    | int i =>
      cases b with
      | int j =>
        simp only [Rp] at ra rb
        simp only [bop] at fin
        split at fin <;> rename_i c
        · refine run_op op_mul I rx ry ⟨i, j, ra, rb, ?_, fin.now rp (by simp only [Rp])⟩
          unfold mulOk at c
          simp only [Bool.or_eq_true, Bool.and_eq_true, decide_eq_true_eq] at c
          exact c
        · exact fin.elim
      | _ => exact fin.elim
    | tup xs =>
      cases b with
      | int k =>
        simp only [Rp] at ra rb
        obtain ⟨p, vs, rfl, tp, lp⟩ := ra
        subst rb
        simp only [bop] at fin
        split at fin <;> rename_i c
        · simp only [Bool.and_eq_true, decide_eq_true_eq, Bool.not_eq_true', List.isEmpty_eq_false_iff] at c
          obtain ⟨⟨⟨c1, c2⟩, c3⟩, c4⟩ := c
          by_cases hk : k = 1
          · subst hk
            refine run_op op_rep1 I rx ry ⟨p, vs, rfl, rfl, by rw [hK]; exact tp, fin.now rp ?_⟩
            have e : (List.replicate (Int.toNat 1) xs).flatten = xs := by simp
            rw [e]
            exact RpL.ref lp tp
          · refine run_op op_repT I rx ry ⟨p, k, vs, rfl, rfl, by rw [hK]; exact tp, fun e => c1 ?_, by omega, c3, by rw [← lp.len]; exact c4, fun z hz => ?_⟩
            · have := lp.len
              rw [e] at this
              exact List.eq_nil_of_length_eq_zero this
            · exact fin ρ _ _ (Ltr.newT hz) (rp.newT hz) (RpL.ref (RpL.ltr rp (Ltr.newT hz) (lp.flat _)) (.inl (.inl upd_same)))
        · exact fin.elim
      | _ => exact fin.elim
    | ref n =>
      cases b with
      | int k =>
        simp only [bop] at fin
        split at fin
        · rename_i xs e1
          split at fin <;> rename_i c
          · simp only [Bool.and_eq_true, decide_eq_true_eq] at c
            obtain ⟨⟨c1, c2⟩, c3⟩ := c
            simp only [Rp] at ra rb
            obtain ⟨p, rfl, ep⟩ := ra
            obtain ⟨vs, hp, lp⟩ := rp_lst rp (seqOf_some e1) ep
            rw [lp.len] at c3
            refine run_op op_rep I rx ry ⟨p, k, vs, rfl, rb, hp, by omega, by omega, most_le c3, fun z hz => ?_⟩
            refine fin _ _ _ (Ltr.new hz) (rp.new hz ⟨_, upd_same, RpL.ltr rp (Ltr.new hz) (lp.flat _)⟩) ?_
            simp only [Rp]
            exact ⟨z, rfl, by rw [← rp.len, List.getElem?_append_right (Nat.le_refl _), Nat.sub_self]; rfl⟩
          · exact fin.elim
        · exact fin.elim
      | _ => exact fin.elim
    | _ => exact fin.elim
  | fdiv =>
    cases a with
    | int i =>
      cases b with
      | int j =>
        simp only [Rp] at ra rb
        simp only [bop] at fin
        split at fin <;> rename_i c
        · simp only [Bool.and_eq_true, decide_eq_true_eq] at c
          exact run_op op_fdivN I rx ry ⟨i, j, ra, rb, c, fin.now rp (by simp only [Rp])⟩
        · exact fin.elim
      | _ => exact fin.elim
    | _ => exact fin.elim
  | mod =>
    cases a with
    | int i =>
      cases b with
      | int j =>
        simp only [Rp] at ra rb
        simp only [bop] at fin
        split at fin <;> rename_i c
        · exact run_op op_modN I rx ry ⟨i, j, ra, rb, of_decide_eq_true c, fin.now rp (by simp only [Rp])⟩
        · exact fin.elim
      | _ => exact fin.elim
    | _ => exact fin.elim
  | pow =>
    cases a with
    | int i =>
      cases b with
      | int j =>
        simp only [Rp] at ra rb
        simp only [bop] at fin
        split at fin <;> rename_i c
        · simp only [Bool.and_eq_true, decide_eq_true_eq] at c
          exact run_op op_pow I rx ry ⟨i, j, ra, rb, ⟨c.1.1, c.1.2, c.2⟩, fin.now rp (by simp only [Rp])⟩
        · exact fin.elim
      | _ => exact fin.elim
    | _ => exact fin.elim
end
end FF
end

section
set_option Elab.async false
set_option linter.all false
set_option maxRecDepth 100000
set_option maxHeartbeats 4000000
/-! FE5: comparisons. -/
namespace FF
open PySem PySem.Spec PySem.SeqAt
open PyProof.Rows hiding St
open L2 hiding start It

/-! ### data of the heap -/
section
variable {K : PySem.W.Frag} {w : World} {P : Program} {ρ : List Addr} {H : Hp} {h : Hh}
theorem mapM_cons_some {α β : Type} {f : α → Option β} {x : α} {xs : List α} {ys : List β} (e : (x :: xs).mapM f = some ys) : ∃ y zs, ys = y :: zs ∧ f x = some y ∧ xs.mapM f = some zs := by
  rw [List.mapM_cons] at e
  cases hx : f x with
  | none => rw [hx] at e; cases e
  | some y =>
    rw [hx] at e
    cases hz : xs.mapM f with
    | none => rw [hz] at e; cases e
    | some zs => rw [hz] at e; cases e; exact ⟨y, zs, rfl, rfl, rfl⟩
theorem toD_ref {n a : Nat} {t : PyData} (e : toD (n + 1) h (.ref a) = some t) : ∃ xs ts, (h[a]? = some (.lst xs) ∨ h[a]? = some (.fro xs)) ∧ xs.mapM (toD n h) = some ts ∧ t = .list ts := by
  simp only [toD] at e
  split at e
  · rename_i xs q
    obtain ⟨ts, q2, rfl⟩ := Option.map_eq_some_iff.mp e
    exact ⟨xs, ts, .inl q, q2, rfl⟩
  · rename_i xs q
    obtain ⟨ts, q2, rfl⟩ := Option.map_eq_some_iff.mp e
    exact ⟨xs, ts, .inr q, q2, rfl⟩
  · cases e
theorem dp_all {n : Nat} (ih : ∀ (d : Dv) (v : V) (t : PyData), toD n h d = some t → Rp K ρ H d v → Dp K H v t) : ∀ (xs : List Dv) (vs : List V) (ts : List PyData), xs.mapM (toD n h) = some ts → RpL K ρ H xs vs → DpAll K H vs ts
  | [], vs, ts, e, r => by
    simp only [RpL] at r
    simp at e
    subst e; subst r
    exact .nil
  | x :: xs, vs, ts, e, r => by
    obtain ⟨y, zs, rfl, hy, hz⟩ := mapM_cons_some e
    simp only [RpL] at r
    obtain ⟨v, q, rfl, r1, r2⟩ := r
    exact .cons (ih x v y hy r1) (dp_all ih xs q zs hz r2)
theorem toD_dp (rp : RpH K w P ρ H h) : ∀ (n : Nat) (d : Dv) (v : V) (t : PyData), toD n h d = some t → Rp K ρ H d v → Dp K H v t
  | 0, _, _, _, e, _ => by simp [toD] at e
  | n + 1, d, v, t, e, r => by
    cases d with
    | non => simp only [toD, Rp] at e r; cases e; rw [r]; exact .non
    | bl b => simp only [toD, Rp] at e r; cases e; rw [r]; exact .bl b
    | int i => simp only [toD, Rp] at e r; cases e; rw [r]; exact .int i
    | str s =>
      simp only [toD, Rp] at e r
      split at e
      · cases e; rw [r]; exact .str s
      · cases e
    | tup xs =>
      simp only [toD, Rp] at e r
      obtain ⟨ts, q, rfl⟩ := Option.map_eq_some_iff.mp e
      obtain ⟨a, vs, rfl, t1, l⟩ := r
      exact .tup t1 (dp_all (toD_dp rp n) xs vs ts q l)
    | ref a =>
      obtain ⟨xs, ts, q, m, rfl⟩ := toD_ref e
      simp only [Rp] at r
      obtain ⟨b, rfl, ea⟩ := r
      rcases q with q | q
      · obtain ⟨vs, hb, l⟩ := rp.ob a _ b q ea
        exact .lst (.inl (.inl hb)) (dp_all (toD_dp rp n) xs vs ts m l)
      · obtain ⟨o, vs, hb, l⟩ := rp.ob a _ b q ea
        exact .lst (.inl (.inr ⟨o, hb⟩)) (dp_all (toD_dp rp n) xs vs ts m l)
    | exn _ _ => simp [toD] at e
theorem dpall_depth {n : Nat} (ih : ∀ (d : Dv) (t : PyData), toD n h d = some t → t.canLay0 = true ∧ t.depth ≤ n) : ∀ (xs : List Dv) (ts : List PyData), xs.mapM (toD n h) = some ts → PyData.canLayAll0 ts = true ∧ PyData.depthAll ts ≤ n
  | [], ts, e => by simp at e; subst e; exact ⟨rfl, Nat.zero_le _⟩
  | x :: xs, ts, e => by
    obtain ⟨y, zs, rfl, hy, hz⟩ := mapM_cons_some e
    obtain ⟨a1, a2⟩ := ih x y hy
    obtain ⟨b1, b2⟩ := dpall_depth ih xs zs hz
    refine ⟨by simp only [PyData.canLayAll0, a1, b1, Bool.and_self], ?_⟩
    simp only [PyData.depthAll]
    omega
theorem toD_depth : ∀ (n : Nat) (d : Dv) (t : PyData), toD n h d = some t → t.canLay0 = true ∧ t.depth ≤ n
  | 0, _, _, e => by simp [toD] at e
  | n + 1, d, t, e => by
    cases d with
    | non => simp only [toD] at e; cases e; exact ⟨rfl, Nat.zero_le _⟩
    | bl b => simp only [toD] at e; cases e; exact ⟨rfl, Nat.zero_le _⟩
    | int i => simp only [toD] at e; cases e; exact ⟨rfl, Nat.zero_le _⟩
    | str s =>
      simp only [toD] at e
      split at e
      · rename_i q; cases e; exact ⟨q, Nat.zero_le _⟩
      · cases e
    | tup xs =>
      simp only [toD] at e
      obtain ⟨ts, q, rfl⟩ := Option.map_eq_some_iff.mp e
      obtain ⟨a1, a2⟩ := dpall_depth (toD_depth n) xs ts q
      refine ⟨by simpa only [PyData.canLay0] using a1, ?_⟩
      simp only [PyData.depth]
      omega
    | ref a =>
      obtain ⟨xs, ts, q, m, rfl⟩ := toD_ref e
      obtain ⟨a1, a2⟩ := dpall_depth (toD_depth n) xs ts m
      refine ⟨by simpa only [PyData.canLay0] using a1, ?_⟩
      simp only [PyData.depth]
      omega
    | exn _ _ => simp [toD] at e
theorem toD_shaped {d : Dv} {t : PyData} (e : toD 8 h d = some t) : shaped t = true := by
  obtain ⟨a, b⟩ := toD_depth 8 d t e
  unfold shaped
  rw [a, Bool.true_and]
  exact decide_eq_true (by omega)
end

/-! ### the order of nested tuples -/
theorem lexAt_shift {e r : Nat → Bool} {z : Bool} : ∀ (k i : Nat), Ob.lexAt (fun j => e (j + 1)) (fun j => r (j + 1)) z i k = Ob.lexAt e r z (i + 1) k
  | 0, _ => rfl
  | k + 1, i => by rw [Ob.lexAt_succ, Ob.lexAt_succ, lexAt_shift k (i + 1)]
theorem lexAt_congr {e e' r r' : Nat → Bool} {z : Bool} : ∀ (k i : Nat), (∀ j, e j = e' j) → (∀ j, r j = r' j) → Ob.lexAt e r z i k = Ob.lexAt e' r' z i k
  | 0, _, _, _ => rfl
  | k + 1, i, h1, h2 => by rw [Ob.lexAt_succ, Ob.lexAt_succ, lexAt_congr k (i + 1) h1 h2, h1, h2]
def endZ (le : Bool) (m n : Nat) : Bool := if le then decide (m ≤ n) else decide (m < n)
def rAt (le : Bool) (n : Nat) (xs ys : List PyData) (j : Nat) : Bool := (ltD le n (xs.getD j .none) (ys.getD j .none)).getD false
theorem go_lex {le : Bool} {n : Nat} : ∀ {xs ys : List PyData} {k : Bool}, ltD.go le n xs ys = some k →
    Ob.lexAt (pairEq xs ys) (rAt le n xs ys) (endZ le xs.length ys.length) 0 (min xs.length ys.length) = k ∧ ∀ (j : Nat) (x y : PyData), xs[j]? = some x → ys[j]? = some y → PyData.eqv x y = false → ∃ b, ltD le n x y = some b
  | [], [], k, e => by
    simp only [ltD.go_nn, ltD.go_nc, ltD.go_cn, ltD.go_cc] at e
    cases e
    exact ⟨by cases le <;> rfl, fun j x y h1 _ _ => by simp at h1⟩
  | [], _ :: _, k, e => by
    simp only [ltD.go_nn, ltD.go_nc, ltD.go_cn, ltD.go_cc] at e
    cases e
    exact ⟨by cases le <;> simp [Ob.lexAt, endZ], fun j x y h1 _ _ => by simp at h1⟩
  | _ :: _, [], k, e => by
    simp only [ltD.go_nn, ltD.go_nc, ltD.go_cn, ltD.go_cc] at e
    cases e
    exact ⟨by cases le <;> simp [Ob.lexAt, endZ], fun j x y _ h1 _ => by simp at h1⟩
  | x :: xs, y :: ys, k, e => by
    have em : min (x :: xs).length (y :: ys).length = min xs.length ys.length + 1 := by simp only [List.length_cons]; omega
    have ez : endZ le (x :: xs).length (y :: ys).length = endZ le xs.length ys.length := by cases le <;> simp [endZ]
    have e0 : pairEq (x :: xs) (y :: ys) 0 = PyData.eqv x y := rfl
    simp only [ltD.go_nn, ltD.go_nc, ltD.go_cn, ltD.go_cc] at e
    rw [em, ez, Ob.lexAt_succ, e0]
    by_cases hx : PyData.eqv x y = true
    · rw [if_pos hx] at e
      rw [if_pos hx]
      obtain ⟨h1, h2⟩ := go_lex e
      refine ⟨?_, fun j a b ha hb hn => ?_⟩
      · rw [← h1, ← lexAt_shift]
        exact lexAt_congr _ _ (fun _ => rfl) (fun _ => rfl)
      · cases j with
        | zero => simp at ha hb; subst ha; subst hb; rw [hx] at hn; cases hn
        | succ j => exact h2 j a b (by simpa using ha) (by simpa using hb) hn
    · rw [if_neg hx] at e
      rw [if_neg hx]
      split at e
      · rename_i hall
        refine ⟨?_, fun j a b ha hb hn => ?_⟩
        · show (ltD le n x y).getD false = k
          rw [e]; rfl
        · cases j with
          | zero => simp at ha hb; subst ha; subst hb; exact ⟨k, e⟩
          | succ j =>
            have ha' : xs[j]? = some a := by simpa using ha
            have hb' : ys[j]? = some b := by simpa using hb
            have hz : (xs.zip ys)[j]? = some (a, b) := by
              rw [List.getElem?_zip_eq_some]
              exact ⟨ha', hb'⟩
            have := (List.all_eq_true.mp hall) (a, b) (List.mem_of_getElem? hz)
            rw [hn, Bool.false_or] at this
            exact Option.isSome_iff_exists.mp this
      · cases e
theorem readsAll_len {h : Heap} : ∀ {us : List Value} {ds : List PyData} {as : List Addr}, ReadsAll h us ds as → us.length = ds.length
  | _, _, _, .nil => rfl
  | _, _, _, .cons _ r => by rw [List.length_cons, List.length_cons, readsAll_len r]
theorem readsAll_get {h : Heap} : ∀ {us : List Value} {ds : List PyData} {as : List Addr} (j : Nat) (u : Value), ReadsAll h us ds as → us[j]? = some u → ∃ d bs, ds[j]? = some d ∧ Reads h u d bs
  | _, _, _, j, u, .nil, e => by simp at e
  | _, _, _, 0, u, .cons r _, e => by simp at e; subst e; exact ⟨_, _, rfl, r⟩
  | _, _, _, j + 1, u, .cons _ r, e => by
    obtain ⟨d, bs, h1, h2⟩ := readsAll_get j u r (by simpa using e)
    exact ⟨d, bs, by simpa using h1, h2⟩
def opOf (le : Bool) : CmpOp := if le then .LtE else .Lt
theorem depth_item : ∀ {xs : List PyData} {j : Nat} {d : PyData}, xs[j]? = some d → d.depth ≤ PyData.depthAll xs ∧ (PyData.canLayAll0 xs = true → d.canLay0 = true)
  | [], _, _, e => by simp at e
  | x :: xs, 0, d, e => by
    simp at e; subst e
    refine ⟨?_, fun h => ?_⟩
    · simp only [PyData.depthAll]; omega
    · simp only [PyData.canLayAll0, Bool.and_eq_true] at h; exact h.1
  | x :: xs, j + 1, d, e => by
    obtain ⟨h1, h2⟩ := depth_item (xs := xs) (j := j) (d := d) (by simpa using e)
    refine ⟨?_, fun h => h2 ?_⟩
    · simp only [PyData.depthAll]; omega
    · simp only [PyData.canLayAll0, Bool.and_eq_true] at h; exact h.2
theorem in1_units {A : Around} : A.in1.units = A.units + 1 := rfl
theorem rc_lt {le : Bool} {s : Shared} : ∀ (n : Nat) (da db : PyData) (A : Around) (a b : Value) (as bs : List Addr) (k : Bool), ltD le n da db = some k → Reads s.heap a da as → Reads s.heap b db bs → da.canLay0 = true → db.canLay0 = true →
    A.units + n + da.depth < cLine → Ob.RcOp (opOf le) A s a b k
  | 0, _, _, _, _, _, _, _, _, e, _, _, _, _, _ => by simp [ltD] at e
  | n + 1, da, db, A, a, b, as, bs, k, e, ra, rb, ca, cb, hu => by
    cases da with
    | int i =>
      cases db with
      | int j =>
        cases ra with
        | int _ t =>
          cases rb with
          | int _ u =>
            cases le with
            | false => simp [ltD] at e; subst e; exact Ob.RcOp.lt_int i j t u
            | true => simp [ltD] at e; subst e; exact Ob.RcOp.le_int i j t u
      | _ => simp [ltD] at e
    | tuple xs =>
      cases db with
      | tuple ys =>
        simp only [ltD] at e
        obtain ⟨e1, e2⟩ := go_lex e
        cases ra with
        | @tuple l o vs m _ as' h1 h2 h3 h4 =>
          cases rb with
          | @tuple l' o' vs' m' _ bs' k1 k2 k3 k4 =>
            have n1 : vs.size = xs.length := by simpa using readsAll_len h4
            have n2 : vs'.size = ys.length := by simpa using readsAll_len k4
            simp only [PyData.canLay0] at ca cb
            simp only [PyData.depth] at hu
            have he : ∀ j (j1 : j < vs.size) (j2 : j < vs'.size), EqAt A.in1 s vs[j] vs'[j] (pairEq xs ys j) := fun j j1 j2 => by
              obtain ⟨d, ds, hd, rd⟩ := readsAll_get j vs[j] h4 (by simp [j1])
              obtain ⟨d', ds', hd', rd'⟩ := readsAll_get j vs'[j] k4 (by simp [j2])
              have ep : pairEq xs ys j = PyData.eqv d d' := by
                show PyData.eqv (xs.getD j .none) (ys.getD j .none) = _
                rw [List.getD_eq_getElem?_getD, List.getD_eq_getElem?_getD, hd, hd']; rfl
              rw [ep]
              have := (depth_item hd).1
              refine eqAt_reads d d' A.in1 s _ _ ds ds' rd rd' ((depth_item hd).2 ca) ((depth_item hd').2 cb) ?_
              rw [in1_units]
              omega
            have hr : ∀ j (j1 : j < vs.size) (j2 : j < vs'.size), pairEq xs ys j = false → Ob.RcOp (opOf le) A.in1 s vs[j] vs'[j] (rAt le n xs ys j) := fun j j1 j2 hj => by
              obtain ⟨d, ds, hd, rd⟩ := readsAll_get j vs[j] h4 (by simp [j1])
              obtain ⟨d', ds', hd', rd'⟩ := readsAll_get j vs'[j] k4 (by simp [j2])
              have ep : pairEq xs ys j = PyData.eqv d d' := by
                show PyData.eqv (xs.getD j .none) (ys.getD j .none) = _
                rw [List.getD_eq_getElem?_getD, List.getD_eq_getElem?_getD, hd, hd']; rfl
              rw [ep] at hj
              obtain ⟨q, hq⟩ := e2 j d d' hd hd' hj
              have er : rAt le n xs ys j = q := by
                show (ltD le n (xs.getD j .none) (ys.getD j .none)).getD false = _
                rw [List.getD_eq_getElem?_getD, List.getD_eq_getElem?_getD, hd, hd']
                show (ltD le n d d').getD false = _
                rw [hq]; rfl
              rw [er]
              have := (depth_item hd).1
              refine rc_lt n d d' A.in1 _ _ ds ds' q hq rd rd' ((depth_item hd).2 ca) ((depth_item hd').2 cb) ?_
              rw [in1_units]
              omega
            rw [← n1, ← n2] at e1
            rw [← e1]
            cases le with
            | false => exact Ob.RcOp.tuples_lt ⟨_, h1, h2, _, h3⟩ ⟨_, k1, k2, _, k3⟩ (by omega) he hr
            | true => exact Ob.RcOp.tuples_le ⟨_, h1, h2, _, h3⟩ ⟨_, k1, k2, _, k3⟩ (by omega) he hr
      | _ => simp [ltD] at e
    | _ => cases db <;> simp [ltD] at e
theorem compare_rc {le : Bool} {prog : Program} {w : World} {A : Around} {E : Value → Shared → Prop} {Q : Value → Shared → Prop} {s : Shared} {a b : Value} {k : Bool} (h : Ob.RcOp (opOf le) A s a b k) (q : Q (.bool k) s) : wpAny (model prog w) A (compareOp (opOf le) a b) Q E s := by
  cases le <;> exact h prog w E Q q

section
variable {X : Cx} {B : Bd}
/-- what cop gives -/
def rCop (B : Bd) (op : CO) : R2 := fun x y H Q => ∃ ρ h a b k, B.H ρ H h ∧ Rp B.K ρ H a x ∧ Rp B.K ρ H b y ∧ cop op a b h = some k ∧ Q (.bl k) H
theorem deq_eq {h : Hh} {a b : Dv} {k : Bool} (e : deq h a b = some k) : (∃ i j, a = .int i ∧ b = .int j ∧ k = decide (i = j)) ∨ (∃ i j, a = .str i ∧ b = .str j ∧ k = decide (i = j)) ∨ (∃ i j, a = .bl i ∧ b = .bl j ∧ k = decide (i = j)) ∨
    ∃ d t, toD 8 h a = some d ∧ toD 8 h b = some t ∧ k = PyData.eqv d t := by
  unfold deq at e
  split at e
  · cases e; exact .inl ⟨_, _, rfl, rfl, rfl⟩
  · cases e; exact .inr (.inl ⟨_, _, rfl, rfl, rfl⟩)
  · cases e; exact .inr (.inr (.inl ⟨_, _, rfl, rfl, rfl⟩))
  · split at e
    · rename_i d t h1 h2
      cases e
      exact .inr (.inr (.inr ⟨d, t, h1, h2, rfl⟩))
    · cases e
theorem dlt_eq {le : Bool} {h : Hh} {a b : Dv} {k : Bool} (e : dlt le h a b = some k) : (∃ i j, a = .int i ∧ b = .int j ∧ k = if le then decide (i ≤ j) else decide (i < j)) ∨ ∃ d t, toD 8 h a = some d ∧ toD 8 h b = some t ∧ ltD le 8 d t = some k := by
  unfold dlt at e
  split at e
  · cases e; exact .inl ⟨_, _, rfl, rfl, rfl⟩
  · split at e
    · rename_i d t h1 h2
      exact .inr ⟨d, t, h1, h2, e⟩
    · cases e
theorem op_ltd (le : Bool) (hK : X.K = B.K) (hu : X.A.units + 66 < cLine) : OpR X (compareOp (opOf le)) (fun x y H Q => ∃ ρ h a b k, B.H ρ H h ∧ Rp B.K ρ H a x ∧ Rp B.K ρ H b y ∧ dlt le h a b = some k ∧ Q (.bl k) H) := by
  intro pins s σ H x y v u Q I rx ry h
  obtain ⟨ρ, h, a, b, k, rp, ra, rb, e, q⟩ := h
  rcases dlt_eq e with ⟨i, j, rfl, rfl, rfl⟩ | ⟨d, t, h1, h2, h3⟩
  · simp only [Rp] at ra rb
    cases le with
    | false => exact run_op op_lt I rx ry ⟨i, j, ra, rb, q⟩
    | true => exact run_op op_le I rx ry ⟨i, j, ra, rb, q⟩
  · obtain ⟨as, r1⟩ := Dp.reads I d x v (by rw [hK]; exact toD_dp rp 8 a x d h1 ra) rx
    obtain ⟨bs, r2⟩ := Dp.reads I t y u (by rw [hK]; exact toD_dp rp 8 b y t h2 rb) ry
    have d1 := toD_depth 8 a d h1
    have d2 := toD_depth 8 b t h2
    exact compare_rc (rc_lt 8 d t X.A v u as bs k h3 r1 r2 d1.1 d2.1 (by omega)) ⟨.bl k, H, I, rfl, q⟩
end
end FF
end

section
set_option Elab.async false
set_option linter.all false
set_option maxRecDepth 100000
set_option maxHeartbeats 4000000
/-! FE6: keys, dicts, membership. -/
namespace FF
open PySem PySem.Spec PySem.SeqAt
open PyProof.Rows hiding St
open L2 hiding start It

/-! ### look-up and store -/
section
variable {κ : Type} [DecidableEq κ] {K : PySem.W.Frag} {ρ : List Addr} {H : Hp}
theorem kLook_rel : ∀ {kvs : List (κ × Dv)} {kv : List (κ × V)} (k : κ), RpK K ρ H kvs kv → (kLook kvs k = none ∧ valV kv k = none) ∨ ∃ d v, kLook kvs k = some d ∧ valV kv k = some v ∧ Rp K ρ H d v
  | [], kv, k, r => by
    rw [show kv = [] from r]
    exact .inl ⟨rfl, rfl⟩
  | p :: kvs, kv, k, ⟨v, q, e, x, l⟩ => by
    subst e
    by_cases hk : p.1 = k
    · refine .inr ⟨p.2, v, ?_, ?_, x⟩
      · obtain ⟨a, b⟩ := p
        show (if a = k then some b else _) = _
        rw [if_pos hk]
      · exact valV_pos (p := (p.1, v)) hk
    · have e1 : kLook (p :: kvs) k = kLook kvs k := by
        obtain ⟨a, b⟩ := p
        show (if a = k then some b else _) = _
        rw [if_neg hk]
      have e2 : valV ((p.1, v) :: q) k = valV q k := valV_neg (p := (p.1, v)) hk
      rw [e1, e2]
      exact kLook_rel k l
theorem kLook_mem {kvs : List (κ × Dv)} {k : κ} : kLook kvs k = none → k ∉ kvs.map (·.1) := by
  induction kvs with
  | nil => intro _ m; cases m
  | cons p kvs ih =>
    intro e m
    obtain ⟨a, b⟩ := p
    have e : (if a = k then some b else kLook kvs k) = none := e
    by_cases hk : a = k
    · rw [if_pos hk] at e; cases e
    · rw [if_neg hk] at e
      rcases List.mem_cons.mp m with z | m
      · exact hk z.symm
      · exact ih e m
theorem kPut_new : ∀ {kvs : List (κ × Dv)} {k : κ} {v : Dv}, kLook kvs k = none → kPut kvs k v = kvs ++ [(k, v)]
  | [], _, _, _ => rfl
  | (a, b) :: kvs, k, v, e => by
    have e : (if a = k then some b else kLook kvs k) = none := e
    by_cases hk : a = k
    · rw [if_pos hk] at e; cases e
    · rw [if_neg hk] at e
      show (if a = k then (a, v) :: kvs else (a, b) :: kPut kvs k v) = _
      rw [if_neg hk, kPut_new e]
      rfl
theorem kPut_keys : ∀ (kvs : List (κ × Dv)) (k : κ) (v : Dv), (kPut kvs k v).map (·.1) = if (kLook kvs k).isSome then kvs.map (·.1) else kvs.map (·.1) ++ [k]
  | [], _, _ => rfl
  | (a, b) :: kvs, k, v => by
    show (if a = k then (a, v) :: kvs else (a, b) :: kPut kvs k v).map (·.1) = if (if a = k then some b else kLook kvs k).isSome then _ else _
    by_cases hk : a = k
    · rw [if_pos hk, if_pos hk]; rfl
    · rw [if_neg hk, if_neg hk, List.map_cons, kPut_keys kvs k v]
      split <;> rfl
theorem kPut_nodup {kvs : List (κ × Dv)} {k : κ} {v : Dv} (n : (kvs.map (·.1)).Nodup) : ((kPut kvs k v).map (·.1)).Nodup := by
  rw [kPut_keys]
  cases e : kLook kvs k with
  | some d => exact n
  | none =>
    have nm := kLook_mem e
    simp only [Option.isSome_none, Bool.false_eq_true, if_false]
    rw [List.nodup_append]
    exact ⟨n, by simp, fun a ha b hb z => nm (by rw [List.mem_singleton.mp hb] at z; rw [← z]; exact ha)⟩
theorem kPut_len (kvs : List (κ × Dv)) (k : κ) (v : Dv) : (kPut kvs k v).length ≤ kvs.length + 1 := by
  have := congrArg List.length (kPut_keys kvs k v)
  rw [List.length_map] at this
  rw [this]
  split <;> simp
theorem RpK.len : ∀ {kvs : List (κ × Dv)} {kv : List (κ × V)}, RpK K ρ H kvs kv → kvs.length = kv.length ∧ kvs.map (·.1) = kv.map (·.1)
  | [], kv, r => by rw [show kv = [] from r]; exact ⟨rfl, rfl⟩
  | p :: kvs, kv, ⟨v, q, e, x, l⟩ => by
    subst e
    obtain ⟨h1, h2⟩ := RpK.len l
    exact ⟨by simp [h1], by simp [h2]⟩
theorem RpK.append : ∀ {kvs kvs2 : List (κ × Dv)} {kv kv2 : List (κ × V)}, RpK K ρ H kvs kv → RpK K ρ H kvs2 kv2 → RpK K ρ H (kvs ++ kvs2) (kv ++ kv2)
  | [], _, kv, _, r, s => by rw [show kv = [] from r]; exact s
  | p :: kvs, _, kv, _, ⟨v, q, e, x, l⟩, s => by subst e; exact ⟨v, _, rfl, x, RpK.append l s⟩
theorem putK_cons_ne {p : κ × V} {r : List (κ × V)} {k : κ} {y : V} (h : ¬ p.1 = k) : putK (p :: r) k y = p :: putK r k y := by
  unfold putK
  rw [List.any_cons, decide_eq_false h, Bool.false_or]
  split
  · rw [List.map_cons, if_neg h]
  · rfl
theorem putK_cons_eq {p : κ × V} {r : List (κ × V)} {k : κ} {y : V} (h : p.1 = k) (n : k ∉ r.map (·.1)) : putK (p :: r) k y = (p.1, y) :: r := by
  unfold putK
  rw [List.any_cons, decide_eq_true h, Bool.true_or, if_pos rfl, List.map_cons, if_pos h]
  congr 1
  refine (List.map_congr_left fun z hz => ?_).trans (List.map_id r)
  have : z.1 ≠ k := fun e => n (by rw [← e]; exact List.mem_map_of_mem hz)
  rw [if_neg this]
  rfl
theorem kPut_rel : ∀ {kvs : List (κ × Dv)} {kv : List (κ × V)} {k : κ} {d : Dv} {y : V}, RpK K ρ H kvs kv → (kvs.map (·.1)).Nodup → Rp K ρ H d y → RpK K ρ H (kPut kvs k d) (putK kv k y)
  | [], kv, k, d, y, r, _, x => by rw [show kv = [] from r]; exact ⟨y, [], rfl, x, rfl⟩
  | (a, b) :: kvs, kv, k, d, y, ⟨v, q, e, z, l⟩, n, x => by
    subst e
    rw [List.map_cons, List.nodup_cons] at n
    show RpK K ρ H (if a = k then (a, d) :: kvs else (a, b) :: kPut kvs k d) _
    by_cases hk : a = k
    · rw [if_pos hk, putK_cons_eq hk (by rw [← (RpK.len l).2, ← hk]; exact n.1)]
      exact ⟨y, q, rfl, x, l⟩
    · rw [if_neg hk, putK_cons_ne hk]
      exact ⟨v, _, rfl, z, kPut_rel l n.2 x⟩
end

/-! ### nested keys -/
theorem nkOf_dv : ∀ (n : Nat) (d : Dv) (k : NestedKey), nkOf n d = some k → dvN k = d ∧ k.depth ≤ n
  | 0, _, _, e => by simp [nkOf] at e
  | n + 1, d, k, e => by
    cases d with
    | int i => simp only [nkOf] at e; cases e; exact ⟨rfl, Nat.zero_le _⟩
    | str i => simp only [nkOf] at e; cases e; exact ⟨rfl, Nat.zero_le _⟩
    | tup xs =>
      simp only [nkOf] at e
      obtain ⟨ks, q, rfl⟩ := Option.map_eq_some_iff.mp e
      have all : ∀ (xs : List Dv) (ks : List NestedKey), xs.mapM (nkOf n) = some ks → dvNs ks = xs ∧ NestedKey.depthAll ks ≤ n := by
        intro xs
        induction xs with
        | nil => intro ks e; simp at e; subst e; exact ⟨rfl, Nat.zero_le _⟩
        | cons x xs ih =>
          intro ks e
          obtain ⟨y, zs, rfl, hy, hz⟩ := mapM_cons_some e
          obtain ⟨a1, a2⟩ := nkOf_dv n x y hy
          obtain ⟨b1, b2⟩ := ih zs hz
          refine ⟨by simp only [dvNs, a1, b1], ?_⟩
          simp only [NestedKey.depthAll]
          omega
      obtain ⟨h1, h2⟩ := all xs ks q
      refine ⟨by simp only [dvN, h1], ?_⟩
      simp only [NestedKey.depth]
      omega
    | _ => simp [nkOf] at e
section
variable {X : Cx} {B : Bd} {pins : List (Addr × Obj)} {σ : L2.St} {H : Hp} {s : Shared} {ρ : List Addr} {h : Hh}
mutual
theorem nk_is (I : Inv X pins σ H s) (hK : X.K = B.K) : ∀ (k : NestedKey) (v : V) (u : Value), Rp B.K ρ H (dvN k) v → RelV v u → NestedIs s.heap k u
  | .none, v, u, r, q => by
    simp only [dvN, Rp] at r
    subst r
    cases q
    exact .none
  | .num i, v, u, r, q => by
    simp only [dvN, Rp] at r
    subst r
    obtain ⟨t, rfl⟩ := q
    exact .int i t
  | .text i, v, u, r, q => by
    simp only [dvN, Rp] at r
    subst r
    obtain ⟨t, rfl⟩ := q
    exact .text i t
  | .tup ks, v, u, r, q => by
    simp only [dvN, Rp] at r
    obtain ⟨a, vs, rfl, t, l⟩ := r
    cases q
    obtain ⟨its, rv, ⟨o, ho, hc, n, hd⟩, _⟩ := I.tuple (by rw [hK]; exact t)
    exact .tup ho hc hd (by simpa using nk_all I hK ks vs its l rv)
theorem nk_all (I : Inv X pins σ H s) (hK : X.K = B.K) : ∀ (ks : List NestedKey) (vs : List V) (us : List Value), RpL B.K ρ H (dvNs ks) vs → Vals vs us → NestedAll s.heap ks us
  | [], vs, us, r, q => by
    simp only [dvNs, RpL] at r
    subst r
    cases q
    exact .nil
  | k :: ks, vs, us, r, q => by
    simp only [dvNs, RpL] at r
    obtain ⟨v, z, rfl, r1, r2⟩ := r
    cases q with
    | cons q1 q2 => exact .cons (nk_is I hK k v _ r1 q1) (nk_all I hK ks z _ r2 q2)
end
theorem RpN.keys : ∀ {kvs : List (NestedKey × Dv)} {xs : List (NestedKey × Addr × Value)}, RpN B.K ρ H kvs xs → kvs.map (·.1) = xs.map (·.1)
  | [], xs, r => by rw [show xs = [] from r]; rfl
  | _ :: _, xs, ⟨b, v, u, q, e, _, _, _, _, l⟩ => by subst e; simp [RpN.keys l]
theorem RpN.is (I : Inv X pins σ H s) (hK : X.K = B.K) : ∀ {kvs : List (NestedKey × Dv)} {xs : List (NestedKey × Addr × Value)}, RpN B.K ρ H kvs xs → ∀ x ∈ xs, (nestedKind B.P B.w).is s.heap x.1 x.2.1
  | [], xs, r, x, m => by rw [show xs = [] from r] at m; cases m
  | _ :: _, xs, ⟨b, v, u, q, e, _, _, y, dd, l⟩, x, m => by
    subst e
    rcases List.mem_cons.mp m with rfl | m
    · exact ⟨nk_is I hK _ _ _ y rfl, dd⟩
    · exact RpN.is I hK l x m
theorem dn_at (I : Inv X pins σ H s) (hK : X.K = B.K) {a : Addr} {kvs : List (NestedKey × Dv)} {xs : List (NestedKey × Addr × Value)} (ha : H a = some (dnO B.w B.P a xs)) (r : RpN B.K ρ H kvs xs) (n : (kvs.map (·.1)).Nodup) :
    (a == sysModules) = false ∧ s.heap.DictOfH (nestedKind B.P B.w) a xs := by
  obtain ⟨⟨hs, o, ep, ho, hex, hd⟩, _⟩ := I.hok a _ ha
  exact ⟨hs, o, _, ep, ho, hex, hd, by simp, RpN.is I hK r, by rw [← r.keys]; exact n⟩
theorem RpN.look : ∀ {kvs : List (NestedKey × Dv)} {xs : List (NestedKey × Addr × Value)} (k : NestedKey), RpN B.K ρ H kvs xs → (kLook kvs k = none ∧ atKey xs k = none) ∨ ∃ d b v u, kLook kvs k = some d ∧ atKey xs k = some (b, u) ∧ RelV v u ∧ Rp B.K ρ H d v
  | [], xs, k, r => by rw [show xs = [] from r]; exact .inl ⟨rfl, rfl⟩
  | (c, e) :: kvs, xs, k, ⟨b, v, u, q, z, ru, x, y, dd, l⟩ => by
    subst z
    have e1 : kLook ((c, e) :: kvs) k = if c = k then some e else kLook kvs k := rfl
    have e2 : atKey ((c, b, u) :: q) k = if c = k then some (b, u) else atKey q k := by
      unfold atKey
      rw [List.find?_cons]
      by_cases hk : c = k
      · simp [hk]
      · simp [hk]
    rw [e1, e2]
    by_cases hk : c = k
    · rw [if_pos hk, if_pos hk]
      exact .inr ⟨e, b, v, u, rfl, rfl, ru, x⟩
    · rw [if_neg hk, if_neg hk]
      exact RpN.look k l
theorem dn_room (hu : X.A.units + 66 < cLine) : (nestedKind B.P B.w).room X.A.in1 := by
  show X.A.in1.units + 8 < cLine
  rw [in1_units]
  omega
end
end FF
end

section
set_option Elab.async false
set_option linter.all false
set_option maxRecDepth 100000
set_option maxHeartbeats 4000000
/-! FE7: comparisons, subscripts, stores by values. -/
namespace FF
open PySem PySem.Spec PySem.SeqAt
open PyProof.Rows hiding St
open L2 hiding start It

section
variable {X : Cx} {B : Bd}
theorem rp_flat {K : PySem.W.Frag} {ρ : List Addr} {H : Hp} : ∀ {d : Dv} {v : V}, scalD d = true → Rp K ρ H d v → flatV v = true ∧ ∀ {e : Dv} {u : V}, scalD e = true → Rp K ρ H e u → eqV u v = isMem.sEq e d
  | .non, v, _, r => by
    simp only [Rp] at r
    subst r
    refine ⟨rfl, fun {e u} f q => ?_⟩
    cases e <;> simp only [Rp] at q <;> first | (subst q; rfl) | cases f
  | .bl b, v, _, r => by
    simp only [Rp] at r
    subst r
    refine ⟨rfl, fun {e u} f q => ?_⟩
    cases e <;> simp only [Rp] at q <;> first | (subst q; rfl) | cases f
  | .int b, v, _, r => by
    simp only [Rp] at r
    subst r
    refine ⟨rfl, fun {e u} f q => ?_⟩
    cases e <;> simp only [Rp] at q <;> first | (subst q; rfl) | cases f
  | .str b, v, _, r => by
    simp only [Rp] at r
    subst r
    refine ⟨rfl, fun {e u} f q => ?_⟩
    cases e <;> simp only [Rp] at q <;> first | (subst q; rfl) | cases f
theorem rp_flats {K : PySem.W.Frag} {ρ : List Addr} {H : Hp} {d : Dv} {v : V} (f : scalD d = true) (r : Rp K ρ H d v) : ∀ {ds : List Dv} {vs : List V}, ds.all scalD = true → RpL K ρ H ds vs → vs.all flatV = true ∧ inV v vs = ds.any fun z => isMem.sEq z d
  | [], vs, _, l => by
    simp only [RpL] at l
    subst l
    exact ⟨rfl, rfl⟩
  | e :: ds, vs, a, l => by
    simp only [RpL] at l
    obtain ⟨u, q, rfl, x, l⟩ := l
    rw [List.all_cons, Bool.and_eq_true] at a
    obtain ⟨h1, h2⟩ := rp_flats f r a.2 l
    refine ⟨?_, ?_⟩
    · rw [List.all_cons, (rp_flat a.1 x).1, h1]; rfl
    · show (eqV u v || inV v q) = _
      rw [(rp_flat f r).2 a.1 x, h2, List.any_cons]
theorem keyK_kV {K : PySem.W.Frag} {ρ : List Addr} {H : Hp} {d : Dv} {v : V} {k : Int ⊕ Str} (e : keyK d = some k) (r : Rp K ρ H d v) : v = kV k := by
  cases d <;> simp only [keyK] at e <;> cases e <;> (simp only [Rp] at r; exact r)
theorem memL_some {x y : Dv} {h : Hh} {k : Bool} (e : isMem.memL y x h = some k) : ∃ d ds, toD 8 h x = some d ∧ toD 8 h y = some (.list ds) ∧ k = ds.any fun z => PyData.eqv z d := by
  unfold isMem.memL at e
  split at e
  · rename_i d ds h1 h2
    cases e
    exact ⟨d, ds, h1, h2, rfl⟩
  · cases e
inductive MemC (x y : Dv) (h : Hh) (k : Bool) : Prop where
  | set (a : Nat) (is : List Int) (i : Int) : y = .ref a → h[a]? = some (.set is) → x = .int i → k = is.contains i → MemC x y h k
  | dk (a : Nat) (kvs : List ((Int ⊕ Str) × Dv)) (q : Int ⊕ Str) : y = .ref a → h[a]? = some (.dk kvs) → keyK x = some q → k = (kLook kvs q).isSome → MemC x y h k
  | dn (a : Nat) (kvs : List (NestedKey × Dv)) (ks : List NestedKey) : y = .ref a → h[a]? = some (.dn kvs) → nkOf 8 x = some (.tup ks) → k = (kLook kvs (.tup ks)).isSome → MemC x y h k
  | lst (d : PyData) (ds : List PyData) : toD 8 h x = some d → toD 8 h y = some (.list ds) → k = (ds.any fun z => PyData.eqv z d) → MemC x y h k
  | tupD (d : PyData) (ds : List PyData) : toD 8 h x = some d → toD 8 h y = some (.tuple ds) → k = (ds.any fun z => PyData.eqv z d) → MemC x y h k
  | tup (xs : List Dv) : y = .tup xs → scalD x = true → xs.all scalD = true → k = (xs.any fun z => isMem.sEq z x) → MemC x y h k
theorem mem_cases {x y : Dv} {h : Hh} {k : Bool} (e : isMem x y h = some k) : MemC x y h k := by
  cases y with
  | ref a =>
    simp only [isMem] at e
    split at e
    · rename_i is q
      cases x with
      | int i => simp only [Option.some.injEq] at e; exact .set a is i rfl q rfl e.symm
      | _ => cases e
    · rename_i kvs q
      obtain ⟨z, h1, h2⟩ := Option.map_eq_some_iff.mp e
      exact .dk a kvs z rfl q h1 h2.symm
    · rename_i kvs q
      obtain ⟨z, h1, h2⟩ := Option.bind_eq_some_iff.mp e
      cases z with
      | tup ks => cases h2; exact .dn a kvs ks rfl q h1 rfl
      | _ => cases h2
    · obtain ⟨d, ds, h1, h2, h3⟩ := memL_some e
      exact .lst d ds h1 h2 h3
    · obtain ⟨d, ds, h1, h2, h3⟩ := memL_some e
      exact .lst d ds h1 h2 h3
    · cases e
  | tup xs =>
    simp only [isMem] at e
    split at e
    · rename_i c
      simp only [isMem.memT] at e
      rw [if_pos c] at e
      rw [Bool.and_eq_true] at c
      cases e
      exact .tup xs rfl c.1 c.2 rfl
    · unfold isMem.memU at e
      split at e
      · rename_i d ds h1 h2
        cases e
        exact .tupD d ds h1 h2 rfl
      · cases e
  | _ => simp [isMem] at e
theorem op_inDT (hu : X.A.units + 65 < cLine) : OpR X (compareOp .In) (fun x y H Q => ∃ d ds, Dp X.K H x d ∧ Dp X.K H y (.tuple ds) ∧ SeqAt.shaped d = true ∧ SeqAt.shaped (.tuple ds) = true ∧ Q (.bl (ds.any fun z => PyData.eqv z d)) H) := by
  intro pins s σ H x y v u Q I rx ry h
  obtain ⟨d, ds, hd, he, sd, se, q⟩ := h
  obtain ⟨as, r1⟩ := Dp.reads I d x v hd rx
  obtain ⟨bs, r2⟩ := Dp.reads I (.tuple ds) y u he ry
  exact SeqAt.in_tuple_reads r2 r1 (SeqAt.canLay_of_shaped se) (SeqAt.canLay_of_shaped sd) (room_in_shaped sd hu) ⟨.bl _, H, I, rfl, q⟩
theorem op_notInDT (hu : X.A.units + 65 < cLine) : OpR X (compareOp .NotIn) (fun x y H Q => ∃ d ds, Dp X.K H x d ∧ Dp X.K H y (.tuple ds) ∧ SeqAt.shaped d = true ∧ SeqAt.shaped (.tuple ds) = true ∧ Q (.bl (!ds.any fun z => PyData.eqv z d)) H) := by
  intro pins s σ H x y v u Q I rx ry h
  obtain ⟨d, ds, hd, he, sd, se, q⟩ := h
  obtain ⟨as, r1⟩ := Dp.reads I d x v hd rx
  obtain ⟨bs, r2⟩ := Dp.reads I (.tuple ds) y u he ry
  exact SeqAt.notIn_tuple_reads r2 r1 (SeqAt.canLay_of_shaped se) (SeqAt.canLay_of_shaped sd) (room_in_shaped sd hu) ⟨.bl _, H, I, rfl, q⟩
theorem op_mem (neg : Bool) (hK : X.K = B.K) (hw : X.w = B.w) (hP : X.prog = B.P) (hu : X.A.units + 66 < cLine) :
    OpR X (compareOp (if neg then .NotIn else .In)) (fun x y H Q => ∃ ρ h a b k, B.H ρ H h ∧ Rp B.K ρ H a x ∧ Rp B.K ρ H b y ∧ isMem a b h = some k ∧ Q (.bl (if neg then !k else k)) H) := by
  intro pins s σ H x y v u Q I rx ry h
  obtain ⟨ρ, h, a, b, k, rp, ra, rb, e, q⟩ := h
  cases mem_cases e with
  | set n is i eb en ea ek =>
    subst eb ea ek
    simp only [Rp] at ra rb
    obtain ⟨p, rfl, ep⟩ := rb
    obtain ⟨S, m, hS, hm, hSk⟩ := rp.ob n _ p en ep
    rw [← hSk] at q
    rw [← hw] at hS
    cases neg with
    | false => exact run_op or_sin I rx ry ⟨i, p, S, m, ra, rfl, hS, q⟩
    | true => exact run_op or_snotin I rx ry ⟨i, p, S, m, ra, rfl, hS, q⟩
  | dk n kvs z eb en ez ek =>
    subst eb ek
    have ey := keyK_kV ez ra
    simp only [Rp] at rb
    obtain ⟨p, rfl, ep⟩ := rb
    obtain ⟨kv, hp, l, nd⟩ := rp.ob n _ p en ep
    cases ry
    have eo : (kLook kvs z).isSome = (valV kv z).isSome := by
      rcases kLook_rel z l with ⟨e1, e2⟩ | ⟨d, v, e1, e2, _⟩ <;> rw [e1, e2] <;> rfl
    rw [eo] at q
    subst ey
    cases neg with
    | false => exact d_in (by omega) I (DGet.k hp) rx fun s' I' => ⟨.bl _, H, I', rfl, q⟩
    | true => exact d_notIn (by omega) I (DGet.k hp) rx fun s' I' => ⟨.bl _, H, I', rfl, q⟩
  | dn n kvs ks eb en ez ek =>
    subst eb ek
    simp only [Rp] at rb
    obtain ⟨p, rfl, ep⟩ := rb
    obtain ⟨xs, hp, l, nd⟩ := rp.ob n _ p en ep
    cases ry
    obtain ⟨hs, dd⟩ := dn_at I hK hp l nd
    obtain ⟨e1, e2⟩ := nkOf_dv 8 a _ ez
    have ra' := ra
    rw [← e1] at ra'
    have isk := nk_is I hK (.tup ks) x v ra' rx
    simp only [dvN, Rp] at ra'
    obtain ⟨ka, vs, rfl, t, _⟩ := ra'
    cases rx
    have eo : (kLook kvs (.tup ks)).isSome = (atKey xs (.tup ks)).isSome := by
      rcases RpN.look (.tup ks) l with ⟨e1, e2⟩ | ⟨d, b, v, u, e1, e2, _⟩ <;> rw [e1, e2] <;> rfl
    rw [eo] at q
    rw [hP, hw]
    cases neg with
    | false => exact wpAny_in_heap (knd := nestedKind B.P B.w) (dn_room hu) ⟨isk, e2⟩ hs dd ⟨.bl _, H, I.tok _, rfl, q⟩
    | true => exact wpAny_notIn_heap (knd := nestedKind B.P B.w) (dn_room hu) ⟨isk, e2⟩ hs dd ⟨.bl _, H, I.tok _, rfl, q⟩
  | lst d ds h1 h2 ek =>
    subst ek
    have da := toD_dp rp 8 a x d h1 ra
    have db := toD_dp rp 8 b y _ h2 rb
    rw [← hK] at da db
    cases neg with
    | false => exact run_op (op_inD (by omega)) I rx ry ⟨d, ds, da, db, toD_shaped h1, toD_shaped h2, q⟩
    | true => exact run_op (op_notInD (by omega)) I rx ry ⟨d, ds, da, db, toD_shaped h1, toD_shaped h2, q⟩
  | tupD d ds h1 h2 ek =>
    subst ek
    have da := toD_dp rp 8 a x d h1 ra
    have db := toD_dp rp 8 b y _ h2 rb
    rw [← hK] at da db
    cases neg with
    | false => exact run_op (op_inDT (by omega)) I rx ry ⟨d, ds, da, db, toD_shaped h1, toD_shaped h2, q⟩
    | true => exact run_op (op_notInDT (by omega)) I rx ry ⟨d, ds, da, db, toD_shaped h1, toD_shaped h2, q⟩
  | tup xs eb sx sa ek =>
    subst eb ek
    simp only [Rp] at rb
    obtain ⟨p, vs, rfl, t, l⟩ := rb
    obtain ⟨f1, f2⟩ := rp_flats sx ra sa l
    rw [← f2] at q
    rw [← hK] at t
    cases neg with
    | false => exact run_op op_in_seq I rx ry ⟨p, vs, rfl, .inr t, (rp_flat sx ra).1, f1, q⟩
    | true => exact run_op op_notIn_seq I rx ry ⟨p, vs, rfl, .inr t, (rp_flat sx ra).1, f1, q⟩

theorem op_cop (op : CO) (hK : X.K = B.K) (hw : X.w = B.w) (hP : X.prog = B.P) (hu : X.A.units + 66 < cLine) : OpR X (compareOp (coOf op)) (rCop B op) := by
  intro pins s σ H x y v u Q I rx ry h
  obtain ⟨ρ, h, a, b, k, rp, ra, rb, e, q⟩ := h
  cases op with
  | eq =>
    rcases deq_eq e with ⟨i, j, rfl, rfl, rfl⟩ | ⟨i, j, rfl, rfl, rfl⟩ | ⟨i, j, rfl, rfl, rfl⟩ | ⟨d, t, h1, h2, rfl⟩
    · simp only [Rp] at ra rb
      subst ra rb
      exact run_op op_eq I rx ry ⟨rfl, by rw [dec_int]; rw [← show decide (i = j) = (i == j) by by_cases z : i = j <;> simp [z]]; exact q⟩
    · simp only [Rp] at ra rb
      subst ra rb
      exact run_op op_eq I rx ry ⟨rfl, by rw [dec_str]; rw [← show decide (i = j) = (i == j) by by_cases z : i = j <;> simp [z]]; exact q⟩
    · simp only [Rp] at ra rb
      subst ra rb
      exact run_op op_eq I rx ry ⟨rfl, by rw [dec_bl]; rw [← show decide (i = j) = (i == j) by by_cases z : i = j <;> simp [z]]; exact q⟩
    · have da := toD_dp rp 8 a x d h1 ra
      have db := toD_dp rp 8 b y t h2 rb
      rw [← hK] at da db
      exact run_op (op_eqD (by omega)) I rx ry ⟨d, t, da, db, toD_shaped h1, toD_shaped h2, q⟩
  | ne =>
    obtain ⟨k0, e1, rfl⟩ := Option.map_eq_some_iff.mp (show (deq h a b).map not = some k from e)
    rcases deq_eq e1 with ⟨i, j, rfl, rfl, rfl⟩ | ⟨i, j, rfl, rfl, rfl⟩ | ⟨i, j, rfl, rfl, rfl⟩ | ⟨d, t, h1, h2, rfl⟩
    · simp only [Rp] at ra rb
      subst ra rb
      exact run_op op_ne I rx ry ⟨rfl, by rw [dec_int]; rw [← show decide (i = j) = (i == j) by by_cases z : i = j <;> simp [z]]; exact q⟩
    · simp only [Rp] at ra rb
      subst ra rb
      exact run_op op_ne I rx ry ⟨rfl, by rw [dec_str]; rw [← show decide (i = j) = (i == j) by by_cases z : i = j <;> simp [z]]; exact q⟩
    · simp only [Rp] at ra rb
      subst ra rb
      exact run_op op_ne I rx ry ⟨rfl, by rw [dec_bl]; rw [← show decide (i = j) = (i == j) by by_cases z : i = j <;> simp [z]]; exact q⟩
    · have da := toD_dp rp 8 a x d h1 ra
      have db := toD_dp rp 8 b y t h2 rb
      rw [← hK] at da db
      exact run_op (op_neD (by omega)) I rx ry ⟨d, t, da, db, toD_shaped h1, toD_shaped h2, q⟩
  | lt => exact op_ltd false hK hu pins s σ H x y v u Q I rx ry ⟨ρ, h, a, b, k, rp, ra, rb, e, q⟩
  | le => exact op_ltd true hK hu pins s σ H x y v u Q I rx ry ⟨ρ, h, a, b, k, rp, ra, rb, e, q⟩
  | gt =>
    unfold cop at e
    simp only at e
    split at e
    · cases e
      simp only [Rp] at ra rb
      exact run_op op_gt I rx ry ⟨_, _, ra, rb, q⟩
    · cases e
  | ge =>
    unfold cop at e
    simp only at e
    split at e
    · cases e
      simp only [Rp] at ra rb
      exact run_op op_ge I rx ry ⟨_, _, ra, rb, q⟩
    · cases e
  | isn =>
    unfold cop at e
    simp only at e
    split at e
    · simp only [Rp] at rb
      subst rb
      refine run_op op_isN I rx ry ⟨rfl, ?_⟩
      have : decide (x = V.non) = k := by
        cases a <;> simp only [Rp] at ra <;> (try simp only [Option.some.injEq] at e) <;> (try subst e) <;> first | (subst ra; rfl) | (obtain ⟨_, _, rfl, _⟩ := ra; rfl) | (obtain ⟨_, rfl, _⟩ := ra; rfl)
      rw [this]
      exact q
    · cases e
  | notn =>
    unfold cop at e
    simp only at e
    split at e
    · simp only [Rp] at rb
      subst rb
      refine run_op op_notN I rx ry ⟨rfl, ?_⟩
      have : (!decide (x = V.non)) = k := by
        cases a <;> simp only [Rp] at ra <;> (try simp only [Option.some.injEq] at e) <;> (try subst e) <;> first | (subst ra; rfl) | (obtain ⟨_, _, rfl, _⟩ := ra; rfl) | (obtain ⟨_, rfl, _⟩ := ra; rfl)
      rw [this]
      exact q
    · cases e
  | mem => exact op_mem false hK hw hP hu pins s σ H x y v u Q I rx ry ⟨ρ, h, a, b, k, rp, ra, rb, e, q⟩
  | nmem =>
    obtain ⟨k0, e1, rfl⟩ := Option.map_eq_some_iff.mp (show (isMem a b h).map not = some k from e)
    exact op_mem true hK hw hP hu pins s σ H x y v u Q I rx ry ⟨ρ, h, a, b, k0, rp, ra, rb, e1, q⟩
end
end FF
end

section
set_option Elab.async false
set_option linter.all false
set_option maxRecDepth 100000
set_option maxHeartbeats 4000000
/-! FE8: subscripts, stores, slices by values. -/
namespace FF
open PySem PySem.Spec PySem.SeqAt
open PyProof.Rows hiding St
open L2 hiding start It

theorem ixA_eq (n : Nat) (i : Int) : ixA n i = ixN n i := by
  unfold ixA ixN
  split
  · split <;> rfl
  · rfl
section
variable {K : PySem.W.Frag} {ρ : List Addr} {H : Hp}
theorem at0_rel {xs : List Dv} {vs : List V} {i : Int} {d : Dv} (e : at0 xs i = some d) (l : RpL K ρ H xs vs) : ∃ v, atI vs i = some v ∧ Rp K ρ H d v := by
  unfold at0 at e
  obtain ⟨j, h1, h2⟩ := Option.bind_eq_some_iff.mp e
  obtain ⟨v, e1, e2⟩ := l.get h2
  refine ⟨v, ?_, e2⟩
  unfold atI
  rw [← l.len, ← ixA_eq, h1]
  exact e1
/-- what ixs reads -/
inductive IxC (x y d : Dv) (h : Hh) : Prop where
  | tup (xs : List Dv) (i : Int) : x = .tup xs → y = .int i → at0 xs i = some d → IxC x y d h
  | lst (a : Nat) (xs : List Dv) (i : Int) : x = .ref a → y = .int i → (h[a]? = some (.lst xs) ∨ h[a]? = some (.fro xs)) → at0 xs i = some d → IxC x y d h
  | dk (a : Nat) (kvs : List ((Int ⊕ Str) × Dv)) (q : Int ⊕ Str) : x = .ref a → h[a]? = some (.dk kvs) → keyK y = some q → kLook kvs q = some d → IxC x y d h
  | dn (a : Nat) (kvs : List (NestedKey × Dv)) (ks : List NestedKey) : x = .ref a → h[a]? = some (.dn kvs) → nkOf 8 y = some (.tup ks) → kLook kvs (.tup ks) = some d → IxC x y d h
theorem ix_cases {x y d : Dv} {h : Hh} (e : ixs x y h = some d) : IxC x y d h := by
  cases x with
  | tup xs =>
    cases y with
    | int i => exact .tup xs i rfl rfl e
    | _ => simp [ixs] at e
  | ref a =>
    simp only [ixs] at e
    split at e
    · rename_i xs q
      cases y with
      | int i => exact .lst a xs i rfl rfl (.inl q) e
      | _ => simp at e
    · rename_i xs q
      cases y with
      | int i => exact .lst a xs i rfl rfl (.inr q) e
      | _ => simp at e
    · rename_i kvs q
      obtain ⟨z, h1, h2⟩ := Option.bind_eq_some_iff.mp e
      exact .dk a kvs z rfl q h1 h2
    · rename_i kvs q
      split at e
      · rename_i ks h1
        exact .dn a kvs ks rfl q h1 e
      · cases e
    · cases e
  | _ => simp [ixs] at e
end
section
variable {X : Cx} {B : Bd}
def rIxs (B : Bd) : R2 := fun x y H Q => ∃ ρ h a b d, B.H ρ H h ∧ Rp B.K ρ H a x ∧ Rp B.K ρ H b y ∧ ixs a b h = some d ∧ ∀ z, Rp B.K ρ H d z → Q z H
theorem ix_ixs (hK : X.K = B.K) (hw : X.w = B.w) (hP : X.prog = B.P) (hu : X.A.units + 66 < cLine) : IxR X (rIxs B) := by
  intro value slice pins s σ H x y v u Q I rx ry h hs
  obtain ⟨ρ, h, a, b, d, rp, ra, rb, e, q⟩ := h
  cases ix_cases e with
  | tup xs i ea eb e1 =>
    subst ea eb
    simp only [Rp] at ra rb
    obtain ⟨p, vs, rfl, t, l⟩ := ra
    obtain ⟨z, e2, e3⟩ := at0_rel e1 l
    exact ix_tup value slice pins s σ H _ y v u Q I rx ry ⟨p, vs, i, z, rfl, rb, by rw [hK]; exact t, e2, q z e3⟩ hs
  | lst n xs i ea eb en e1 =>
    subst ea eb
    simp only [Rp] at ra rb
    obtain ⟨p, rfl, ep⟩ := ra
    have : ∃ vs, SqL X.K H p vs ∧ RpL B.K ρ H xs vs := by
      rcases en with en | en
      · obtain ⟨vs, hp, l⟩ := rp.ob n _ p en ep
        exact ⟨vs, .inl (.inl hp), l⟩
      · obtain ⟨o, vs, hp, l⟩ := rp.ob n _ p en ep
        exact ⟨vs, .inl (.inr ⟨o, hp⟩), l⟩
    obtain ⟨vs, t, l⟩ := this
    obtain ⟨z, e2, e3⟩ := at0_rel e1 l
    exact ix_list value slice pins s σ H _ y v u Q I rx ry ⟨p, vs, i, z, rfl, rb, t, e2, q z e3⟩ hs
  | dk n kvs c ea en ek e1 =>
    subst ea
    have ey := keyK_kV ek rb
    simp only [Rp] at ra
    obtain ⟨p, rfl, ep⟩ := ra
    obtain ⟨kv, hp, l, nd⟩ := rp.ob n _ p en ep
    cases rx
    subst ey
    rcases kLook_rel c l with ⟨e2, _⟩ | ⟨d', z, e2, e3, e4⟩
    · rw [e1] at e2; cases e2
    · rw [e1] at e2; cases e2
      have g : DGet H p (kV c) (some z) := by rw [← e3]; exact DGet.k hp
      exact tail_any (dict_typeIs I g) PySem.F.slot_dict_getitem.lookup (d_getItem (by omega) I g ry fun w' s' I' r' => ⟨z, H, I', r', q z e4⟩) hs
  | dn n kvs ks ea en ek e1 =>
    subst ea
    simp only [Rp] at ra
    obtain ⟨p, rfl, ep⟩ := ra
    obtain ⟨xs, hp, l, nd⟩ := rp.ob n _ p en ep
    cases rx
    obtain ⟨hsy, dd⟩ := dn_at I hK hp l nd
    obtain ⟨k1, k2⟩ := nkOf_dv 8 b _ ek
    have rb' := rb
    rw [← k1] at rb'
    have isk := nk_is I hK (.tup ks) y u rb' ry
    simp only [dvN, Rp] at rb'
    obtain ⟨ka, vs, rfl, t, _⟩ := rb'
    cases ry
    rcases RpN.look (.tup ks) l with ⟨e2, _⟩ | ⟨d', bb, z, uu, e2, e3, e4, e5⟩
    · rw [e1] at e2; cases e2
    · rw [e1] at e2; cases e2
      rw [hP, hw]
      exact tail_any dd.typeIs PySem.F.slot_dict_getitem.lookup (wpAny_getItem_heap (knd := nestedKind B.P B.w) (dn_room hu) ⟨isk, k2⟩ dd e3 ⟨z, H, I.tok _, e4, q z e5⟩) hs

/-! ### stores -/
theorem atKey_mem {xs : List (NestedKey × Addr × Value)} {k : NestedKey} : atKey xs k = none ↔ k ∉ xs.map (·.1) := by
  unfold atKey
  rw [Option.map_eq_none_iff, List.find?_eq_none]
  simp only [decide_eq_true_eq, List.mem_map, not_exists, not_and]
theorem RpN.append {ρ : List Addr} {H : Hp} : ∀ {kvs kvs2 : List (NestedKey × Dv)} {kv kv2 : List (NestedKey × Addr × Value)}, RpN B.K ρ H kvs kv → RpN B.K ρ H kvs2 kv2 → RpN B.K ρ H (kvs ++ kvs2) (kv ++ kv2)
  | [], _, kv, _, r, s => by rw [show kv = [] from r]; exact s
  | p :: kvs, _, kv, _, ⟨b, v, u, q, e, a1, a2, a3, a4, l⟩, s => by subst e; exact ⟨b, v, u, _, rfl, a1, a2, a3, a4, RpN.append l s⟩
theorem RpN.put {ρ : List Addr} {H : Hp} {k : NestedKey} {d : Dv} {y : V} {u : Value} {b : Addr} (ry : RelV y u) (x : Rp B.K ρ H d y) (kk : Rp B.K ρ H (dvN k) (.ref b)) (dp : k.depth ≤ 8) : ∀ {kvs : List (NestedKey × Dv)} {xs : List (NestedKey × Addr × Value)}, RpN B.K ρ H kvs xs → (kvs.map (·.1)).Nodup →
    RpN B.K ρ H (kPut kvs k d) (if k ∈ xs.map (·.1) then xs.map (putAt k u) else xs ++ [(k, b, u)])
  | [], xs, r, _ => by
    rw [show xs = [] from r]
    exact ⟨b, y, u, [], rfl, ry, x, kk, dp, rfl⟩
  | (c, e) :: kvs, xs, ⟨b', v', u', q, z, r1, r2, r3, r4, l⟩, n => by
    subst z
    rw [List.map_cons, List.nodup_cons] at n
    show RpN B.K ρ H (if c = k then (c, d) :: kvs else (c, e) :: kPut kvs k d) _
    by_cases hk : c = k
    · subst hk
      have nm : c ∉ q.map (·.1) := by rw [← RpN.keys l]; exact n.1
      rw [if_pos rfl, if_pos (by simp)]
      have eq : (q.map (putAt c u)) = q := by
        refine (List.map_congr_left fun t ht => ?_).trans (List.map_id q)
        unfold putAt
        rw [if_neg fun ez => nm (by rw [← ez]; exact List.mem_map_of_mem ht)]
        rfl
      rw [List.map_cons, eq]
      have e0 : putAt c u (c, b', u') = (c, b', u) := by unfold putAt; rw [if_pos rfl]
      rw [e0]
      exact ⟨b', y, u, q, rfl, ry, x, r3, r4, l⟩
    · rw [if_neg hk]
      have ih := RpN.put ry x kk dp l n.2
      have e1 : (k ∈ ((c, b', u') :: q).map (·.1)) ↔ k ∈ q.map (·.1) := by
        rw [List.map_cons, List.mem_cons]
        exact ⟨fun h => h.elim (fun h => absurd h.symm hk) id, .inr⟩
      have e0 : putAt k u (c, b', u') = (c, b', u') := by unfold putAt; rw [if_neg hk]
      by_cases m : k ∈ q.map (·.1)
      · rw [if_pos m] at ih
        rw [if_pos (e1.mpr m), List.map_cons, e0]
        exact ⟨b', v', u', _, rfl, r1, r2, r3, r4, ih⟩
      · rw [if_neg m] at ih
        rw [if_neg fun h => m (e1.mp h)]
        exact ⟨b', v', u', _, rfl, r1, r2, r3, r4, ih⟩
theorem storedH_if (xs : List (NestedKey × Addr × Value)) (k : NestedKey) (b : Addr) (u : Value) : storedH xs k b u = if k ∈ xs.map (·.1) then xs.map (putAt k u) else xs ++ [(k, b, u)] := by
  unfold storedH
  by_cases m : k ∈ xs.map (·.1)
  · rw [if_pos m]
    cases e : atKey xs k with
    | none => exact absurd m (atKey_mem.mp e)
    | some p => rfl
  · rw [if_neg m, atKey_mem.mpr m]
    rfl
theorem dn_obj {P : Program} {w : World} {H : Hp} {h' : Heap} {a : Addr} {xs : List (NestedKey × Addr × Value)} (hs : (a == sysModules) = false) (dd : h'.DictOfH (nestedKind P w) a xs) : ObjOk P w H h' a (dnO w P a xs) := by
  obtain ⟨o, es, ep, ho, hex, hd, he, _, _⟩ := dd
  have e : es = (xs.map (entryOfKey (nestedKind P w))).toArray := by rw [← he]
  rw [e] at hd
  refine ⟨⟨hs, o, ep, ho, hex, hd⟩, ⟨o, ho⟩, fun h1 h2 ⟨q1, o1, ep1, q2, q3⟩ k => ⟨q1, o1, ep1, k o1 q2, q3⟩⟩

def rSets (B : Bd) : V → V → V → Hp → (Hp → Prop) → Prop := fun x y z H Q => ∃ ρ h a b d, B.H ρ H h ∧ Rp B.K ρ H a x ∧ Rp B.K ρ H b y ∧ Rp B.K ρ H d z ∧ match sets a b d h with
  | .ok _ h' => ∀ H', Ltr ρ H ρ H' → B.H ρ H' h' → Q H'
  | _ => False
theorem set_sets (hK : X.K = B.K) (hw : X.w = B.w) (hP : X.prog = B.P) (hu : X.A.units + 66 < cLine) : PSet X (rSets B) := by
  intro pins s σ H o i z ov iv u Q I ro ri rz h
  obtain ⟨ρ, h, a, b, d, rp, ra, rb, rd, e⟩ := h
  cases a with
  | ref n =>
    simp only [Rp] at ra
    obtain ⟨p, rfl, ep⟩ := ra
    cases ro
    simp only [sets] at e
    split at e
    · rename_i r h' er
      split at er
      · -- a list
        rename_i xs en
        cases b with
        | int j =>
          simp only at er
          split at er
          · rename_i m em
            cases er
            obtain ⟨vs, hp, l⟩ := rp.ob n _ p en ep
            simp only [Rp] at rb
            refine set_list pins s σ H (.ref p) i z (.ref p) iv u Q I rfl ri rz ⟨p, vs, j, m, rfl, rb, hp, by rw [← l.len, ← ixA_eq]; exact em, ?_⟩
            have lt := Ltr.put (ρ := ρ) (H := H) (o := HO.lst (vs.set m z)) (List.mem_of_getElem? ep)
            exact e _ lt (rp.put ep ⟨_, upd_same, RpL.ltr rp lt (l.set m rd)⟩)
          · cases er
        | _ => simp at er
      · -- a dict by numbers and texts
        rename_i kvs en
        split at er
        · rename_i c ek
          split at er
          · rename_i hl
            cases er
            obtain ⟨kv, hp, l, nd⟩ := rp.ob n _ p en ep
            have ey := keyK_kV ek rb
            subst ey
            have lt := Ltr.put (ρ := ρ) (H := H) (o := HO.dK (putK kv c z)) (List.mem_of_getElem? ep)
            have g : DPut H p (kV c) z (upd H p (.dK (putK kv c z))) := DPut.k hp (by rw [← l.len.1]; exact Nat.lt_trans (of_decide_eq_true hl) most_line)
            exact d_setItem (by omega) I g ri rz fun s' I' => ⟨_, I', e _ lt (rp.put ep ⟨_, upd_same, RpK.ltr rp lt (kPut_rel l nd rd), kPut_nodup nd⟩)⟩
          · cases er
        · cases er
      · -- a dict by tuples
        rename_i kvs en
        split at er
        · rename_i ks ek
          split at er
          · rename_i hl
            cases er
            obtain ⟨xs, hp, l, nd⟩ := rp.ob n _ p en ep
            obtain ⟨hsy, dd⟩ := dn_at I hK hp l nd
            obtain ⟨k1, k2⟩ := nkOf_dv 8 b _ ek
            have rb' := rb
            rw [← k1] at rb'
            have isk := nk_is I hK (.tup ks) i iv rb' ri
            have rb2 := rb'
            simp only [dvN, Rp] at rb2
            obtain ⟨ka, vs, rfl, t, _⟩ := rb2
            cases ri
            have hlen : xs.length ≤ sizeLine := by
              have := congrArg List.length (RpN.keys l)
              rw [List.length_map, List.length_map] at this
              rw [← this]
              exact most_le (Nat.le_of_lt (of_decide_eq_true hl))
            have lt := Ltr.put (ρ := ρ) (H := H) (o := dnO B.w B.P p (storedH xs (.tup ks) ka u)) (List.mem_of_getElem? ep)
            rw [hP, hw]
            refine wpAny_setItem_heap (knd := nestedKind B.P B.w) (hsz := hlen) (dn_room hu) ⟨isk, k2⟩ dd fun h2 dd2 sb => ?_
            have he : ∃ o, h2.get? p = some o := by
              obtain ⟨o, _, _, ho, _⟩ := dd2
              exact ⟨o, ho⟩
            have new : ObjOk X.prog X.w (upd H p (dnO B.w B.P p (storedH xs (.tup ks) ka u))) h2 p (dnO B.w B.P p (storedH xs (.tup ks) ka u)) := by
              rw [hP, hw]
              exact dn_obj hsy dd2
            refine ⟨_, I.write (e := p) (t' := _) (by rw [hp]; trivial) (.inl rfl) (fun b o hb ho => (sb.2 b hb).trans ho) he new, e _ lt (rp.put ep ⟨_, upd_same, RpN.ltr rp lt ?_, kPut_nodup nd⟩)⟩
            rw [storedH_if]
            exact RpN.put rz rd rb' k2 l nd
          · cases er
        · cases er
      · cases er
    · exact e.elim
  | _ => simp [sets] at e
end
end FF
end

section
set_option Elab.async false
set_option linter.all false
set_option maxRecDepth 100000
set_option maxHeartbeats 4000000
/-! FE9: built-ins and methods by values. -/
namespace FF
open PySem PySem.Spec PySem.SeqAt
open PyProof.Rows hiding St
open L2 hiding start It

abbrev W0 : WX := fun _ _ _ _ => False
section
variable {X : Cx} {B : Bd}
theorem run_call {f : Value} {r : List V → Hp → VK → Prop} (o : CallR X f r) {pins : List (Addr × Obj)} {s : Shared} {σ : L2.St} {H : Hp} {xs : List V} {us : List Value} {Q : VK} (I : Inv X pins σ H s) (rx : Vals xs us) (h : r xs H Q) :
    wpAny (model X.prog X.w) X.A (call f us) (EP X pins σ Q) X.xe s := o pins s σ H xs us Q I rx h
/-- what a built-in gives -/
def rBi (B : Bd) (b : Bi) : List V → Hp → VK → Prop := fun vs H Q => ∃ ρ h ds, B.H ρ H h ∧ RpL B.K ρ H ds vs ∧ Fin B W0 [] ρ H (Rp B.K) (bis b ds h) Q
theorem rpl1 {K : PySem.W.Frag} {ρ : List Addr} {H : Hp} {d : Dv} {vs : List V} (l : RpL K ρ H [d] vs) : ∃ v, vs = [v] ∧ Rp K ρ H d v := by
  simp only [RpL] at l
  obtain ⟨v, r, rfl, x, rfl⟩ := l
  exact ⟨v, rfl, x⟩
theorem rpl2 {K : PySem.W.Frag} {ρ : List Addr} {H : Hp} {d e : Dv} {vs : List V} (l : RpL K ρ H [d, e] vs) : ∃ v u, vs = [v, u] ∧ Rp K ρ H d v ∧ Rp K ρ H e u := by
  simp only [RpL] at l
  obtain ⟨v, r, rfl, x, u, r2, rfl, y, rfl⟩ := l
  exact ⟨v, u, rfl, x, y⟩
/-- the items of a sequence, above and below -/
theorem items_seq {K : PySem.W.Frag} {w : World} {P : Program} {ρ : List Addr} {H : Hp} {h : Hh} {d : Dv} {v : V} {xs : List Dv} (rp : RpH K w P ρ H h) (e : items h d = some xs) (r : Rp K ρ H d v) :
    ∃ p vs, v = .ref p ∧ RpL K ρ H xs vs ∧ ((SqL K H p vs ∧ ∃ n, d = .ref n) ∨ (SqT K H p vs ∧ d = .tup xs)) := by
  cases d with
  | tup ys =>
    simp only [items, Option.some.injEq] at e
    subst e
    simp only [Rp] at r
    obtain ⟨p, vs, rfl, t, l⟩ := r
    exact ⟨p, vs, rfl, l, .inr ⟨t, rfl⟩⟩
  | ref n =>
    simp only [Rp] at r
    obtain ⟨p, rfl, ep⟩ := r
    simp only [items] at e
    split at e
    · rename_i ys q
      cases e
      obtain ⟨vs, hp, l⟩ := rp.ob n _ p q ep
      exact ⟨p, vs, rfl, l, .inl ⟨.inl (.inl hp), n, rfl⟩⟩
    · rename_i ys q
      cases e
      obtain ⟨o, vs, hp, l⟩ := rp.ob n _ p q ep
      exact ⟨p, vs, rfl, l, .inl ⟨.inl (.inr ⟨o, hp⟩), n, rfl⟩⟩
    · cases e
  | _ => simp [items] at e
/-- a new list -/
theorem Fin.newL {W : WX} {σV : L2.St} {ρ : List Addr} {H : Hp} {h : Hh} {xs : List Dv} {vs : List V} {Q : VK} (fin : Fin B W σV ρ H (Rp B.K) (.ok (.ref h.length) (h ++ [.lst xs])) Q) (rp : B.H ρ H h) (l : RpL B.K ρ H xs vs) {p : Addr} (hp : H p = none) : Q (.ref p) (upd H p (.lst vs)) := by
  refine fin _ _ _ (Ltr.new hp) (rp.new hp ⟨_, upd_same, RpL.ltr rp (Ltr.new hp) l⟩) ?_
  simp only [Rp]
  exact ⟨p, rfl, by rw [← rp.len, List.getElem?_append_right (Nat.le_refl _), Nat.sub_self]; rfl⟩
theorem Fin.newT {W : WX} {σV : L2.St} {ρ : List Addr} {H : Hp} {h : Hh} {xs : List Dv} {vs : List V} {Q : VK} (fin : Fin B W σV ρ H (Rp B.K) (.ok (.tup xs) h) Q) (rp : B.H ρ H h) (l : RpL B.K ρ H xs vs) {p : Addr} (hp : H p = none) : Q (.ref p) (upd H p (.tup vs)) :=
  fin ρ _ _ (Ltr.newT hp) (rp.newT hp) (RpL.ref (RpL.ltr rp (Ltr.newT hp) l) (.inl (.inl upd_same)))
theorem bools_rel {K : PySem.W.Frag} {ρ : List Addr} {H : Hp} : ∀ {xs : List Dv} {bs : List Bool} {vs : List V}, bis.boolsOf xs = some bs → RpL K ρ H xs vs → vs = bs.map V.bl
  | [], bs, vs, e, l => by
    simp [bis.boolsOf] at e
    subst e
    simp only [RpL] at l
    rw [l]; rfl
  | x :: xs, bs, vs, e, l => by
    obtain ⟨b, cs, rfl, h1, h2⟩ := mapM_cons_some e
    simp only [RpL] at l
    obtain ⟨v, r, rfl, x1, l⟩ := l
    rw [bools_rel h2 l]
    cases x <;> simp at h1
    subst h1
    simp only [Rp] at x1
    rw [x1]; rfl

theorem cr_len (hK : X.K = B.K) : CallR X (.builtin "len") (rBi B .len) := by
  intro pins s σ H vs us Q I r h
  obtain ⟨ρ, h, ds, rp, l, fin⟩ := h
  match ds, l, fin with
  | [d], l, fin =>
    obtain ⟨v, rfl, rd⟩ := rpl1 l
    simp only [bis] at fin
    split at fin
    · rename_i n en
      cases d with
      | tup xs =>
        simp only [bis.lenOf, Option.some.injEq] at en
        subst en
        simp only [Rp] at rd
        obtain ⟨p, ws, rfl, t, lw⟩ := rd
        exact run_call call_len_seq I r ⟨p, ws, rfl, .inr (by rw [hK]; exact t), by rw [← lw.len]; exact fin.now rp (by simp only [Rp])⟩
      | str z =>
        simp only [bis.lenOf] at en
        split at en
        · rename_i hz
          cases en
          simp only [Rp] at rd
          subst rd
          exact run_call call_len I r ⟨_, z.length, rfl, ⟨most_le (of_decide_eq_true hz), rfl⟩, fin.now rp (by simp only [Rp])⟩
        · cases en
      | ref n =>
        simp only [Rp] at rd
        obtain ⟨p, rfl, ep⟩ := rd
        simp only [bis.lenOf] at en
        split at en
        · rename_i xs q
          cases en
          obtain ⟨ws, hp, lw⟩ := rp.ob _ _ p q ep
          exact run_call call_len_seq I r ⟨p, ws, rfl, .inl (.inl (.inl hp)), by rw [← lw.len]; exact fin.now rp (by simp only [Rp])⟩
        · rename_i xs q
          cases en
          obtain ⟨o, ws, hp, lw⟩ := rp.ob _ _ p q ep
          exact run_call call_len_seq I r ⟨p, ws, rfl, .inl (.inl (.inr ⟨o, hp⟩)), by rw [← lw.len]; exact fin.now rp (by simp only [Rp])⟩
        · rename_i kvs q
          cases en
          obtain ⟨kv, hp, lw, nd⟩ := rp.ob _ _ p q ep
          exact run_call call_lenD I r ⟨p, kv, rfl, hp, by rw [← lw.len.1]; exact fin.now rp (by simp only [Rp])⟩
        · cases en
      | _ => simp [bis.lenOf] at en
    · exact fin.elim
  | [], _, fin => exact fin.elim
  | _ :: _ :: _, _, fin => exact fin.elim
theorem cr_tuple (hK : X.K = B.K) : CallR X (.type "tuple") (rBi B .tuple) := by
  intro pins s σ H vs us Q I r h
  obtain ⟨ρ, h, ds, rp, l, fin⟩ := h
  match ds, l, fin with
  | [d], l, fin =>
    obtain ⟨v, rfl, rd⟩ := rpl1 l
    simp only [bis] at fin
    split at fin
    · rename_i xs en
      obtain ⟨p, ws, rfl, lw, hs⟩ := items_seq rp en rd
      rw [← hK] at hs
      rcases hs with ⟨hs, _⟩ | ⟨hs, ed⟩
      · exact run_call call_tuple_of I r ⟨p, ws, rfl, .inl ⟨hs, fun q hq => fin.newT rp lw hq⟩⟩
      · subst ed
        exact run_call call_tuple_of I r ⟨p, ws, rfl, .inr ⟨hs, fin.now rp rd⟩⟩
    · exact fin.elim
  | [], _, fin => exact fin.elim
  | _ :: _ :: _, _, fin => exact fin.elim
theorem rpk_keys {K : PySem.W.Frag} {ρ : List Addr} {H : Hp} : ∀ {kvs : List ((Int ⊕ Str) × Dv)} {kv : List (Key × V)}, RpK K ρ H kvs kv → RpL K ρ H (kvs.map fun p => dvK p.1) (kv.map fun p => kV p.1)
  | [], kv, r => by rw [show kv = [] from r]; simp only [List.map_nil, RpL]
  | (k, d) :: kvs, kv, ⟨v, q, e, x, l⟩ => by
    subst e
    simp only [List.map_cons, RpL]
    refine ⟨_, _, rfl, ?_, rpk_keys l⟩
    cases k <;> simp only [dvK, Rp] <;> rfl
theorem cr_list (hK : X.K = B.K) (hc : X.calm = true) : CallR X (.type "list") (rBi B .list) := by
  intro pins s σ H vs us Q I r h
  obtain ⟨ρ, h, ds, rp, l, fin⟩ := h
  match ds, l, fin with
  | [d], l, fin =>
    obtain ⟨v, rfl, rd⟩ := rpl1 l
    simp only [bis] at fin
    split at fin
    · rename_i xs en
      split at fin
      · have seq : ∀ {p : Addr} {ws : List V}, v = .ref p → RpL B.K ρ H xs ws → (SqL X.K H p ws ∨ SqT X.K H p ws) → wpAny (model X.prog X.w) X.A (call (.type "list") us) (EP X pins σ Q) X.xe s := fun {p ws} ev lw hs => by
          subst ev
          exact run_call call_list_of I r ⟨p, ws, rfl, hs, fun q hq => fin.newL rp lw hq⟩
        cases d with
        | tup ys =>
          simp only [bis.listOf, Option.some.injEq] at en
          subst en
          simp only [Rp] at rd
          obtain ⟨p, ws, rfl, t, lw⟩ := rd
          exact seq rfl lw (.inr (by rw [hK]; exact t))
        | ref n =>
          simp only [Rp] at rd
          obtain ⟨p, rfl, ep⟩ := rd
          simp only [bis.listOf] at en
          split at en
          · rename_i ys q
            cases en
            obtain ⟨ws, hp, lw⟩ := rp.ob _ _ p q ep
            exact seq rfl lw (.inl (.inl (.inl hp)))
          · rename_i ys q
            cases en
            obtain ⟨o, ws, hp, lw⟩ := rp.ob _ _ p q ep
            exact seq rfl lw (.inl (.inl (.inr ⟨o, hp⟩)))
          · rename_i kvs q
            cases en
            obtain ⟨kv, hp, lw, nd⟩ := rp.ob _ _ p q ep
            exact run_call (call_list_dK hc) I r ⟨p, kv, rfl, hp, fun q hq => fin.newL rp (rpk_keys lw) hq⟩
          · cases en
        | _ => simp [bis.listOf] at en
      · exact fin.elim
    · exact fin.elim
  | [], _, fin => exact fin.elim
  | _ :: _ :: _, _, fin => exact fin.elim
theorem cr_int : CallR X (.type "int") (rBi B .int) := by
  intro pins s σ H vs us Q I r h
  obtain ⟨ρ, h, ds, rp, l, fin⟩ := h
  match ds, l, fin with
  | [d], l, fin =>
    obtain ⟨v, rfl, rd⟩ := rpl1 l
    cases d with
    | int i =>
      simp only [Rp] at rd
      subst rd
      exact run_call call_int1 I r (.inl ⟨i, rfl, fin.now rp (by simp only [Rp])⟩)
    | _ => exact fin.elim
  | [], _, fin => exact fin.elim
  | a :: _ :: _, _, fin => cases a <;> exact fin.elim
theorem cr_anyall (al : Bool) (hK : X.K = B.K) (hc : X.calm = true) : CallR X (.builtin (if al then "all" else "any")) (rBi B (if al then .all else .any)) := by
  intro pins s σ H vs us Q I r h
  obtain ⟨ρ, h, ds, rp, l, fin⟩ := h
  match ds, l, fin with
  | [d], l, fin =>
    obtain ⟨v, rfl, rd⟩ := rpl1 l
    cases d with
    | ref n =>
      simp only [Rp] at rd
      obtain ⟨p, rfl, ep⟩ := rd
      cases al with
      | false =>
        simp only [bis, Bool.false_eq_true, if_false] at fin
        split at fin
        · rename_i xs q
          obtain ⟨a, ea, fin⟩ := fin.of
          obtain ⟨bs, eb, rfl⟩ := Option.map_eq_some_iff.mp ea
          obtain ⟨ws, hp, lw⟩ := rp.ob _ _ p q ep
          rw [bools_rel eb lw] at hp
          exact run_call (cr_any hc) I r ⟨p, bs, rfl, .inl (.inl hp), fin.now rp (by simp only [Rp])⟩
        · exact fin.elim
      | true =>
        simp only [bis, if_true] at fin
        split at fin
        · rename_i xs q
          obtain ⟨a, ea, fin⟩ := fin.of
          obtain ⟨bs, eb, rfl⟩ := Option.map_eq_some_iff.mp ea
          obtain ⟨ws, hp, lw⟩ := rp.ob _ _ p q ep
          rw [bools_rel eb lw] at hp
          exact run_call (cr_all hc) I r ⟨p, bs, rfl, .inl (.inl hp), fin.now rp (by simp only [Rp])⟩
        · exact fin.elim
    | _ => cases al <;> exact fin.elim
  | [], _, fin => cases al <;> exact fin.elim
  | a :: _ :: _, _, fin => cases al <;> cases a <;> exact fin.elim
theorem cr_mm2 (mx : Bool) (hc : X.calm = true) : CallR X (.builtin (if mx then "max" else "min")) (rBi B (if mx then .max2 else .min2)) := by
  intro pins s σ H vs us Q I r h
  obtain ⟨ρ, h, ds, rp, l, fin⟩ := h
  match ds, l, fin with
  | [.int i, .int j], l, fin =>
    obtain ⟨v, u, rfl, rd, re⟩ := rpl2 l
    simp only [Rp] at rd re
    subst rd re
    cases mx with
    | false => exact run_call (call_min2 hc) I r ⟨i, j, rfl, fin.now rp (by simp only [Rp])⟩
    | true => exact run_call (call_max2 hc) I r ⟨i, j, rfl, fin.now rp (by simp only [Rp])⟩
  | [], _, fin => cases mx <;> exact fin.elim
  | [a], _, fin => cases mx <;> cases a <;> exact fin.elim
  | .int _ :: b :: c :: _, _, fin => cases mx <;> cases b <;> exact fin.elim
  | [.int _, .non], _, fin => cases mx <;> exact fin.elim
  | [.int _, .bl _], _, fin => cases mx <;> exact fin.elim
  | [.int _, .str _], _, fin => cases mx <;> exact fin.elim
  | [.int _, .tup _], _, fin => cases mx <;> exact fin.elim
  | [.int _, .ref _], _, fin => cases mx <;> exact fin.elim
  | [.int _, .exn _ _], _, fin => cases mx <;> exact fin.elim
  | .non :: _ :: _, _, fin => cases mx <;> exact fin.elim
  | .bl _ :: _ :: _, _, fin => cases mx <;> exact fin.elim
  | .str _ :: _ :: _, _, fin => cases mx <;> exact fin.elim
  | .tup _ :: _ :: _, _, fin => cases mx <;> exact fin.elim
  | .ref _ :: _ :: _, _, fin => cases mx <;> exact fin.elim
  | .exn _ _ :: _ :: _, _, fin => cases mx <;> exact fin.elim
theorem cr_abs : CallR X (.builtin "abs") (rBi B .abs) := by
  intro pins s σ H vs us Q I r h
  obtain ⟨ρ, h, ds, rp, l, fin⟩ := h
  match ds, l, fin with
  | [d], l, fin =>
    obtain ⟨v, rfl, rd⟩ := rpl1 l
    cases d with
    | int i =>
      simp only [Rp] at rd
      subst rd
      exact run_call call_abs I r ⟨i, rfl, fin.now rp (by simp only [Rp])⟩
    | _ => exact fin.elim
  | [], _, fin => exact fin.elim
  | a :: _ :: _, _, fin => cases a <;> exact fin.elim
theorem cr_set (hw : X.w = B.w) : CallR X (.type "set") (rBi B .set0) := by
  intro pins s σ H vs us Q I r h
  obtain ⟨ρ, h, ds, rp, l, fin⟩ := h
  match ds, l, fin with
  | [], l, fin =>
    simp only [RpL] at l
    subst l
    refine run_call cr_set0 I r ⟨rfl, fun p hp => ?_⟩
    refine fin _ _ _ (Ltr.new hp) (rp.new hp ⟨_, _, by rw [hw]; exact upd_same, rfl, fun _ => rfl⟩) ?_
    simp only [Rp]
    exact ⟨p, rfl, by rw [← rp.len, List.getElem?_append_right (Nat.le_refl _), Nat.sub_self]; rfl⟩
  | _ :: _, _, fin => exact fin.elim

/-! ### slices -/
theorem bnd_eq (n d : Nat) (x : Option Int) : bnd n d x = HT.sIx n d x := by
  cases x <;> rfl
theorem cut_rel {K : PySem.W.Frag} {ρ : List Addr} {H : Hp} {xs : List Dv} {vs : List V} (l : RpL K ρ H xs vs) (lo hi : Option Int) : RpL K ρ H (cut xs lo hi) (cutV vs lo hi) := by
  unfold cut cutV
  simp only [bnd_eq, l.len]
  exact RpL.take _ (RpL.drop _ l)
def cuts (x : Dv) (l u : Option Int) (h : Hh) : R Dv := match x with
  | .tup xs => .ok (.tup (cut xs l u)) h
  | .ref b => match h[b]? with
    | some (.lst xs) => .ok (.ref h.length) (h ++ [.lst (cut xs l u)])
    | some (.fro xs) => .ok (.ref h.length) (h ++ [.lst (cut xs l u)])
    | _ => .no
  | _ => .no
def rCuts (B : Bd) : V → Option Int → Option Int → Hp → VK → Prop := fun x lo hi H Q => ∃ ρ h a, B.H ρ H h ∧ Rp B.K ρ H a x ∧ Fin B W0 [] ρ H (Rp B.K) (cuts a lo hi h) Q
theorem sl_cuts (hK : X.K = B.K) : SlR X (rCuts B) := by
  intro pins s σ H x v vl vu lo hi sl Q I rx hs pl pu h
  obtain ⟨ρ, h, a, rp, ra, fin⟩ := h
  cases a with
  | tup xs =>
    simp only [Rp] at ra
    obtain ⟨p, vs, rfl, t, l⟩ := ra
    simp only [cuts] at fin
    refine sl_tupA pins s σ H (.ref p) v vl vu lo hi sl Q I rx hs pl pu ⟨p, vs, rfl, by rw [hK]; exact t, fun ⟨e1, e2⟩ => ?_, fun _ q hq => fin.newT rp (cut_rel l lo hi) hq⟩
    refine fin.now rp (RpL.ref (cut_rel l lo hi) ?_)
    have : cutV vs lo hi = vs := by
      unfold cutV
      rw [e1, e2, List.drop_zero, Nat.sub_zero, List.take_length]
    rw [this]
    exact t
  | ref n =>
    simp only [Rp] at ra
    obtain ⟨p, rfl, ep⟩ := ra
    simp only [cuts] at fin
    split at fin
    · rename_i xs q
      obtain ⟨vs, hp, l⟩ := rp.ob _ _ p q ep
      exact sl_list pins s σ H (.ref p) v vl vu lo hi sl Q I rx hs pl pu ⟨p, vs, rfl, .inl (.inl hp), fun q hq => fin.newL rp (cut_rel l lo hi) hq⟩
    · rename_i xs q
      obtain ⟨o, vs, hp, l⟩ := rp.ob _ _ p q ep
      exact sl_list pins s σ H (.ref p) v vl vu lo hi sl Q I rx hs pl pu ⟨p, vs, rfl, .inl (.inr ⟨o, hp⟩), fun q hq => fin.newL rp (cut_rel l lo hi) hq⟩
    · exact fin.elim
  | _ => exact fin.elim
end
end FF
end

section
set_option Elab.async false
set_option linter.all false
set_option maxRecDepth 100000
set_option maxHeartbeats 4000000
/-! FE10: min of data, sorted of data. -/
namespace FF
open PySem PySem.Spec PySem.SeqAt
open PyProof.Rows hiding St
open L2 hiding start It

/-! ### min of a list whose items compare by the heap -/
section
variable {prog : Program} {w : World} {A : Around} {I : Addr} {fp wr : List Addr} {n : Nat} {P : Nat → Value → Prop} {Sx : Nat → Heap → Prop} {h0 : Heap}
/-- all objects of h0 stand in h -/
abbrev Keeps (h0 h : Heap) : Prop := ∀ b o, h0.get? b = some o → h.get? b = some o
theorem minD_loop {R : Result → Shared → Prop} (W : Walks prog w A.in1 I fp wr n P Sx) (bt : Nat → Nat → Bool) (hc : ∀ s' : Shared, Keeps h0 s'.heap → ∀ j vi vj, P (j + 1) vi → P (argBest bt j) vj → Ob.RcOp .Lt A.in1 s' vi vj (bt (j + 1) (argBest bt j)))
    (S : Addr) (hSf : S ∉ fp) (h0S : h0.get? S = none) (h0w : ∀ b ∈ wr, h0.get? b = none) : ∀ (k j : Nat) (s : Shared) (vb : Value) (c : Nat), n = j + 1 + k → Sx (j + 1) s.heap → P (argBest bt j) vb → Keeps h0 s.heap →
    s.heap.get? S = some { cls := .type "list", data := .seq #[vb, vb] c } →
    (∀ v h' tk, P (argBest bt (n - 1)) v → (∀ b o, b ∉ wr → b ≠ S → s.heap.get? b = some o → h'.get? b = some o) → R (.ok (.ret v)) { s with heap := h', toks := tk }) →
    codeAny (model prog w) A (.builtin "min.loop" ⟨[.ref I, .none, .ref S], []⟩) R s
  | k, j, s, vb, c, hk, hx, hb, kp, hS, hR => by
    have hSw : S ∉ wr := fun z => hSf (W.sub _ z)
    have nm : (toString "min" ++ toString ".loop" : String) = "min.loop" := by decide
    refine codeAny_builtin F.entry_min_loop ?_
    rw [Around.under_plainId F.plain_min_loop _]
    show wpAny _ A.in1 (seqItems? (.ref S) >>= _) _ _ s
    refine wpAny_bind (wpAny_seqItems hS rfl ?_)
    show wpAny _ A.in1 (tryCatch (pyNext (.ref I)) _ >>= _) _ _ s
    cases k with
    | zero =>
      have e : j + 1 = n := by omega
      refine wpAny_bind (wpAny_tryCatch (W.done s _ _ (e ▸ hx) fun h' tk k' => ?_))
      show wpAny _ A.in1 (updateSeq S (fun _ => #[]) >>= _) _ _ _
      refine wpAny_bind (wpAny_updateSeq (k' S _ hSw hS) rfl (wpAny_bind (wpAny_letGo (wpAny_pure (hR vb _ tk (by rw [← e]; exact hb) fun b o nb nS q => ?_)))))
      exact (Heap.get?_update_other _ _ (Ne.symm nS)).trans (k' b o nb q)
    | succ k =>
      refine wpAny_bind (wpAny_tryCatch (W.item (j + 1) s _ _ (by omega) hx fun v h' tk hv hx' k' => ?_))
      have hS' := k' S _ hSw hS
      have kp' : Keeps h0 h' := fun b o q => k' b o (fun m => by rw [h0w b m] at q; cases q) (kp b o q)
      show wpAny _ A.in1 (tryCatch (holding [v, v] (richCompare .Lt v vb >>= _)) _ >>= _) _ _ _
      refine wpAny_bind (wpAny_tryCatch (wpAny_holding (wpAny_bind (hc { s with heap := h', toks := tk } kp' j v vb hv hb prog w _ _ ?_))))
      refine wpAny_bind (wpAny_holding (wpAny_truthy_bool (wpAny_bind (wpAny_letGo (wpAny_pure ?_)))))
      cases q : bt (j + 1) (argBest bt j) with
      | true =>
        simp only [if_true]
        refine wpAny_bind (wpAny_updateSeq hS' rfl (wpAny_bind (wpAny_letGo ?_)))
        rw [nm]
        have keepS : ∀ b o, b ≠ S → h'.get? b = some o → (h'.update S (Obj.mapSeq fun _ => #[v, v])).get? b = some o := fun b o nS z => (Heap.get?_update_other _ _ (Ne.symm nS)).trans z
        refine wpAny_pure ⟨plainId_quiet F.plain_min_loop _, minD_loop W bt hc S hSf h0S h0w k (j + 1) _ v _ (by omega) (W.frame _ _ _ hx' fun b m o z => keepS b o (fun e => hSf (e ▸ m)) z) (by simp only [argBest, q, if_true]; exact hv)
          (fun b o z => keepS b o (fun e => by rw [e, h0S] at z; cases z) (kp' b o z)) (Heap.get?_update_self _ hS' rfl) fun u h2 tk2 hu k2 => hR u h2 tk2 hu fun b o nb nS z => k2 b o nb nS (keepS b o nS (k' b o nb z))⟩
      | false =>
        simp only [Bool.false_eq_true, if_false]
        refine wpAny_bind (wpAny_letGo ?_)
        rw [nm]
        exact wpAny_pure ⟨plainId_quiet F.plain_min_loop _, minD_loop W bt hc S hSf h0S h0w k (j + 1) _ vb c (by omega) hx' (by simp only [argBest, q, Bool.false_eq_true, if_false]; exact hb)
          kp' hS' fun u h2 tk2 hu k2 => hR u h2 tk2 hu fun b o nb nS z => k2 b o nb nS (k' b o nb z)⟩
theorem call_minD {E : Value → Shared → Prop} {s : Shared} {l : Addr} {its : Array Value} {Q : Value → Shared → Prop} (hh : A.handled = none) (hl : s.heap.IsList l its) (hn : 0 < its.size) (bt : Nat → Nat → Bool)
    (hc : ∀ s' : Shared, Keeps s.heap s'.heap → ∀ j vi vj, its[j + 1]? = some vi → its[argBest bt j]? = some vj → Ob.RcOp .Lt A.in1 s' vi vj (bt (j + 1) (argBest bt j)))
    (h : ∀ v h' tk, its[argBest bt (its.size - 1)]? = some v → Keeps s.heap h' → Q v { s with heap := h', toks := tk }) : wpAny (model prog w) A (call (.builtin "min") [.ref l]) Q E s := by
  have nm : (toString "min" ++ toString ".loop" : String) = "min.loop" := by decide
  refine call_function_tree F.kind_min F.plain_min F.entry_min (F.args_min1 _) ?_
  show wpAny _ A.in1 (Builtin.Builtins.bindParams "min" ["key", "default"] 0 ⟨[], []⟩ >>= _) _ _ s
  refine wpAny_bind (wpAny_of_eq (show Builtin.Builtins.bindParams "min" ["key", "default"] 0 ⟨[], []⟩ = pure [none, none] from rfl) (wpAny_bind (wpAny_pure ?_)))
  refine wpAny_bind (iter_any hl fun s2 e2 hst hne => ?_)
  subst e2
  have W := Walks.list (prog := prog) (w := w) (A := A.in1) hh s.heap.objs.size l hne its
  have hll : l < s.heap.objs.size := by
    obtain ⟨_, q, _⟩ := hl
    exact Heap.lt_size q
  have sz : (s.heap.push { cls := .type "list_iterator", data := .fields #[.ref l, .int 0 0] }).objs.size = s.heap.objs.size + 1 := Heap.size_push ..
  have hout : s.heap.objs.size + 1 ∉ [s.heap.objs.size, l] := by
    intro m
    simp only [List.mem_cons, List.not_mem_nil, or_false] at m
    rcases m with m | m
    · exact absurd m (Nat.succ_ne_self _)
    · exact absurd (m ▸ hll : s.heap.objs.size + 1 < s.heap.objs.size) (by omega)
  have none0 : ∀ b, s.heap.objs.size ≤ b → s.heap.get? b = none := fun b hb => Heap.get?_none_of_le hb
  refine wpAny_bind (wpAny_newObj_type ?_)
  rw [nm]
  refine wpAny_pure ⟨plainId_quiet F.plain_min_loop _, ?_⟩
  show codeAny (model prog w) A (.builtin "min.loop" ⟨[.ref s.heap.objs.size, .none, .ref (s.heap.push { cls := .type "list_iterator", data := .fields #[.ref l, .int 0 0] }).objs.size], []⟩) _
    { s with heap := (s.heap.push { cls := .type "list_iterator", data := .fields #[.ref l, .int 0 0] }).push { cls := .type "list", data := .seq #[] } }
  rw [sz]
  generalize hs3 : ({ s with heap := (s.heap.push { cls := .type "list_iterator", data := .fields #[.ref l, .int 0 0] }).push { cls := .type "list", data := .seq #[] } } : Shared) = s3
  have hS3 : s3.heap.get? (s.heap.objs.size + 1) = some { cls := .type "list", data := .seq #[] } := by
    rw [← hs3, ← sz]
    exact Heap.get?_push_size _ rfl
  have kp3 : Keeps s.heap s3.heap := fun b o q => by
    rw [← hs3]
    exact Heap.get?_push_of_some _ (Heap.get?_push_of_some _ q)
  have x3 : s3.heap.IsListIter s.heap.objs.size l 0 ∧ s3.heap.IsList l its := by
    rw [← hs3]
    exact ⟨hst.1.at fun o q => Heap.get?_push_of_some _ q, hst.2.at fun o q => Heap.get?_push_of_some _ q⟩
  have hS0 : s.heap.get? (s.heap.objs.size + 1) = none := none0 _ (Nat.le_succ _)
  have hw0 : ∀ b ∈ [s.heap.objs.size], s.heap.get? b = none := fun b m => by
    rw [List.mem_singleton.mp m]
    exact none0 _ (Nat.le_refl _)
  have hSw : s.heap.objs.size + 1 ∉ [s.heap.objs.size] := fun m => Nat.succ_ne_self _ (List.mem_singleton.mp m)
  have e3 : s3.gens = s.gens ∧ s3.drawn = s.drawn ∧ s3.toks = s.toks ∧ s3.os = s.os := by rw [← hs3]; exact ⟨rfl, rfl, rfl, rfl⟩
  -- the first item
  refine codeAny_builtin F.entry_min_loop ?_
  rw [Around.under_plainId F.plain_min_loop _]
  show wpAny _ A.in1 (seqItems? (.ref (s.heap.objs.size + 1)) >>= _) _ _ s3
  refine wpAny_bind (wpAny_seqItems hS3 rfl ?_)
  show wpAny _ A.in1 (tryCatch (pyNext (.ref s.heap.objs.size)) _ >>= _) _ _ s3
  refine wpAny_bind (wpAny_tryCatch (W.item 0 s3 _ _ hn x3 fun v h' tk hv hx' k' => ?_))
  have hS' := k' (s.heap.objs.size + 1) _ hSw hS3
  show wpAny _ A.in1 (updateSeq (s.heap.objs.size + 1) (fun _ => #[v, v]) >>= _) _ _ _
  refine wpAny_bind (wpAny_updateSeq hS' rfl ?_)
  rw [nm]
  have keepS : ∀ b o, b ≠ s.heap.objs.size + 1 → h'.get? b = some o → (h'.update (s.heap.objs.size + 1) (Obj.mapSeq fun _ => #[v, v])).get? b = some o := fun b o nS z => (Heap.get?_update_other _ _ (Ne.symm nS)).trans z
  have kp' : Keeps s.heap h' := fun b o q => k' b o (fun m => by rw [hw0 b m] at q; cases q) (kp3 b o q)
  refine wpAny_pure ⟨plainId_quiet F.plain_min_loop _, minD_loop W bt hc (s.heap.objs.size + 1) hout hS0 hw0 (its.size - 1) 0 _ v _ (by omega) (W.frame _ _ _ hx' fun b m o z => keepS b o (fun e => hout (e ▸ m)) z) hv
    (fun b o z => keepS b o (fun e => by rw [e, hS0] at z; cases z) (kp' b o z)) (Heap.get?_update_self _ hS' rfl) fun u h2 tk2 hu k2 => ?_⟩
  have kp2 : Keeps s.heap h2 := fun b o q => k2 b o (fun m => by rw [hw0 b m] at q; cases q) (fun e => by rw [e, hS0] at q; cases q) (keepS b o (fun e => by rw [e, hS0] at q; cases q) (kp' b o q))
  have fin := h u h2 tk2 hu kp2
  obtain ⟨g1, g2, g3, g4⟩ := e3
  obtain ⟨hp3, gn3, d3, t3, o3⟩ := s3
  simp only at g1 g2 g3 g4
  subst g1 g2 g4
  exact fin
end
end FF
end

section
set_option Elab.async false
set_option linter.all false
set_option maxRecDepth 100000
set_option maxHeartbeats 4000000
/-! FE11: min, max and sorted by values. -/
namespace FF
open PySem PySem.Spec PySem.SeqAt
open PyProof.Rows hiding St
open L2 hiding start It

/-! ### the order as one of rows of numbers -/
mutual
def encP : PyData → List Int
  | .int i => [2, i]
  | .tuple xs => encPs xs
  | _ => [3]
def encPs : List PyData → List Int
  | [] => [0]
  | x :: xs => 1 :: (encP x ++ encPs xs)
end
mutual
def pureP : PyData → Bool
  | .int _ => true
  | .tuple xs => purePs xs
  | _ => false
def purePs : List PyData → Bool
  | [] => true
  | x :: xs => pureP x && purePs xs
end
mutual
theorem eqv_pure : ∀ (a b : PyData), pureP a = true → pureP b = true → (PyData.eqv a b = true ↔ a = b)
  | .int i, .int j, _, _ => by simp [PyData.eqv]
  | .int i, .tuple _, _, _ => by simp [PyData.eqv]
  | .tuple _, .int j, _, _ => by simp [PyData.eqv]
  | .tuple xs, .tuple ys, h1, h2 => by
    rw [PyData.eqv]
    simp only [pureP] at h1 h2
    rw [eqv_pures xs ys h1 h2]
    simp
  | .none, _, h, _ => by simp [pureP] at h
  | .bool _, _, h, _ => by simp [pureP] at h
  | .str _, _, h, _ => by simp [pureP] at h
  | .list _, _, h, _ => by simp [pureP] at h
  | .dict _, _, h, _ => by simp [pureP] at h
  | .int _, .none, _, h => by simp [pureP] at h
  | .int _, .bool _, _, h => by simp [pureP] at h
  | .int _, .str _, _, h => by simp [pureP] at h
  | .int _, .list _, _, h => by simp [pureP] at h
  | .int _, .dict _, _, h => by simp [pureP] at h
  | .tuple _, .none, _, h => by simp [pureP] at h
  | .tuple _, .bool _, _, h => by simp [pureP] at h
  | .tuple _, .str _, _, h => by simp [pureP] at h
  | .tuple _, .list _, _, h => by simp [pureP] at h
  | .tuple _, .dict _, _, h => by simp [pureP] at h
theorem eqv_pures : ∀ (a b : List PyData), purePs a = true → purePs b = true → (PyData.eqvAll a b = true ↔ a = b)
  | [], [], _, _ => by simp [PyData.eqvAll]
  | [], _ :: _, _, _ => by simp [PyData.eqvAll]
  | _ :: _, [], _, _ => by simp [PyData.eqvAll]
  | x :: xs, y :: ys, h1, h2 => by
    simp only [purePs, Bool.and_eq_true] at h1 h2
    rw [PyData.eqvAll, Bool.and_eq_true, eqv_pure x y h1.1 h2.1, eqv_pures xs ys h1.2 h2.2]
    simp
end
mutual
theorem enc_inj : ∀ (a b : PyData) (r r' : List Int), pureP a = true → pureP b = true → encP a ++ r = encP b ++ r' → a = b ∧ r = r'
  | .int i, .int j, r, r', _, _, e => by
    simp only [encP, List.cons_append, List.nil_append, List.cons.injEq, true_and] at e
    exact ⟨by rw [e.1], e.2⟩
  | .int i, .tuple ys, r, r', _, _, e => by
    cases ys <;> simp [encP, encPs] at e
  | .tuple xs, .int i, r, r', _, _, e => by
    cases xs <;> simp [encP, encPs] at e
  | .tuple xs, .tuple ys, r, r', h1, h2, e => by
    simp only [pureP] at h1 h2
    simp only [encP] at e
    obtain ⟨e1, e2⟩ := encs_inj xs ys r r' h1 h2 e
    exact ⟨by rw [e1], e2⟩
  | .none, _, _, _, h, _, _ => by simp [pureP] at h
  | .bool _, _, _, _, h, _, _ => by simp [pureP] at h
  | .str _, _, _, _, h, _, _ => by simp [pureP] at h
  | .list _, _, _, _, h, _, _ => by simp [pureP] at h
  | .dict _, _, _, _, h, _, _ => by simp [pureP] at h
  | .int _, .none, _, _, _, h, _ => by simp [pureP] at h
  | .int _, .bool _, _, _, _, h, _ => by simp [pureP] at h
  | .int _, .str _, _, _, _, h, _ => by simp [pureP] at h
  | .int _, .list _, _, _, _, h, _ => by simp [pureP] at h
  | .int _, .dict _, _, _, _, h, _ => by simp [pureP] at h
  | .tuple _, .none, _, _, _, h, _ => by simp [pureP] at h
  | .tuple _, .bool _, _, _, _, h, _ => by simp [pureP] at h
  | .tuple _, .str _, _, _, _, h, _ => by simp [pureP] at h
  | .tuple _, .list _, _, _, _, h, _ => by simp [pureP] at h
  | .tuple _, .dict _, _, _, _, h, _ => by simp [pureP] at h
theorem encs_inj : ∀ (a b : List PyData) (r r' : List Int), purePs a = true → purePs b = true → encPs a ++ r = encPs b ++ r' → a = b ∧ r = r'
  | [], [], r, r', _, _, e => by simpa [encPs] using e
  | [], _ :: _, r, r', _, _, e => by simp [encPs] at e
  | _ :: _, [], r, r', _, _, e => by simp [encPs] at e
  | x :: xs, y :: ys, r, r', h1, h2, e => by
    simp only [purePs, Bool.and_eq_true] at h1 h2
    simp only [encPs, List.cons_append, List.append_assoc, List.cons.injEq, true_and] at e
    obtain ⟨e1, e2⟩ := enc_inj x y _ _ h1.1 h2.1 e
    obtain ⟨e3, e4⟩ := encs_inj xs ys r r' h1.2 h2.2 e2
    exact ⟨by rw [e1, e3], e4⟩
end
theorem lt_cons {a : Int} {l m : List Int} : (a :: l < a :: m) ↔ l < m := by
  rw [List.cons_lt_cons_iff]
  exact ⟨fun h => h.elim (fun h => absurd h (Int.lt_irrefl a)) (·.2), fun h => .inr ⟨rfl, h⟩⟩
theorem lt_app : ∀ {p l m : List Int}, (p ++ l < p ++ m) ↔ l < m
  | [], _, _ => Iff.rfl
  | a :: p, l, m => by
    rw [List.cons_append, List.cons_append, lt_cons, lt_app]
/-- where < tells something, it is the order of the rows -/
theorem ltD_enc : ∀ (n : Nat) (a b : PyData) (k : Bool), ltD false n a b = some k → pureP a = true → pureP b = true → (a = b ∧ k = false) ∨ (a ≠ b ∧ ∀ r r' : List Int, (encP a ++ r < encP b ++ r') ↔ k = true)
  | 0, _, _, _, e, _, _ => by simp [ltD] at e
  | n + 1, a, b, k, e, pa, pb => by
    cases a with
    | int i =>
      cases b with
      | int j =>
        simp only [ltD, Bool.false_eq_true, if_false, Option.some.injEq] at e
        subst e
        by_cases h : i = j
        · subst h; exact .inl ⟨rfl, by simp⟩
        · refine .inr ⟨fun z => h (by injection z), fun r r' => ?_⟩
          simp only [encP, List.cons_append, List.nil_append]
          rw [lt_cons, List.cons_lt_cons_iff, decide_eq_true_eq]
          exact ⟨fun z => z.elim id fun z => absurd z.1 h, .inl⟩
      | _ => simp [pureP] at pb <;> simp [ltD] at e
    | tuple xs =>
      cases b with
      | tuple ys =>
        simp only [ltD] at e
        simp only [pureP] at pa pb
        have all : ∀ (xs ys : List PyData) (k : Bool), ltD.go false n xs ys = some k → purePs xs = true → purePs ys = true → (xs = ys ∧ k = false) ∨ (xs ≠ ys ∧ ∀ r r' : List Int, (encPs xs ++ r < encPs ys ++ r') ↔ k = true) := by
          intro xs
          induction xs with
          | nil =>
            intro ys k e _ _
            cases ys with
            | nil => simp only [ltD.go_nn, ltD.go_nc, ltD.go_cn, ltD.go_cc, Option.some.injEq] at e; exact .inl ⟨rfl, e.symm⟩
            | cons y ys =>
              simp only [ltD.go_nn, ltD.go_nc, ltD.go_cn, ltD.go_cc, Option.some.injEq] at e
              refine .inr ⟨by simp, fun r r' => ?_⟩
              rw [← e]
              simp [encPs, List.cons_lt_cons_iff]
          | cons x xs ih =>
            intro ys k e p1 p2
            cases ys with
            | nil =>
              simp only [ltD.go_nn, ltD.go_nc, ltD.go_cn, ltD.go_cc, Option.some.injEq] at e
              refine .inr ⟨by simp, fun r r' => ?_⟩
              rw [← e]
              simp [encPs, List.cons_lt_cons_iff]
            | cons y ys =>
              simp only [purePs, Bool.and_eq_true] at p1 p2
              simp only [ltD.go_nn, ltD.go_nc, ltD.go_cn, ltD.go_cc] at e
              by_cases hx : PyData.eqv x y = true
              · rw [if_pos hx] at e
                have hxy := (eqv_pure x y p1.1 p2.1).mp hx
                subst hxy
                rcases ih ys k e p1.2 p2.2 with ⟨h1, h2⟩ | ⟨h1, h2⟩
                · exact .inl ⟨by rw [h1], h2⟩
                · refine .inr ⟨fun z => h1 (List.cons.inj z).2, fun r r' => ?_⟩
                  have := h2 r r'
                  simp only [encPs, List.cons_append, List.append_assoc]
                  rw [← this, lt_cons, lt_app]
              · rw [if_neg hx] at e
                split at e
                · rcases ltD_enc n x y k e p1.1 p2.1 with ⟨h1, h2⟩ | ⟨h1, h2⟩
                  · exact absurd ((eqv_pure x y p1.1 p2.1).mpr h1) hx
                  · refine .inr ⟨fun z => h1 (List.cons.inj z).1, fun r r' => ?_⟩
                    have := h2 (encPs xs ++ r) (encPs ys ++ r')
                    simp only [encPs, List.cons_append, List.append_assoc]
                    rw [← this, lt_cons]
                · cases e
        rcases all xs ys k e pa pb with ⟨h1, h2⟩ | ⟨h1, h2⟩
        · exact .inl ⟨by rw [h1], h2⟩
        · refine .inr ⟨fun z => h1 (by injection z), fun r r' => ?_⟩
          simp only [encP]
          exact h2 r r'
      | _ => simp [pureP] at pb <;> simp [ltD] at e
    | _ => simp [pureP] at pa
theorem ltD_dec {n : Nat} {a b : PyData} {k : Bool} (e : ltD false n a b = some k) (pa : pureP a = true) (pb : pureP b = true) : k = decide (encP a < encP b) := by
  rcases ltD_enc n a b k e pa pb with ⟨h1, h2⟩ | ⟨_, h2⟩
  · subst h1
    rw [h2]
    exact (decide_eq_false (List.lt_irrefl _)).symm
  · have := h2 [] []
    rw [List.append_nil, List.append_nil] at this
    by_cases q : encP a < encP b
    · rw [decide_eq_true q]; exact this.mp q
    · rw [decide_eq_false q]
      cases k with
      | false => rfl
      | true => exact absurd (this.mpr rfl) q

/-! ### pure data as trees -/
mutual
def ofD : Dv → PyData
  | .int i => .int i
  | .tup xs => .tuple (ofDs xs)
  | _ => .none
def ofDs : List Dv → List PyData
  | [] => []
  | x :: xs => ofD x :: ofDs xs
end
theorem pure_toD {h : Hh} : ∀ (n : Nat) (d : Dv), pureD n d = true → toD n h d = some (ofD d) ∧ pureP (ofD d) = true
  | 0, _, e => by simp [pureD] at e
  | n + 1, d, e => by
    cases d with
    | int i => exact ⟨rfl, rfl⟩
    | tup xs =>
      simp only [pureD] at e
      have all : ∀ xs : List Dv, xs.all (pureD n) = true → xs.mapM (toD n h) = some (ofDs xs) ∧ purePs (ofDs xs) = true := by
        intro xs
        induction xs with
        | nil => intro _; exact ⟨rfl, rfl⟩
        | cons x xs ih =>
          intro e
          rw [List.all_cons, Bool.and_eq_true] at e
          obtain ⟨a1, a2⟩ := pure_toD n x e.1
          obtain ⟨b1, b2⟩ := ih e.2
          refine ⟨?_, by simp only [ofDs, purePs, a2, b2, Bool.and_self]⟩
          rw [List.mapM_cons, a1, b1]
          rfl
      obtain ⟨h1, h2⟩ := all xs e
      refine ⟨by simp only [toD, h1]; rfl, by simpa only [ofD, pureP] using h2⟩
    | _ => simp [pureD] at e
mutual
theorem ofD_inj : ∀ (n : Nat) (a b : Dv), pureD n a = true → pureD n b = true → ofD a = ofD b → a = b
  | 0, _, _, e, _, _ => by simp [pureD] at e
  | n + 1, .int i, .int j, _, _, e => by simp only [ofD, PyData.int.injEq] at e; rw [e]
  | n + 1, .tup xs, .tup ys, h1, h2, e => by
    simp only [pureD] at h1 h2
    simp only [ofD, PyData.tuple.injEq] at e
    rw [ofDs_inj n xs ys h1 h2 e]
  | n + 1, .int i, .tup _, _, _, e => by simp [ofD] at e
  | n + 1, .tup _, .int i, _, _, e => by simp [ofD] at e
  | n + 1, .non, _, h, _, _ => by simp [pureD] at h
  | n + 1, .bl _, _, h, _, _ => by simp [pureD] at h
  | n + 1, .str _, _, h, _, _ => by simp [pureD] at h
  | n + 1, .ref _, _, h, _, _ => by simp [pureD] at h
  | n + 1, .exn _ _, _, h, _, _ => by simp [pureD] at h
  | n + 1, .int _, .non, _, h, _ => by simp [pureD] at h
  | n + 1, .int _, .bl _, _, h, _ => by simp [pureD] at h
  | n + 1, .int _, .str _, _, h, _ => by simp [pureD] at h
  | n + 1, .int _, .ref _, _, h, _ => by simp [pureD] at h
  | n + 1, .int _, .exn _ _, _, h, _ => by simp [pureD] at h
  | n + 1, .tup _, .non, _, h, _ => by simp [pureD] at h
  | n + 1, .tup _, .bl _, _, h, _ => by simp [pureD] at h
  | n + 1, .tup _, .str _, _, h, _ => by simp [pureD] at h
  | n + 1, .tup _, .ref _, _, h, _ => by simp [pureD] at h
  | n + 1, .tup _, .exn _ _, _, h, _ => by simp [pureD] at h
theorem ofDs_inj : ∀ (n : Nat) (a b : List Dv), a.all (pureD n) = true → b.all (pureD n) = true → ofDs a = ofDs b → a = b
  | _, [], [], _, _, _ => rfl
  | _, [], _ :: _, _, _, e => by simp [ofDs] at e
  | _, _ :: _, [], _, _, e => by simp [ofDs] at e
  | n, x :: xs, y :: ys, h1, h2, e => by
    rw [List.all_cons, Bool.and_eq_true] at h1 h2
    simp only [ofDs, List.cons.injEq] at e
    rw [ofD_inj n x y h1.1 h2.1 e.1, ofDs_inj n xs ys h1.2 h2.2 e.2]
end
def encD (d : Dv) : List Int := encP (ofD d)
theorem encD_inj {n : Nat} {a b : Dv} (ha : pureD n a = true) (hb : pureD n b = true) (e : encD a = encD b) : a = b := by
  obtain ⟨_, p1⟩ := pure_toD (h := []) n a ha
  obtain ⟨_, p2⟩ := pure_toD (h := []) n b hb
  have := (enc_inj (ofD a) (ofD b) [] [] p1 p2 (by rw [List.append_nil, List.append_nil]; exact e)).1
  exact ofD_inj n a b ha hb this
theorem dlt_dec {h : Hh} {a b : Dv} {k : Bool} (ha : pureD 8 a = true) (hb : pureD 8 b = true) (e : dlt false h a b = some k) : k = decide (encD a < encD b) := by
  rcases dlt_eq e with ⟨i, j, rfl, rfl, rfl⟩ | ⟨d, t, h1, h2, h3⟩
  · simp only [Bool.false_eq_true, if_false]
    have q : (encD (.int i) < encD (.int j)) ↔ i < j := by
      show ([2, i] : List Int) < [2, j] ↔ i < j
      rw [lt_cons, List.cons_lt_cons_iff]
      exact ⟨fun z => z.elim id fun z => absurd z.2 (List.lt_irrefl []), .inl⟩
    by_cases z : i < j
    · rw [decide_eq_true z, decide_eq_true (q.mpr z)]
    · rw [decide_eq_false z, decide_eq_false fun y => z (q.mp y)]
  · obtain ⟨q1, p1⟩ := pure_toD (h := h) 8 a ha
    obtain ⟨q2, p2⟩ := pure_toD (h := h) 8 b hb
    rw [h1] at q1; cases q1
    rw [h2] at q2; cases q2
    exact ltD_dec h3 p1 p2

/-! ### sorting by insertion -/
theorem insS_perm (lt : Dv → Dv → Bool) (x : Dv) : ∀ l, (insS lt x l).Perm (x :: l)
  | [] => List.Perm.refl _
  | y :: r => by
    unfold insS
    split
    · exact List.Perm.refl _
    · exact (List.Perm.cons y (insS_perm lt x r)).trans (List.Perm.swap x y r)
theorem insS_sorted {lt : Dv → Dv → Bool} {f : Dv → List Int} {P : Dv → Prop} (hlt : ∀ a b, P a → P b → lt a b = decide (f a < f b)) {x : Dv} (px : P x) : ∀ {l : List Dv}, (∀ y ∈ l, P y) → l.Pairwise (fun a b => ¬ f b < f a) → (insS lt x l).Pairwise (fun a b => ¬ f b < f a)
  | [], _, _ => List.pairwise_singleton _ _
  | y :: r, pl, s => by
    have py := pl y List.mem_cons_self
    rw [List.pairwise_cons] at s
    unfold insS
    rw [hlt x y px py]
    by_cases h : f x < f y
    · rw [if_pos (decide_eq_true h)]
      rw [List.pairwise_cons]
      refine ⟨fun z hz => ?_, List.pairwise_cons.mpr s⟩
      rcases List.mem_cons.mp hz with rfl | hz
      · exact fun q => List.lt_irrefl _ (List.lt_trans h q)
      · intro q
        exact s.1 z hz (List.lt_trans q h)
    · rw [if_neg (by simpa using h)]
      rw [List.pairwise_cons]
      refine ⟨fun z hz => ?_, insS_sorted hlt px (fun z hz => pl z (List.mem_cons_of_mem _ hz)) s.2⟩
      rcases List.mem_cons.mp ((insS_perm lt x r).mem_iff.mp hz) with rfl | hz
      · exact h
      · exact s.1 z hz
theorem sortI_ok {lt : Dv → Dv → Bool} {f : Dv → List Int} {P : Dv → Prop} (hlt : ∀ a b, P a → P b → lt a b = decide (f a < f b)) {xs : List Dv} (px : ∀ y ∈ xs, P y) : (sortI lt xs).Perm xs ∧ (sortI lt xs).Pairwise (fun a b => ¬ f b < f a) := by
  have go : ∀ (xs acc : List Dv), (∀ y ∈ xs, P y) → (∀ y ∈ acc, P y) → acc.Pairwise (fun a b => ¬ f b < f a) → (xs.foldl (fun acc x => insS lt x acc) acc).Perm (acc ++ xs) ∧ (xs.foldl (fun acc x => insS lt x acc) acc).Pairwise (fun a b => ¬ f b < f a) := by
    intro xs
    induction xs with
    | nil => intro acc _ _ s; exact ⟨by rw [List.append_nil]; exact List.Perm.refl _, s⟩
    | cons x xs ih =>
      intro acc h1 h2 s
      have px := h1 x List.mem_cons_self
      have pp := insS_perm lt x acc
      obtain ⟨q1, q2⟩ := ih (insS lt x acc) (fun y hy => h1 y (List.mem_cons_of_mem _ hy)) (fun y hy => (List.mem_cons.mp (pp.mem_iff.mp hy)).elim (fun e => by rw [e]; exact px) (h2 y)) (insS_sorted hlt px h2 s)
      refine ⟨q1.trans ?_, q2⟩
      refine (List.Perm.append_right xs pp).trans ?_
      rw [List.cons_append]
      exact (List.perm_middle).symm
  obtain ⟨h1, h2⟩ := go xs [] px (fun _ h => nomatch h) List.Pairwise.nil
  rw [List.nil_append] at h1
  exact ⟨h1, h2⟩
/-- two sorted rows of the same things are one -/
theorem sorted_one {f : Dv → List Int} : ∀ {l m : List Dv}, (∀ a ∈ l, ∀ b ∈ l, f a = f b → a = b) → l.Perm m → l.Pairwise (fun a b => ¬ f b < f a) → m.Pairwise (fun a b => ¬ f b < f a) → l = m
  | [], m, _, p, _, _ => (List.nil_perm.mp p).symm
  | x :: l, [], _, p, _, _ => by have := p.length_eq; simp at this
  | x :: l, y :: m, inj, p, s1, s2 => by
    rw [List.pairwise_cons] at s1 s2
    have hy : y ∈ x :: l := p.mem_iff.mpr List.mem_cons_self
    have hx : x ∈ y :: m := p.mem_iff.mp List.mem_cons_self
    have e : x = y := by
      rcases List.mem_cons.mp hy with e | hy'
      · exact e.symm
      · rcases List.mem_cons.mp hx with e | hx'
        · exact e
        · have a1 := s1.1 y hy'
          have a2 := s2.1 x hx'
          refine inj x List.mem_cons_self y hy ?_
          rcases Std.lt_trichotomy (f x) (f y) with q | q | q
          · exact absurd q a2
          · exact q
          · exact absurd q a1
    subst e
    rw [sorted_one (fun a ha b hb => inj a (List.mem_cons_of_mem _ ha) b (List.mem_cons_of_mem _ hb)) (List.perm_cons x |>.mp p) s1.2 s2.2]
end FF
end

section
set_option Elab.async false
set_option linter.all false
set_option maxRecDepth 100000
set_option maxHeartbeats 4000000
/-! FE12: sorted, min, max as rules of calls. -/
namespace FF
open PySem PySem.Spec PySem.SeqAt
open PyProof.Rows hiding St
open L2 hiding start It

/-! ### a value's row of numbers, by the heap -/
mutual
theorem reads_inj {h : Heap} : ∀ (t t' : PyData) (v : Value) (as bs : List Addr), pureP t = true → pureP t' = true → Reads h v t as → Reads h v t' bs → t = t'
  | .int i, t', v, as, bs, _, p, a, b => by
    cases a
    cases b with
    | int => rfl
  | .tuple xs, t', v, as, bs, p1, p2, a, b => by
    cases a with
    | tuple h1 h2 h3 h4 =>
      cases b with
      | list k1 k2 _ _ => rw [h1] at k1; cases k1; rw [h2] at k2; exact absurd (Value.type.inj k2) (by decide)
      | tuple k1 k2 k3 k4 =>
        rw [h1] at k1; cases k1
        rw [h3] at k3; cases k3
        simp only [pureP] at p1 p2
        rw [readsAll_inj _ _ _ _ _ p1 p2 h4 k4]
      | dict k1 k2 _ _ _ => simp [pureP] at p2
  | .none, _, _, _, _, p, _, _, _ => by simp [pureP] at p
  | .bool _, _, _, _, _, p, _, _, _ => by simp [pureP] at p
  | .str _, _, _, _, _, p, _, _, _ => by simp [pureP] at p
  | .list _, _, _, _, _, p, _, _, _ => by simp [pureP] at p
  | .dict _, _, _, _, _, p, _, _, _ => by simp [pureP] at p
theorem readsAll_inj {h : Heap} : ∀ (t t' : List PyData) (v : List Value) (as bs : List Addr), purePs t = true → purePs t' = true → ReadsAll h v t as → ReadsAll h v t' bs → t = t'
  | [], _, _, _, _, _, _, a, b => by
    cases a
    cases b
    rfl
  | x :: xs, _, _, _, _, p1, p2, a, b => by
    cases a with
    | cons a1 a2 =>
      cases b with
      | cons b1 b2 =>
        simp only [purePs, Bool.and_eq_true] at p1 p2
        rw [reads_inj _ _ _ _ _ p1.1 p2.1 a1 b1, readsAll_inj _ _ _ _ _ p1.2 p2.2 a2 b2]
end
open Classical in
noncomputable def keyV (h : Heap) (v : Value) : List Int := if H : ∃ t, pureP t = true ∧ ∃ as, Reads h v t as then encP H.choose else []
theorem keyV_eq {h : Heap} {v : Value} {t : PyData} {as : List Addr} (p : pureP t = true) (r : Reads h v t as) : keyV h v = encP t := by
  have H : ∃ t, pureP t = true ∧ ∃ as, Reads h v t as := ⟨t, p, as, r⟩
  unfold keyV
  rw [dif_pos H]
  obtain ⟨p', bs, r'⟩ := H.choose_spec
  rw [reads_inj _ _ v _ _ p' p r' r]
noncomputable def ltV (h : Heap) (v u : Value) : Bool := decide (keyV h v < keyV h u)
theorem swo_ltV (h : Heap) : SrtO.Swo (ltV h) := by
  refine ⟨fun x y q => ?_, fun x y z q1 q2 => ?_⟩
  · exact decide_eq_false (List.lt_asymm (of_decide_eq_true q))
  · have a : ¬ keyV h y < keyV h x := of_decide_eq_false q1
    have b : ¬ keyV h z < keyV h y := of_decide_eq_false q2
    exact decide_eq_false fun c => (Std.lt_trichotomy (keyV h x) (keyV h y)).elim (fun d => b (List.lt_trans c d)) fun d => d.elim (fun d => by rw [d] at c; exact b c) a

/-! ### the sort's own comparison -/
theorem kat_of {prog : Program} {w : World} {A : Around} {s : Shared} {b : Bool} {Q : Bool → Shared → Prop} {n : Nat} : ∀ (xs ys : List PyData) (us ws : List Value) (as bs : List Addr) (i : Nat) (k : Bool), ltD.go false n xs ys = some k → ReadsAll s.heap us xs as → ReadsAll s.heap ws ys bs →
    PyData.canLayAll0 xs = true → PyData.canLayAll0 ys = true → A.units + n + PyData.depthAll xs < cLine → (b = true → i = 0 → ∀ x y, xs[0]? = some x → ys[0]? = some y → ∃ p q, x = .int p ∧ y = .int q) → Q k s →
    PySem.W.KatLex prog w A b (decide (us.length < ws.length)) Q (us.zip ws) i s
  | [], [], us, ws, _, _, i, k, e, ra, rb, _, _, _, _, q => by
    cases ra; cases rb
    simp only [ltD.go_nn, ltD.go_nc, ltD.go_cn, ltD.go_cc, Option.some.injEq] at e
    subst e
    exact PySem.W.kat_nil q
  | [], _ :: _, us, ws, _, _, i, k, e, ra, rb, _, _, _, _, q => by
    cases ra; cases rb
    simp only [ltD.go_nn, ltD.go_nc, ltD.go_cn, ltD.go_cc, Option.some.injEq] at e
    subst e
    exact PySem.W.kat_nil (by simpa using q)
  | _ :: _, [], us, ws, _, _, i, k, e, ra, rb, _, _, _, _, q => by
    cases ra; cases rb
    simp only [ltD.go_nn, ltD.go_nc, ltD.go_cn, ltD.go_cc, Option.some.injEq] at e
    subst e
    exact PySem.W.kat_nil (by simpa using q)
  | x :: xs, y :: ys, us, ws, _, _, i, k, e, ra, rb, ca, cb, hu, hb, q => by
    cases ra with
    | cons r1 r2 =>
      cases rb with
      | cons t1 t2 =>
        simp only [PyData.canLayAll0, Bool.and_eq_true] at ca cb
        simp only [PyData.depthAll] at hu
        simp only [ltD.go_nn, ltD.go_nc, ltD.go_cn, ltD.go_cc] at e
        rw [List.zip_cons_cons]
        refine PySem.W.kat_cons (eqAt_reads x y A s _ _ _ _ r1 t1 ca.1 cb.1 (show A.units + min x.depth y.depth < cLine by omega) prog w _ _ ?_)
        refine PySem.W.kat_go (fun h => ?_) (fun h => ?_)
        · rw [if_pos h] at e
          refine PySem.W.kat_yes ?_
          have := kat_of (prog := prog) (w := w) (A := A) (b := b) xs ys _ _ _ _ (i + 1) k e r2 t2 ca.2 cb.2 (by omega) (fun _ z => absurd z (Nat.succ_ne_zero i)) q
          simpa using this
        · rw [if_neg (by rw [h]; exact Bool.false_ne_true)] at e
          split at e
          · refine PySem.W.kat_no ?_
            cases hbi : (b && i == 0) with
            | true =>
              simp only [Bool.and_eq_true, beq_iff_eq] at hbi
              obtain ⟨p, p', rfl, rfl⟩ := hb hbi.1 hbi.2 x y rfl rfl
              cases n with
              | zero => simp [ltD] at e
              | succ n =>
                simp only [ltD, Bool.false_eq_true, if_false, Option.some.injEq] at e
                subst e
                cases r1
                cases t1
                exact oneLt_int q
            | false =>
              refine PySem.W.kat_one _ _ ?_
              refine compare_rc (le := false) (rc_lt n x y A _ _ _ _ k e r1 t1 ca.1 cb.1 (by omega)) ?_
              exact q
          · cases e

section
variable {X : Cx} {B : Bd} {pins : List (Addr × Obj)} {σ : L2.St} {H : Hp} {s : Shared} {ρ : List Addr} {h : Hh}
/-- each item above, in the middle, below -/
structure Row (K : PySem.W.Frag) (ρ : List Addr) (H : Hp) (zs : List (Dv × V × Value)) : Prop where
  rel : ∀ z ∈ zs, Rp K ρ H z.1 z.2.1 ∧ L2.RelV z.2.1 z.2.2
theorem row_of {K : PySem.W.Frag} : ∀ {xs : List Dv} {vs : List V} {us : List Value}, RpL K ρ H xs vs → Vals vs us → ∃ zs, Row K ρ H zs ∧ zs.map (·.1) = xs ∧ zs.map (·.2.1) = vs ∧ zs.map (·.2.2) = us
  | [], vs, us, l, r => by
    simp only [RpL] at l
    subst l
    cases r
    exact ⟨[], ⟨fun _ m => nomatch m⟩, rfl, rfl, rfl⟩
  | x :: xs, vs, us, l, r => by
    simp only [RpL] at l
    obtain ⟨v, q, rfl, a, l⟩ := l
    cases r with
    | cons r1 r2 =>
      obtain ⟨zs, h1, h2, h3, h4⟩ := row_of l r2
      refine ⟨(x, v, _) :: zs, ⟨fun z m => ?_⟩, by rw [List.map_cons, h2], by rw [List.map_cons, h3], by rw [List.map_cons, h4]⟩
      rcases List.mem_cons.mp m with rfl | m
      · exact ⟨a, r1⟩
      · exact h1.rel z m
theorem row_to {K : PySem.W.Frag} : ∀ {zs : List (Dv × V × Value)}, Row K ρ H zs → RpL K ρ H (zs.map (·.1)) (zs.map (·.2.1)) ∧ Vals (zs.map (·.2.1)) (zs.map (·.2.2))
  | [], _ => ⟨by simp only [List.map_nil, RpL], .nil⟩
  | z :: zs, r => by
    obtain ⟨a, b⟩ := r.rel z List.mem_cons_self
    obtain ⟨c, d⟩ := row_to (zs := zs) ⟨fun y m => r.rel y (List.mem_cons_of_mem _ m)⟩
    refine ⟨?_, .cons b d⟩
    simp only [List.map_cons, RpL]
    exact ⟨_, _, rfl, a, c⟩
theorem perm_lift {α β : Type} (f : α → β) : ∀ {l : List β} {m : List α}, l.Perm (m.map f) → ∃ m' : List α, m'.Perm m ∧ m'.map f = l := by
  intro l m p
  generalize hk : m.map f = k at p
  induction p generalizing m with
  | nil => exact ⟨m, List.Perm.refl _, hk⟩
  | cons x p ih =>
    cases m with
    | nil => cases hk
    | cons a m =>
      rw [List.map_cons] at hk
      injection hk with h1 h2
      obtain ⟨m', q1, q2⟩ := ih h2
      exact ⟨a :: m', q1.cons a, by rw [List.map_cons, q2, h1]⟩
  | swap x y l =>
    cases m with
    | nil => cases hk
    | cons a m =>
      cases m with
      | nil => cases hk
      | cons b m =>
        simp only [List.map_cons, List.cons.injEq] at hk
        exact ⟨b :: a :: m, List.Perm.swap _ _ _, by simp [hk]⟩
  | trans p q ih1 ih2 =>
    obtain ⟨m1, a1, a2⟩ := ih2 hk
    obtain ⟨m2, b1, b2⟩ := ih1 a2
    exact ⟨m2, b1.trans a1, b2⟩
/-- a row of pure data, its numbers -/
theorem row_key (I : Inv X pins σ H s) (hK : X.K = B.K) (rp : B.H ρ H h) {zs : List (Dv × V × Value)} (r : Row B.K ρ H zs) {z : Dv × V × Value} (m : z ∈ zs) (p : pureD 8 z.1 = true) : (∃ as, Reads s.heap z.2.2 (ofD z.1) as) ∧ keyV s.heap z.2.2 = encD z.1 := by
  obtain ⟨a, b⟩ := r.rel z m
  obtain ⟨q1, q2⟩ := pure_toD (h := h) 8 z.1 p
  obtain ⟨as, rd⟩ := Dp.reads I _ _ _ (by rw [hK]; exact toD_dp rp 8 z.1 z.2.1 _ q1 a) b
  exact ⟨⟨as, rd⟩, keyV_eq q2 rd⟩
/-- what sortS looks at -/
theorem sortS_ok {xs ys : List Dv} (e : sortS h xs = some ys) : (∀ x ∈ xs, pureD 8 x = true) ∧ (∃ k, k < 3 ∧ ∀ x ∈ xs, headK x = k) ∧ (∀ x ∈ xs, ∀ z ∈ xs, ∃ b, dlt false h x z = some b) ∧ ys = sortI (fun x z => (dlt false h x z).getD false) xs := by
  cases xs with
  | nil =>
    simp only [sortS, Option.some.injEq] at e
    exact ⟨(fun _ m => nomatch m), ⟨0, by decide, (fun _ m => nomatch m)⟩, (fun _ m => nomatch m), e.symm⟩
  | cons y r =>
    simp only [sortS] at e
    split at e
    · rename_i c
      simp only [Bool.and_eq_true, decide_eq_true_eq, List.all_eq_true, beq_iff_eq, Option.isSome_iff_exists] at c
      obtain ⟨⟨c1, c2⟩, c3⟩ := c
      cases e
      exact ⟨fun x m => (c2 x m).2, ⟨headK y, c1, fun x m => (c2 x m).1⟩, c3, rfl⟩
    · cases e
/-- the sorted values stand for the sorted data -/
theorem sort_out (I : Inv X pins σ H s) (hK : X.K = B.K) (rp : B.H ρ H h) {zs : List (Dv × V × Value)} (r : Row B.K ρ H zs) {ys : List Dv} (e : sortS h (zs.map (·.1)) = some ys) {out : List Value} (hs : SrtO.Srtd (ltV s.heap) out) (hb : out.Perm (zs.map (·.2.2))) :
    ∃ ws, RpL B.K ρ H ys ws ∧ Vals ws out := by
  obtain ⟨h1, _, h3, rfl⟩ := sortS_ok e
  obtain ⟨zs', p1, p2⟩ := perm_lift (fun z : Dv × V × Value => z.2.2) hb
  have r' : Row B.K ρ H zs' := ⟨fun z m => r.rel z (p1.mem_iff.mp m)⟩
  obtain ⟨l1, l2⟩ := row_to r'
  rw [p2] at l2
  have pu : ∀ z ∈ zs', pureD 8 z.1 = true := fun z m => h1 z.1 (List.mem_map_of_mem (p1.mem_iff.mp m))
  have srt : (zs'.map (·.1)).Pairwise fun a b => ¬ encD b < encD a := by
    rw [List.pairwise_map]
    have q : zs'.Pairwise fun a b => ltV s.heap b.2.2 a.2.2 = false := by
      rw [← p2] at hs
      exact List.pairwise_map.mp hs
    refine List.Pairwise.imp_of_mem (fun {a b} ma mb c => ?_) q
    have c := of_decide_eq_false c
    rw [(row_key I hK rp r' ma (pu a ma)).2, (row_key I hK rp r' mb (pu b mb)).2] at c
    exact c
  have hlt : ∀ a b, a ∈ zs.map (·.1) → b ∈ zs.map (·.1) → (dlt false h a b).getD false = decide (encD a < encD b) := fun a b ma mb => by
    obtain ⟨k, hk⟩ := h3 a ma b mb
    rw [hk]
    exact dlt_dec (h1 a ma) (h1 b mb) hk
  obtain ⟨s1, s2⟩ := sortI_ok (lt := fun x z => (dlt false h x z).getD false) (f := encD) (P := fun a => a ∈ zs.map (·.1)) hlt (xs := zs.map (·.1)) fun _ m => m
  have pm : (zs'.map (·.1)).Perm (zs.map (·.1)) := p1.map _
  have one : sortI (fun x z => (dlt false h x z).getD false) (zs.map (·.1)) = zs'.map (·.1) :=
    sorted_one (fun a ma b mb q => encD_inj (h1 a (s1.mem_iff.mp ma)) (h1 b (s1.mem_iff.mp mb)) q) (s1.trans pm.symm) s2 srt
  rw [one]
  exact ⟨_, l1, l2⟩
theorem kats_of {g : Heap} : ∀ {us : List Value}, (∀ u ∈ us, ∃ a o xs n f, u = .ref a ∧ g.get? a = some o ∧ o.cls = .type "tuple" ∧ o.data = .seq xs n ∧ xs[0]? = some f) → ∃ fs, PySem.W.KatTups g us fs ∧ fs.length = us.length ∧ ∀ f ∈ fs, ∃ u a o xs n, u ∈ us ∧ u = .ref a ∧ g.get? a = some o ∧ o.data = .seq xs n ∧ xs[0]? = some f
  | [], _ => ⟨[], PySem.W.KatTups.nil, rfl, fun _ m => nomatch m⟩
  | u :: us, q => by
    obtain ⟨a, o, xs, n, f, e1, e2, e3, e4, e5⟩ := q u List.mem_cons_self
    obtain ⟨fs, k1, k2, k3⟩ := kats_of (us := us) fun v m => q v (List.mem_cons_of_mem _ m)
    subst e1
    refine ⟨f :: fs, PySem.W.KatTups.cons e2 e3 e4 e5 k1, by simp [k2], fun f' m => ?_⟩
    rcases List.mem_cons.mp m with rfl | m
    · exact ⟨_, a, o, xs, n, List.mem_cons_self, rfl, e2, e4, e5⟩
    · obtain ⟨v, b, o', xs', n', m1, m2⟩ := k3 f' m
      exact ⟨v, b, o', xs', n', List.mem_cons_of_mem _ m1, m2⟩
theorem data_sortable {A : Around} (I : Inv X pins σ H s) (hK : X.K = B.K) (rp : B.H ρ H h) {zs : List (Dv × V × Value)} (r : Row B.K ρ H zs) {ys : List Dv} (e : sortS h (zs.map (·.1)) = some ys) {h1 : Heap} {a : Addr} (kp : ∀ b o, s.heap.get? b = some o → b ≠ a ∧ h1.get? b = some o)
    (hu : A.units + 30 < cLine) (h2 : 2 ≤ (zs.map (·.2.2)).length) : SrtO.SortableO X.prog X.w A { s with heap := h1 } a (zs.map (·.2.2)) (ltV s.heap) := by
  obtain ⟨p1, ⟨k, hk, p2⟩, p3, _⟩ := sortS_ok e
  intro h' keep
  have kp' : Keeps s.heap h' := fun b o q => keep b o (kp b o q).1 (kp b o q).2
  have I' : Inv X pins σ H { s with heap := h' } := I.kept (t' := s.toks) kp'
  have key : ∀ z ∈ zs, (∃ as, Reads h' z.2.2 (ofD z.1) as) ∧ keyV s.heap z.2.2 = encD z.1 := fun z m => by
    have pz := p1 z.1 (List.mem_map_of_mem m)
    exact ⟨(row_key (s := { s with heap := h' }) I' hK rp r m pz).1, (row_key I hK rp r m pz).2⟩
  have ltk : ∀ z ∈ zs, ∀ y ∈ zs, ∃ c, dlt false h z.1 y.1 = some c ∧ c = ltV s.heap z.2.2 y.2.2 := fun z mz y my => by
    obtain ⟨c, hc⟩ := p3 z.1 (List.mem_map_of_mem mz) y.1 (List.mem_map_of_mem my)
    refine ⟨c, hc, ?_⟩
    unfold ltV
    rw [(key z mz).2, (key y my).2]
    exact dlt_dec (p1 _ (List.mem_map_of_mem mz)) (p1 _ (List.mem_map_of_mem my)) hc
  by_cases hk0 : k = 0
  · -- whole numbers
    subst hk0
    have allI : ∀ z ∈ zs, ∃ i t, z.1 = .int i ∧ z.2.2 = .int i t := fun z m => by
      have hz := p2 z.1 (List.mem_map_of_mem m)
      obtain ⟨q1, q2⟩ := r.rel z m
      obtain ⟨d, v, u⟩ := z
      simp only at hz q1 q2 ⊢
      match d, hz, q1 with
      | .int i, _, q1 =>
        simp only [Rp] at q1
        subst q1
        obtain ⟨t, rfl⟩ := q2
        exact ⟨i, t, rfl, rfl⟩
      | .tup [], hz, _ => simp [headK] at hz
      | .tup (.int _ :: _), hz, _ => simp [headK] at hz
      | .tup (.tup _ :: _), hz, _ => simp [headK] at hz
      | .tup (.non :: _), hz, _ => simp [headK] at hz
      | .tup (.bl _ :: _), hz, _ => simp [headK] at hz
      | .tup (.str _ :: _), hz, _ => simp [headK] at hz
      | .tup (.ref _ :: _), hz, _ => simp [headK] at hz
      | .tup (.exn _ _ :: _), hz, _ => simp [headK] at hz
      | .non, hz, _ => simp [headK] at hz
      | .bl _, hz, _ => simp [headK] at hz
      | .str _, hz, _ => simp [headK] at hz
      | .ref _, hz, _ => simp [headK] at hz
      | .exn _ _, hz, _ => simp [headK] at hz
    have hI := SrtO.ints_iv (vs := zs.map (·.2.2)) fun v m => by
      obtain ⟨z, mz, rfl⟩ := List.mem_map.mp m
      obtain ⟨i, t, _, q⟩ := allI z mz
      exact ⟨i, t, q⟩
    obtain ⟨κ, g1, g2⟩ := SrtO.ints_sortable (prog := X.prog) (w := X.w) (A := A) (s := { s with heap := h1 }) (a := a) hI h2 h' keep
    refine ⟨κ, g1, fun p q mp mq => ?_⟩
    have := g2 p q mp mq
    obtain ⟨z, mz, ez⟩ := List.mem_map.mp mp
    obtain ⟨y, my, ey⟩ := List.mem_map.mp mq
    have eq : SrtO.lt2 (ltV s.heap) p q = SrtO.lt2 SrtO.ltIv p q := by
      show ltV s.heap p.1 q.1 = SrtO.ltIv p.1 q.1
      obtain ⟨c, c1, c2⟩ := ltk z mz y my
      obtain ⟨i, t, i1, i2⟩ := allI z mz
      obtain ⟨j, t', j1, j2⟩ := allI y my
      rw [← ez, ← ey, ← c2, i2, j2]
      rw [i1, j1] at c1
      simp only [dlt, Bool.false_eq_true, if_false, Option.some.injEq] at c1
      rw [← c1]
      rfl
    rw [eq]
    exact this
  · -- tuples
    have tups : ∀ z ∈ zs, ∃ x xs, z.1 = .tup (x :: xs) ∧ ((k = 1 ∧ ∃ i, x = .int i) ∨ (k = 2 ∧ ∃ w, x = .tup w)) := fun z m => by
      have hz := p2 z.1 (List.mem_map_of_mem m)
      obtain ⟨d, v, u⟩ := z
      simp only at hz ⊢
      match d, hz with
      | .tup (.int i :: xs), hz => exact ⟨_, _, rfl, .inl ⟨by rw [← hz]; rfl, i, rfl⟩⟩
      | .tup (.tup i :: xs), hz => exact ⟨_, _, rfl, .inr ⟨by rw [← hz]; rfl, i, rfl⟩⟩
      | .int i, hz => exact absurd hz.symm hk0
      | .tup [], hz => simp [headK] at hz; omega
      | .tup (.non :: _), hz => simp [headK] at hz; omega
      | .tup (.bl _ :: _), hz => simp [headK] at hz; omega
      | .tup (.str _ :: _), hz => simp [headK] at hz; omega
      | .tup (.ref _ :: _), hz => simp [headK] at hz; omega
      | .tup (.exn _ _ :: _), hz => simp [headK] at hz; omega
      | .non, hz => simp [headK] at hz; omega
      | .bl _, hz => simp [headK] at hz; omega
      | .str _, hz => simp [headK] at hz; omega
      | .ref _, hz => simp [headK] at hz; omega
      | .exn _ _, hz => simp [headK] at hz; omega
    -- each as it stands
    have stand : ∀ z ∈ zs, ∃ x xs b o vs n as, z.1 = .tup (x :: xs) ∧ z.2.2 = .ref b ∧ h'.get? b = some o ∧ o.cls = .type "tuple" ∧ o.data = .seq vs n ∧ ReadsAll h' vs.toList (ofD x :: ofDs xs) as := fun z m => by
      obtain ⟨x, xs, e1, _⟩ := tups z m
      obtain ⟨⟨as, rd⟩, _⟩ := key z m
      rw [e1] at rd
      simp only [ofD, ofDs] at rd
      generalize z.2.2 = u at rd ⊢
      cases rd with
      | tuple q1 q2 q3 q4 => exact ⟨x, xs, _, _, _, _, as, e1, rfl, q1, q2, q3, q4⟩
    obtain ⟨fs, f1, f2, f3⟩ := kats_of (g := h') (us := zs.map (·.2.2)) fun u m => by
      obtain ⟨z, mz, rfl⟩ := List.mem_map.mp m
      obtain ⟨x, xs, b, o, vs, n, as, _, g1, g2, g3, g4, g5⟩ := stand z mz
      have hne : vs.toList ≠ [] := fun z => by rw [z] at g5; cases g5
      have h0 : 0 < vs.size := by
        rcases Nat.eq_zero_or_pos vs.size with q | q
        · exact absurd (by simpa using q) hne
        · exact q
      exact ⟨b, o, vs, n, vs[0], g1, g2, g3, g4, Array.getElem?_eq_getElem h0⟩
    have headv : ∀ f ∈ fs, ∃ x as, (∃ z ∈ zs, ∃ xs, z.1 = .tup (x :: xs)) ∧ Reads h' f (ofD x) as := fun f m => by
      obtain ⟨u, b, o, vs, n, m1, m2, m3, m4, m5⟩ := f3 f m
      obtain ⟨z, mz, rfl⟩ := List.mem_map.mp m1
      obtain ⟨x, xs, b', o', vs', n', as, e0, g1, g2, g3, g4, g5⟩ := stand z mz
      rw [g1] at m2; cases m2
      rw [g2] at m3; cases m3
      rw [g4] at m4; cases m4
      have : vs.toList[0]? = some f := by simpa using m5
      generalize hvl : vs.toList = vl at g5 this
      cases g5 with
      | cons r1 r2 =>
        simp at this
        subst this
        exact ⟨x, _, ⟨z, mz, xs, e0⟩, r1⟩
    have hlen : 0 < fs.length := by rw [f2]; omega
    have cmpB : ∀ bb : Bool, (bb = true → k = 1) → SrtO.Cmp X.prog X.w A { s with heap := h' } (tuples' bb) (fun p => p.1 ∈ zs.map (·.2.2)) (SrtO.lt2 (ltV s.heap)) := fun bb hbb p q mp mq => by
      obtain ⟨z, mz, ez⟩ := List.mem_map.mp mp
      obtain ⟨y, my, ey⟩ := List.mem_map.mp mq
      show wpAny (model X.prog X.w) A (keyLt' (tuples' bb) p.1 q.1) (fun r s' => s' = { s with heap := h' } ∧ r = ltV s.heap p.1 q.1) (fun _ _ => False) { s with heap := h' }
      obtain ⟨c, c1, c2⟩ := ltk z mz y my
      obtain ⟨x, xs, b, o, vs, n, as, e0, g1, g2, g3, g4, g5⟩ := stand z mz
      obtain ⟨x', xs', b', o', vs', n', as', e0', g1', g2', g3', g4', g5'⟩ := stand y my
      rw [← ez, ← ey, ← c2, g1, g1']
      have pz := p1 z.1 (List.mem_map_of_mem mz)
      have py := p1 y.1 (List.mem_map_of_mem my)
      rw [e0, e0'] at c1
      rcases dlt_eq c1 with ⟨_, _, w1, _⟩ | ⟨d, t, d1, d2, d3⟩
      · cases w1
      · rw [e0] at pz
        rw [e0'] at py
        obtain ⟨t1, t2⟩ := pure_toD (h := h) 8 _ pz
        obtain ⟨t3, t4⟩ := pure_toD (h := h) 8 _ py
        rw [d1] at t1; cases t1
        rw [d2] at t3; cases t3
        simp only [ofD, ofDs, ltD] at d3
        have dz := toD_depth 8 _ _ d1
        have dy := toD_depth 8 _ _ d2
        simp only [ofD, ofDs, PyData.canLay0] at dz dy
        have dd := dz.2
        simp only [PyData.depth] at dd
        refine PySem.W.kat_lt (s := { s with heap := h' }) g2 g4 g2' g4' ?_
        have := kat_of (prog := X.prog) (w := X.w) (A := A) (s := { s with heap := h' }) (b := bb) (Q := fun r s' => s' = { s with heap := h' } ∧ r = c) (n := 7) _ _ vs.toList vs'.toList as as' 0 c d3 g5 g5' dz.1 dy.1 (by omega) (fun hb _ u u' h1 h2 => ?_) ⟨rfl, rfl⟩
        · simpa using this
        · simp at h1 h2
          subst h1 h2
          have k1 := hbb hb
          obtain ⟨a1, a2, a3, a4⟩ := tups z mz
          obtain ⟨b1, b2, b3, b4⟩ := tups y my
          rw [e0] at a3; cases a3
          rw [e0'] at b3; cases b3
          rcases a4 with ⟨_, i, rfl⟩ | ⟨k2, _⟩
          · rcases b4 with ⟨_, j, rfl⟩ | ⟨k2, _⟩
            · exact ⟨i, j, rfl, rfl⟩
            · omega
          · omega
    by_cases hk1 : k = 1
    · refine ⟨tuples' true, fun Q E hq => ?_, cmpB true fun _ => hk1⟩
      refine PySem.W.kat_kind (s := { s with heap := h' }) (T := .type "int") f1 hlen (fun f m => ?_) (by rfl) ?_
      · obtain ⟨x, as, ⟨z, mz, xs, e0⟩, rd⟩ := headv f m
        obtain ⟨x', xs', e1, e2⟩ := tups z mz
        rw [e0] at e1; cases e1
        rcases e2 with ⟨_, i, rfl⟩ | ⟨k2, _⟩
        · simp only [ofD] at rd
          cases rd
          exact PySem.W.Looks.now
        · omega
      · have q : (Value.type "int" != Value.type "tuple") = true := by first | decide +kernel | rfl | decide
        rw [q]
        exact hq
    · refine ⟨tuples' false, fun Q E hq => ?_, cmpB false fun z => by cases z⟩
      refine PySem.W.kat_kind (s := { s with heap := h' }) (T := .type "tuple") f1 hlen (fun f m => ?_) (by rfl) ?_
      · obtain ⟨x, as, ⟨z, mz, xs, e0⟩, rd⟩ := headv f m
        obtain ⟨x', xs', e1, e2⟩ := tups z mz
        rw [e0] at e1; cases e1
        rcases e2 with ⟨k2, _⟩ | ⟨_, w, rfl⟩
        · omega
        · simp only [ofD] at rd
          cases rd with
          | tuple q1 q2 _ _ => exact fun A Q E s k q => wpAny_typeOf_ref (k _ _ q1) (by rw [q2]; exact q)
      · have q : (Value.type "tuple" != Value.type "tuple") = false := by first | decide +kernel | rfl | decide
        rw [q]
        exact hq
end
end FF
end

section
set_option Elab.async false
set_option linter.all false
set_option maxRecDepth 100000
set_option maxHeartbeats 4000000
/-! FE13: sorted, min, max, the methods. -/
namespace FF
open PySem PySem.Spec PySem.SeqAt
open PyProof.Rows hiding St
open L2 hiding start It

section
variable {X : Cx} {B : Bd}
/-- behind a list of the items: list.sort, the list handed on -/
theorem sort_tail {pins : List (Addr × Obj)} {σ : L2.St} {H : Hp} {s : Shared} {ρ : List Addr} {h : Hh} {Q : VK} {E : Value → Shared → Prop} {A : Around} (I : Inv X pins σ H s) (hK : X.K = B.K) (rp : B.H ρ H h) {xs ys : List Dv} {ws : List V} {us : List Value} (l : RpL B.K ρ H xs ws) (r : Vals ws us)
    (e : sortS h xs = some ys) (hm : decide (ys.length ≤ most) = true) (hA : A.units + 40 < cLine) (fin : Fin B W0 [] ρ H (Rp B.K) (.ok (.ref h.length) (h ++ [.lst ys])) Q) :
    wpAny (model X.prog X.w) A (newList us >>= fun l => holding [l] (call (.builtin "list.sort") [l] []) >>= fun _ => ret l) (fun f s' => ∃ v, f = .done (.ret v) ∧ EP X pins σ Q v s') E s := by
  obtain ⟨zs, z1, z2, z3, z4⟩ := row_of l r
  subst z2 z4
  obtain ⟨_, _, _, e4⟩ := sortS_ok e
  have hz : (zs.map (·.2.2)).length ≤ sizeLine := by
    have hl : ys.length = (zs.map (·.1)).length := by
      obtain ⟨s1, _⟩ := sortS_ok e
      rw [e4]
      have go : ∀ (xs acc : List Dv) (lt : Dv → Dv → Bool), (xs.foldl (fun acc x => insS lt x acc) acc).length = acc.length + xs.length := by
        intro xs
        induction xs with
        | nil => intro acc lt; simp
        | cons x xs ih =>
          intro acc lt
          rw [List.foldl_cons, ih, (insS_perm lt x acc).length_eq, List.length_cons, List.length_cons]
          omega
      have := go (zs.map (·.1)) [] (fun x z => (dlt false h x z).getD false)
      rw [List.length_nil, Nat.zero_add] at this
      exact this
    rw [List.length_map] at hl ⊢
    rw [← hl]
    exact most_le (of_decide_eq_true hm)
  refine wpAny_bind (wpAny_newList ?_ hz)
  have hoL : (s.heap.push (seqObj "list" (zs.map (·.2.2)).toArray 0)).get? s.heap.objs.size = some (seqObj "list" (zs.map (·.2.2)).toArray 0) := Heap.get?_push_size _ rfl
  have keep : ∀ b o, s.heap.get? b = some o → b ≠ s.heap.objs.size ∧ (s.heap.push (seqObj "list" (zs.map (·.2.2)).toArray 0)).get? b = some o := fun b o q => ⟨Nat.ne_of_lt (Heap.lt_size q), Heap.get?_push_of_some _ q⟩
  show wpAny _ _ _ _ _ { s with heap := s.heap.push (seqObj "list" (zs.map (·.2.2)).toArray 0) }
  refine wpAny_bind (wpAny_holding (wpAny_call_entry PyProof.Rows.slot_list_sort ⟨_, hoL, rfl⟩ PyProof.Rows.entry_list_sort
    (SrtO.list_sort_ord (s := { s with heap := s.heap.push (seqObj "list" (zs.map (·.2.2)).toArray 0) }) (swo_ltV s.heap) hoL hz (fun h2 => data_sortable I hK rp z1 e keep (by rw [in1_units]; omega) h2) fun out h1 h2 => ⟨_, rfl, ?_⟩)
    (PyProof.Rows.args_list_sort _)))
  obtain ⟨ws', l', r'⟩ := sort_out I hK rp z1 e h1 h2.perm
  refine wpAny_pure ⟨_, rfl, ?_⟩
  obtain ⟨ep, he⟩ := PyProof.Rows.sortedHeap_at (h := s.heap.push (seqObj "list" (zs.map (·.2.2)).toArray 0)) (vs := zs.map (·.2.2)) (out := out.toArray) hoL
  have hlen : ws'.length ≤ sizeLine := by
    rw [← l'.len]
    exact most_le (of_decide_eq_true hm)
  refine ⟨.ref s.heap.objs.size, upd H s.heap.objs.size (.lst ws'), I.laid (t' := s.toks) (fun b o q => ?_) (Nat.le_refl _) ⟨hlen, out, ep, r', he⟩, rfl, fin.newL rp l' (I.hok.fresh (Nat.le_refl _))⟩
  rw [PyProof.Rows.sortedHeap_old (keep b o q).1 (Heap.lt_size (keep b o q).2)]
  exact (keep b o q).2
theorem cr_sorted (hK : X.K = B.K) (hP : X.prog = B.P) (hw : X.w = B.w) (hc : X.calm = true) (hu : X.A.units + 66 < cLine) : CallR X (.builtin "sorted") (rBi B .sorted) := by
  intro pins s σ H vs us Q I r hh
  obtain ⟨ρ, h, ds, rp, l, fin⟩ := hh
  match ds, l, fin with
  | [d], l, fin =>
    obtain ⟨v, rfl, rd⟩ := rpl1 l
    simp only [bis] at fin
    split at fin
    · rename_i xs en
      split at fin
      · rename_i ys es
        split at fin
        · rename_i hm
          obtain ⟨u, rfl, rx⟩ := vals1 r
          refine Calls.call_function_entry PyProof.Rows.kind_sorted PyProof.Rows.plain_sorted PyProof.Rows.entry_sorted (PyProof.Rows.args_sorted1 _) ?_
          unfold Builtin.«sorted»
          refine wpAny_bind (m := checkCount "sorted" 1 1 _) (wpAny_pure ?_)
          have tail : ∀ {s1 : Shared} {us : List Value} {ws : List V}, Inv X pins σ H s1 → RpL B.K ρ H xs ws → Vals ws us → wpAny (model X.prog X.w) X.A.in1 (newList us >>= fun l => holding [l] (call (.builtin "list.sort") [l] []) >>= fun _ => ret l) (fun f s' => ∃ v, f = .done (.ret v) ∧ EP X pins σ Q v s') X.xe s1 :=
            fun {s1 us ws} I1 l1 r1 => sort_tail I1 hK rp l1 r1 es hm (by rw [in1_units]; omega) fin
          cases d with
          | tup zs =>
            -- a tuple's items
            simp only [Rp] at rd
            obtain ⟨p, ws, rfl, t, lw⟩ := rd
            exact absurd en (by simp [bis.keysOf])
          | ref n =>
            simp only [Rp] at rd
            obtain ⟨p, rfl, ep⟩ := rd
            cases rx
            simp only [bis.keysOf] at en
            split at en
            · rename_i zs q
              cases en
              obtain ⟨ws, hp, lw⟩ := rp.ob _ _ p q ep
              obtain ⟨its, rv, hl, hz⟩ := I.list (.inl (.inl hp))
              refine wpAny_bind (collect_list hl.isList ?_ (by rw [← rv.length]; exact hz))
              refine tail (I.kept (t' := s.toks) fun b o q => ?_) lw (by simpa using rv)
              rw [Heap.get?_update_ne _ _ _ _ (Nat.ne_of_lt (Heap.lt_size q))]
              exact Heap.get?_push_of_some _ q
            · rename_i zs q
              cases en
              obtain ⟨o, ws, hp, lw⟩ := rp.ob _ _ p q ep
              obtain ⟨its, rv, hl, hz⟩ := I.list (.inl (.inr ⟨o, hp⟩))
              refine wpAny_bind (collect_list hl.isList ?_ (by rw [← rv.length]; exact hz))
              refine tail (I.kept (t' := s.toks) fun b o q => ?_) lw (by simpa using rv)
              rw [Heap.get?_update_ne _ _ _ _ (Nat.ne_of_lt (Heap.lt_size q))]
              exact Heap.get?_push_of_some _ q
            · rename_i kvs q
              cases en
              obtain ⟨kv, hp, lw, nd⟩ := rp.ob _ _ p q ep
              obtain ⟨z, lo, vs, rel, dd⟩ := dk_rd I.hok (.inl hp)
              obtain ⟨ed, hat⟩ := dd.dictAt
              have hlv : vs.length = kv.length := by
                have := congrArg List.length rel.keys
                rw [List.length_map, List.length_map] at this
                exact this.symm
              refine wpAny_bind (PySem.W.kdu_collect (A := X.A.in1) (PySem.W.kdl_dict (knd := mixKind X.prog X.w) (kvs := vs) (ep := ed) lo) (I.ok.hd hc) hat (by rw [hlv]; exact z) fun h' tk acc hk hacc => ?_)
              refine tail (I.kept hk) (rpk_keys lw) ?_
              have e1 : kv.map (fun p => kV p.1) = vs.map (fun p => kV p.1) := by
                have := congrArg (List.map kV) rel.keys
                rw [List.map_map, List.map_map] at this
                exact this
              rw [e1]
              exact keys_at (by rw [Array.length_toList, hacc.1]) fun j v e => by
                obtain ⟨k, x, e1, e2⟩ := hacc.2 j v (by rw [← Array.getElem?_toList]; exact e)
                exact ⟨k, x, e1, e2⟩
            · rename_i kvs q
              cases en
              obtain ⟨es', hp, lw, nd⟩ := rp.ob _ _ p q ep
              obtain ⟨⟨lo, o, ed, ho, hex, hd⟩, _⟩ := I.hok p _ hp
              have hlen : (es'.map (entryOfKey (nestedKind B.P B.w))).toArray.size = es'.length := by simp
              have hle : es'.length ≤ sizeLine := by
                have k1 := congrArg List.length (RpN.keys lw)
                rw [List.length_map, List.length_map] at k1
                obtain ⟨_, _, _, e4⟩ := sortS_ok es
                have : ys.length = (kvs.map fun p => dvN p.1).length := by
                  rw [e4]
                  have go : ∀ (xs acc : List Dv) (lt : Dv → Dv → Bool), (xs.foldl (fun acc x => insS lt x acc) acc).length = acc.length + xs.length := by
                    intro xs
                    induction xs with
                    | nil => intro acc lt; simp
                    | cons x xs ih =>
                      intro acc lt
                      rw [List.foldl_cons, ih, (insS_perm lt x acc).length_eq, List.length_cons, List.length_cons]
                      omega
                  have := go (kvs.map fun p => dvN p.1) [] (fun x z => (dlt false h x z).getD false)
                  rw [List.length_nil, Nat.zero_add] at this
                  exact this
                rw [List.length_map] at this
                rw [← k1, ← this]
                exact most_le (of_decide_eq_true hm)
              refine wpAny_bind (PySem.W.kdu_collect (A := X.A.in1) (kdl_raw lo hex hd) (I.ok.hd hc) ho (by rw [hlen]; exact hle) fun h' tk acc hk hacc => ?_)
              refine tail (ws := es'.map fun x => V.ref x.2.1) (I.kept hk) ?_ ?_
              · have go : ∀ {kvs : List (NestedKey × Dv)} {xs : List (NestedKey × Addr × Value)}, RpN B.K ρ H kvs xs → RpL B.K ρ H (kvs.map fun p => dvN p.1) (xs.map fun x => V.ref x.2.1) := by
                  intro kvs
                  induction kvs with
                  | nil => intro xs r; rw [show xs = [] from r]; simp only [List.map_nil, RpL]
                  | cons k kvs ih =>
                    intro xs ⟨b, v, u, q, e, _, _, y, _, l⟩
                    subst e
                    simp only [List.map_cons, RpL]
                    exact ⟨_, _, rfl, y, ih l⟩
                exact go lw
              · refine vals_of_at (by have := hacc.1; rw [hlen] at this; rw [List.length_map, Array.length_toList]; exact this.symm) fun j x u e1 e2 => ?_
                obtain ⟨en, e3, e4⟩ := hacc.2 j u (by rw [← Array.getElem?_toList]; exact e2)
                rw [List.getElem?_map] at e1
                cases e5 : es'[j]? with
                | none => rw [e5] at e1; cases e1
                | some y =>
                  rw [e5] at e1
                  cases e1
                  rw [← Array.getElem?_toList] at e3
                  simp only [List.getElem?_map, e5] at e3
                  cases e3
                  rw [e4]
                  rfl
            · cases en
          | _ => simp [bis.keysOf] at en
        · exact fin.elim
      · exact fin.elim
    · exact fin.elim
  | [], _, fin => exact fin.elim
  | _ :: _ :: _, _, fin => exact fin.elim
end
end FF
end

section
set_option Elab.async false
set_option linter.all false
set_option maxRecDepth 100000
set_option maxHeartbeats 4000000
/-! FE14: min, max, the methods of lists and sets. -/
namespace FF
open PySem PySem.Spec PySem.SeqAt
open PyProof.Rows hiding St
open L2 hiding start It

theorem minS_arg {h : Hh} {xs : List Dv} {bt : Nat → Nat → Bool} (hbt : ∀ i j x y, xs[i]? = some x → xs[j]? = some y → bt i j = (dlt false h x y).getD false) : ∀ (r : List Dv) (j : Nat) (b m : Dv), minS h b r = some m → xs.drop (j + 1) = r → xs[argBest bt j]? = some b →
    (∀ i, j ≤ i → i + 1 < xs.length → ∃ x y k, xs[i + 1]? = some x ∧ xs[argBest bt i]? = some y ∧ dlt false h x y = some k ∧ bt (i + 1) (argBest bt i) = k) ∧ (j + 1 ≤ xs.length → xs[argBest bt (xs.length - 1)]? = some m)
  | [], j, b, m, e, hd, hb => by
    simp only [minS, Option.some.injEq] at e
    subst e
    have hl : xs.length ≤ j + 1 := by
      have := congrArg List.length hd
      simp at this
      omega
    refine ⟨fun i h1 h2 => by omega, fun h1 => ?_⟩
    have : xs.length - 1 = j := by omega
    rw [this]
    exact hb
  | x :: r, j, b, m, e, hd, hb => by
    have hx : xs[j + 1]? = some x := by
      have := congrArg (fun l => l[0]?) hd
      simpa using this
    have hd2 : xs.drop (j + 1 + 1) = r := by
      have := congrArg (List.drop 1) hd
      rw [List.drop_drop] at this
      simpa using this
    simp only [minS] at e
    have step : ∀ k, dlt false h x b = some k → bt (j + 1) (argBest bt j) = k := fun k hk => by
      rw [hbt _ _ _ _ hx hb, hk]
      rfl
    have join : ∀ k, dlt false h x b = some k → ((∀ i, j + 1 ≤ i → i + 1 < xs.length → ∃ x y k, xs[i + 1]? = some x ∧ xs[argBest bt i]? = some y ∧ dlt false h x y = some k ∧ bt (i + 1) (argBest bt i) = k) ∧ (j + 1 + 1 ≤ xs.length → xs[argBest bt (xs.length - 1)]? = some m)) →
        (∀ i, j ≤ i → i + 1 < xs.length → ∃ x y k, xs[i + 1]? = some x ∧ xs[argBest bt i]? = some y ∧ dlt false h x y = some k ∧ bt (i + 1) (argBest bt i) = k) ∧ (j + 1 ≤ xs.length → xs[argBest bt (xs.length - 1)]? = some m) := fun k hk ⟨q1, q2⟩ => by
      refine ⟨fun i h1 h2 => ?_, fun _ => q2 ?_⟩
      · rcases Nat.eq_or_lt_of_le h1 with z | z
        · subst z
          exact ⟨x, b, k, hx, hb, hk, step k hk⟩
        · exact q1 i z h2
      · have := (List.getElem?_eq_some_iff.mp hx).1
        omega
    split at e
    · rename_i hk
      refine join true hk (minS_arg hbt r (j + 1) x m e hd2 ?_)
      simp only [argBest, step true hk, if_true]
      exact hx
    · rename_i hk
      refine join false hk (minS_arg hbt r (j + 1) b m e hd2 ?_)
      simp only [argBest, step false hk, Bool.false_eq_true, if_false]
      exact hb
    · cases e
section
variable {X : Cx} {B : Bd}
theorem cr_minD (hK : X.K = B.K) (hc : X.calm = true) (hu : X.A.units + 66 < cLine) : CallR X (.builtin "min") (rBi B .min) := by
  intro pins s σ H vs us Q I r hh
  obtain ⟨ρ, h, ds, rp, l, fin⟩ := hh
  match ds, l, fin with
  | [d], l, fin =>
    obtain ⟨v, rfl, rd⟩ := rpl1 l
    simp only [bis] at fin
    split at fin
    · rename_i y ys en
      cases d with
      | ref n =>
        simp only at fin
        obtain ⟨m, em, fin⟩ := fin.of
        obtain ⟨p, ws, rfl, lw, hs⟩ := items_seq rp en rd
        rcases hs with ⟨hs, _⟩ | ⟨_, hs⟩
        · rw [← hK] at hs
          obtain ⟨its, rv, hl, hz⟩ := I.list hs
          obtain ⟨u, rfl, rx⟩ := vals1 r
          cases rx
          have len1 : (y :: ys).length = its.length := lw.len.trans rv.length
          let bt : Nat → Nat → Bool := fun i j => (match (y :: ys)[i]?, (y :: ys)[j]? with
            | some a, some b => dlt false h a b
            | _, _ => none).getD false
          have hbt : ∀ i j a b, (y :: ys)[i]? = some a → (y :: ys)[j]? = some b → bt i j = (dlt false h a b).getD false := fun i j a b h1 h2 => by
            show (match (y :: ys)[i]?, (y :: ys)[j]? with
              | some a, some b => dlt false h a b
              | _, _ => none).getD false = _
            rw [h1, h2]
          obtain ⟨q1, q2⟩ := minS_arg hbt ys 0 y m em rfl rfl
          have val : ∀ {j : Nat} {a : Dv} {u : Value}, (y :: ys)[j]? = some a → its[j]? = some u → ∃ w, Rp B.K ρ H a w ∧ L2.RelV w u := fun {j a u} h1 h2 => by
            obtain ⟨w, e1, e2⟩ := lw.get h1
            obtain ⟨u', e3, e4⟩ := rv.get e1
            rw [h2] at e3
            cases e3
            exact ⟨w, e2, e4⟩
          refine call_minD (I.ok.hd hc) hl.isList (by simp only [List.size_toArray]; rw [← len1]; simp) bt (fun s' kp j vi vj hvi hvj => ?_) fun u h' tk hv kp => ?_
          · have hvi : its[j + 1]? = some vi := by simpa using hvi
            have hvj : its[argBest bt j]? = some vj := by simpa using hvj
            have hlt : j + 1 < (y :: ys).length := by
              rw [len1]
              exact (List.getElem?_eq_some_iff.mp hvi).1
            obtain ⟨a, b, k, e1, e2, e3, e4⟩ := q1 j (Nat.zero_le _) hlt
            rw [e4]
            obtain ⟨wa, a1, a2⟩ := val e1 hvi
            obtain ⟨wb, b1, b2⟩ := val e2 hvj
            rcases dlt_eq e3 with ⟨i, i', rfl, rfl, rfl⟩ | ⟨d, t, h1, h2, h3⟩
            · simp only [Rp] at a1 b1
              subst a1 b1
              obtain ⟨t, rfl⟩ := a2
              obtain ⟨t', rfl⟩ := b2
              exact Ob.RcOp.lt_int i i' t t'
            · have I2 : Inv X pins σ H { s with heap := s'.heap } := I.kept (t' := s.toks) kp
              obtain ⟨as, r1⟩ := Dp.reads I2 d wa vi (by rw [hK]; exact toD_dp rp 8 a wa d h1 a1) a2
              obtain ⟨bs, r2⟩ := Dp.reads I2 t wb vj (by rw [hK]; exact toD_dp rp 8 b wb t h2 b1) b2
              have d1 := toD_depth 8 a d h1
              have d2 := toD_depth 8 b t h2
              exact rc_lt (le := false) 8 d t X.A.in1 vi vj as bs k h3 r1 r2 d1.1 d2.1 (by rw [in1_units]; omega)
          · have hv : its[argBest bt (its.length - 1)]? = some u := by simpa using hv
            have hm := q2 (by simp)
            rw [len1] at hm
            obtain ⟨w, e1, e2⟩ := val hm hv
            exact ⟨w, H, I.kept kp, e2, fin.now rp e1⟩
        · cases hs
      | _ => exact fin.elim
    · exact fin.elim
  | [], _, fin => exact fin.elim
  | _ :: _ :: _, _, fin => exact fin.elim
theorem ints_rel {K : PySem.W.Frag} {ρ : List Addr} {H : Hp} : ∀ {xs : List Dv} {is : List Int} {vs : List V}, bis.intsOf xs = some is → RpL K ρ H xs vs → vs = is.map V.int
  | [], bs, vs, e, l => by
    simp [bis.intsOf] at e
    subst e
    simp only [RpL] at l
    rw [l]; rfl
  | x :: xs, bs, vs, e, l => by
    obtain ⟨b, cs, rfl, h1, h2⟩ := mapM_cons_some e
    simp only [RpL] at l
    obtain ⟨v, r, rfl, x1, l⟩ := l
    rw [ints_rel h2 l]
    cases x <;> simp at h1
    subst h1
    simp only [Rp] at x1
    rw [x1]; rfl
theorem foldl_max : ∀ (is : List Int) (i : Int), is.foldl max i ∈ i :: is ∧ ∀ a ∈ i :: is, a ≤ is.foldl max i
  | [], i => ⟨List.mem_cons_self, fun a m => by rw [List.mem_singleton.mp m]; exact Int.le_refl _⟩
  | j :: is, i => by
    obtain ⟨h1, h2⟩ := foldl_max is (max i j)
    rw [List.foldl_cons]
    refine ⟨?_, fun a m => ?_⟩
    · rcases List.mem_cons.mp h1 with e | h1
      · rw [e]
        rcases Int.le_total i j with q | q
        · rw [Int.max_eq_right q]; exact List.mem_cons_of_mem _ List.mem_cons_self
        · rw [Int.max_eq_left q]; exact List.mem_cons_self
      · exact List.mem_cons_of_mem _ (List.mem_cons_of_mem _ h1)
    · have hm := h2 (max i j) List.mem_cons_self
      rcases List.mem_cons.mp m with rfl | m
      · exact Int.le_trans (Int.le_max_left _ _) hm
      · rcases List.mem_cons.mp m with rfl | m
        · exact Int.le_trans (Int.le_max_right _ _) hm
        · exact h2 a (List.mem_cons_of_mem _ m)
theorem cr_maxD (hK : X.K = B.K) (hc : X.calm = true) : CallR X (.builtin "max") (rBi B .max) := by
  intro pins s σ H vs us Q I r hh
  obtain ⟨ρ, h, ds, rp, l, fin⟩ := hh
  match ds, l, fin with
  | [d], l, fin =>
    obtain ⟨v, rfl, rd⟩ := rpl1 l
    simp only [bis] at fin
    split at fin
    · rename_i i is en
      obtain ⟨xs, ex, ei⟩ := Option.bind_eq_some_iff.mp en
      obtain ⟨p, ws, rfl, lw, hs⟩ := items_seq rp ex rd
      have ew := ints_rel ei lw
      subst ew
      obtain ⟨g1, g2⟩ := foldl_max is i
      rcases hs with ⟨hs, _⟩ | ⟨hs, _⟩
      · rw [← hK] at hs
        refine run_call (cr_max hc) I r ⟨p, i :: is, rfl, hs, by simp, fun m h1 h2 => ?_⟩
        have : m = is.foldl max i := Int.le_antisymm (g2 m h1) (h2 _ g1)
        rw [this]
        exact fin.now rp (by simp only [Rp])
      · rw [← hK] at hs
        obtain ⟨its, rv, ht, hz⟩ := I.tuple hs
        obtain ⟨u, rfl, rx⟩ := vals1 r
        cases rx
        have hi := rv.ints
        have pi : p < s.heap.objs.size := by
          obtain ⟨_, q, _⟩ := ht
          exact Heap.lt_size q
        have hn : ∀ {j : Nat} {u : Value}, its.toArray[j]? = some u → ∃ t, u = .int ((i :: is).getD j 0) t := fun {j u} e => by
          have e : its[j]? = some u := by simpa using e
          have hl := rv.length
          have hj := (List.getElem?_eq_some_iff.mp e).1
          rw [← hl, List.length_map] at hj
          obtain ⟨u', e1, t, e2⟩ := rv.get (i := j) (x := V.int (i :: is)[j]) (by rw [List.getElem?_map, List.getElem?_eq_getElem hj]; rfl)
          rw [e] at e1
          cases e1
          exact ⟨t, by rw [e2, List.getD_eq_getElem?_getD, List.getElem?_eq_getElem hj]; rfl⟩
        refine call_max_walk (wpAny_pyIter_tuple ht ?_)
        refine ⟨_, _, _, _, _, _, _, rfl, Walks.tuple (A := X.A.in1) (I.ok.hd hc) _ p (Nat.ne_of_lt pi) its.toArray, ⟨⟨_, Heap.get?_push_size _ rfl, rfl, rfl⟩, ht.push _⟩, fun b hb => ?_, ?_, CmpOf.ints_gt (fun j => (i :: is).getD j 0) fun j u e => hn e, fun u h' tk hv hk => ?_⟩
        · show b < (s.heap.push _).objs.size
          rw [Heap.size_push]
          rcases List.mem_cons.mp hb with e | hb
          · rw [e]; exact Nat.lt_succ_self _
          · rw [List.mem_singleton.mp hb]; exact Nat.lt_succ_of_lt pi
        · rw [List.size_toArray, ← rv.length]; simp
        · obtain ⟨t, e⟩ := hn hv
          obtain ⟨m1, m2⟩ := argBest_gt (fun j => (i :: is).getD j 0) (its.toArray.size - 1)
          have hsz : its.toArray.size = (i :: is).length := by rw [List.size_toArray, ← rv.length, List.length_map]
          have mem : (i :: is).getD (argBest (fun a b => decide ((i :: is).getD a 0 > (i :: is).getD b 0)) (its.toArray.size - 1)) 0 ∈ i :: is := by
            have hlt : argBest (fun a b => decide ((i :: is).getD a 0 > (i :: is).getD b 0)) (its.toArray.size - 1) < (i :: is).length := by
              rw [hsz] at m1 ⊢
              have : 0 < (i :: is).length := by simp
              omega
            rw [List.getD_eq_getElem?_getD, List.getElem?_eq_getElem hlt]
            exact List.getElem_mem hlt
          have big : is.foldl max i ≤ (i :: is).getD (argBest (fun a b => decide ((i :: is).getD a 0 > (i :: is).getD b 0)) (its.toArray.size - 1)) 0 := by
            obtain ⟨j, hj, ej⟩ := List.getElem_of_mem g1
            have := m2 j (by rw [hsz]; omega)
            rw [List.getD_eq_getElem?_getD, List.getElem?_eq_getElem hj] at this
            rw [← ej]
            exact this
          have eq := Int.le_antisymm (g2 _ mem) big
          rw [eq] at e
          refine ⟨.int (is.foldl max i), H, I.kept fun b o q => hk b o (fun m => ?_) (Heap.get?_push_of_some _ q), ⟨t, e⟩, fin.now rp (by simp only [Rp])⟩
          rw [List.mem_singleton.mp m] at q
          exact Nat.lt_irrefl _ (Heap.lt_size q)
    · exact fin.elim
  | [], _, fin => exact fin.elim
  | _ :: _ :: _, _, fin => exact fin.elim

/-! ### methods -/
def rMt (B : Bd) (m : Mt) : V → List V → Hp → VK → Prop := fun x vs H Q => ∃ ρ h o ds, B.H ρ H h ∧ Rp B.K ρ H o x ∧ RpL B.K ρ H ds vs ∧ Fin B W0 [] ρ H (Rp B.K) (mts m o ds h) Q
theorem Fin.put {W : WX} {σV : L2.St} {ρ : List Addr} {H : Hp} {h : Hh} {n : Nat} {ob : Ob} {p : Addr} {o : HO} {d : Dv} {v : V} {Q : VK} (fin : Fin B W σV ρ H (Rp B.K) (.ok d (h.set n ob)) Q) (rp : B.H ρ H h) (ep : ρ[n]? = some p) (q : RpOb B.K B.w B.P ρ (upd H p o) p ob) (x : Rp B.K ρ H d v) : Q v (upd H p o) :=
  fin _ _ _ (Ltr.put (List.mem_of_getElem? ep)) (rp.put ep q) (Rp.ltr rp (Ltr.put (List.mem_of_getElem? ep)) x)
theorem mt_appendD : MtR X "list.append" (rMt B .append) := by
  intro pins s σ H x vs v us Q I rx r hh
  obtain ⟨ρ, h, o, ds, rp, ro, l, fin⟩ := hh
  match o, ds, l, fin with
  | .ref n, [d], l, fin =>
    obtain ⟨w, rfl, rd⟩ := rpl1 l
    simp only [Rp] at ro
    obtain ⟨p, rfl, ep⟩ := ro
    simp only [mts] at fin
    split at fin
    · rename_i xs q
      split at fin
      · rename_i hm
        obtain ⟨ws, hp, lw⟩ := rp.ob _ _ p q ep
        refine mt_append pins s σ H _ _ v us Q I rx r ⟨p, ws, w, rfl, rfl, hp, by rw [← lw.len]; exact Nat.lt_trans (of_decide_eq_true hm) most_line, ?_⟩
        refine fin.put rp ep ⟨_, upd_same, RpL.ltr rp (Ltr.put (List.mem_of_getElem? ep)) (lw.append (RpL.one rd))⟩ (by simp only [Rp])
      · exact fin.elim
    · exact fin.elim
  | .ref n, [], _, fin => exact fin.elim
  | .ref n, _ :: _ :: _, _, fin => exact fin.elim
  | .non, _, _, fin => exact fin.elim
  | .bl _, _, _, fin => exact fin.elim
  | .int _, _, _, fin => exact fin.elim
  | .str _, _, _, fin => exact fin.elim
  | .tup _, _, _, fin => exact fin.elim
  | .exn _ _, _, _, fin => exact fin.elim
theorem no_ext {W : WX} {σV : L2.St} {ρ : List Addr} {H : Hp} {h : Hh} {n : Nat} {d : Dv} {Q : VK} (hd : ∀ m, d ≠ .ref m) (fin : Fin B W σV ρ H (Rp B.K) (mts .extend (.ref n) [d] h) Q) : False := by
  simp only [mts] at fin
  cases hq : h[n]? with
  | none => rw [hq] at fin; exact fin
  | some o =>
    rw [hq] at fin
    cases d <;> first | exact hd _ rfl | (cases o <;> exact fin)
theorem mt_extendD : MtR X "list.extend" (rMt B .extend) := by
  intro pins s σ H x vs v us Q I rx r hh
  obtain ⟨ρ, h, o, ds, rp, ro, l, fin⟩ := hh
  match o, ds, l, fin with
  | .ref n, [.ref m], l, fin =>
    obtain ⟨w, rfl, rd⟩ := rpl1 l
    simp only [Rp] at ro rd
    obtain ⟨p, rfl, ep⟩ := ro
    obtain ⟨p', rfl, ep'⟩ := rd
    simp only [mts] at fin
    split at fin
    · rename_i xs b q hb
      cases hb
      split at fin
      · rename_i ys q2
        split at fin
        · rename_i hm
          simp only [Bool.and_eq_true, decide_eq_true_eq] at hm
          obtain ⟨ws, hp, lw⟩ := rp.ob _ _ p q ep
          obtain ⟨ws', hp', lw'⟩ := rp.ob _ _ p' q2 ep'
          refine mt_extend pins s σ H _ _ v us Q I rx r ⟨p, p', ws, ws', rfl, rfl, hp, hp', by rw [← lw.len, ← lw'.len]; exact most_le hm.1, ?_⟩
          refine fin.put rp ep ⟨_, upd_same, RpL.ltr rp (Ltr.put (List.mem_of_getElem? ep)) (lw.append lw')⟩ (by simp only [Rp])
        · exact fin.elim
      · exact fin.elim
    · exact fin.elim
  | .ref n, [.non], _, fin => exact (no_ext (fun m z => by cases z) fin).elim
  | .ref n, [.bl _], _, fin => exact (no_ext (fun m z => by cases z) fin).elim
  | .ref n, [.int _], _, fin => exact (no_ext (fun m z => by cases z) fin).elim
  | .ref n, [.str _], _, fin => exact (no_ext (fun m z => by cases z) fin).elim
  | .ref n, [.tup _], _, fin => exact (no_ext (fun m z => by cases z) fin).elim
  | .ref n, [.exn _ _], _, fin => exact (no_ext (fun m z => by cases z) fin).elim
  | .ref n, [], _, fin => exact fin.elim
  | .ref n, _ :: _ :: _, _, fin => exact fin.elim
  | .non, _, _, fin => exact fin.elim
  | .bl _, _, _, fin => exact fin.elim
  | .int _, _, _, fin => exact fin.elim
  | .str _, _, _, fin => exact fin.elim
  | .tup _, _, _, fin => exact fin.elim
  | .exn _ _, _, _, fin => exact fin.elim
theorem RpL.last {K : PySem.W.Frag} {ρ : List Addr} {H : Hp} {xs : List Dv} {vs : List V} {d : Dv} (l : RpL K ρ H xs vs) (e : xs.getLast? = some d) : ∃ v, vs[vs.length - 1]? = some v ∧ Rp K ρ H d v ∧ RpL K ρ H xs.dropLast vs.dropLast := by
  rw [List.getLast?_eq_getElem?] at e
  obtain ⟨v, h1, h2⟩ := l.get e
  rw [l.len] at h1
  refine ⟨v, h1, h2, ?_⟩
  rw [List.dropLast_eq_take, List.dropLast_eq_take, l.len]
  exact l.take _
theorem mt_popD : MtR X "list.pop" (rMt B .pop) := by
  intro pins s σ H x vs v us Q I rx r hh
  obtain ⟨ρ, h, o, ds, rp, ro, l, fin⟩ := hh
  match o, ds, l, fin with
  | .ref n, [], l, fin =>
    simp only [RpL] at l
    subst l
    simp only [Rp] at ro
    obtain ⟨p, rfl, ep⟩ := ro
    simp only [mts] at fin
    split at fin
    · rename_i xs q
      split at fin
      · rename_i d hd
        obtain ⟨ws, hp, lw⟩ := rp.ob _ _ p q ep
        obtain ⟨w, h1, h2, h3⟩ := lw.last hd
        refine mt_pop pins s σ H _ _ v us Q I rx r ⟨p, ws, w, rfl, rfl, hp, h1, ?_⟩
        exact fin.put rp ep ⟨_, upd_same, RpL.ltr rp (Ltr.put (List.mem_of_getElem? ep)) h3⟩ h2
      · exact fin.elim
    · exact fin.elim
  | .ref n, _ :: _, _, fin => exact fin.elim
  | .non, _, _, fin => exact fin.elim
  | .bl _, _, _, fin => exact fin.elim
  | .int _, _, _, fin => exact fin.elim
  | .str _, _, _, fin => exact fin.elim
  | .tup _, _, _, fin => exact fin.elim
  | .exn _ _, _, _, fin => exact fin.elim
theorem set_same {α : Type} {l : List α} {n : Nat} {a : α} (q : l[n]? = some a) : l.set n a = l := by
  apply List.ext_getElem?
  intro i
  rw [List.getElem?_set]
  split
  · rename_i e
    subst e
    have := (List.getElem?_eq_some_iff.mp q).1
    rw [if_pos this, q]
  · rfl
theorem scan1000 {n : Nat} (h : n < 1000) : n + 1 < scanBound := Nat.lt_of_le_of_lt (show n + 1 ≤ 1000 by omega) (by decide)
theorem rsadd_of {w : World} (hw : w = B.w) {x : V} {vs : List V} {H : Hp} {Q : VK} (hh : rMt B .add x vs H Q) : rSAdd w x vs H Q := by
  obtain ⟨ρ, h, o, ds, rp, ro, l, fin⟩ := hh
  match o, ds, l, fin with
  | .ref n, [.int i], l, fin =>
    obtain ⟨w, rfl, rd⟩ := rpl1 l
    simp only [Rp] at ro rd
    obtain ⟨p, rfl, ep⟩ := ro
    subst rd
    simp only [mts] at fin
    split at fin
    · rename_i is q
      split at fin
      · rename_i hm
        obtain ⟨S, m, hS, hm1, hS2⟩ := rp.ob _ _ p q ep
        rw [← hw] at hS
        refine ⟨p, i, S, m, rfl, rfl, hS, by rw [hm1]; exact scan1000 (of_decide_eq_true hm), ?_⟩
        cases hc : is.contains i with
        | true =>
          rw [hc, if_pos rfl] at fin
          have hn : h.set n (.set is) = h := set_same q
          rw [← hn] at fin
          refine fin.put rp ep ⟨_, _, by rw [hw]; exact upd_same, ?_, fun k => ?_⟩ (by simp only [Rp])
          · rw [if_pos (by rw [hS2]; exact hc)]; exact hm1
          · rw [hS2]
            by_cases hk : k = i
            · subst hk; rw [hc]; simp
            · simp [hk]
        | false =>
          rw [hc, if_neg Bool.false_ne_true] at fin
          refine fin.put rp ep ⟨_, _, by rw [hw]; exact upd_same, ?_, fun k => ?_⟩ (by simp only [Rp])
          · rw [if_neg (by rw [hS2, hc]; exact Bool.false_ne_true), hm1]; simp
          · rw [hS2]
            simp [List.contains_eq_mem, List.mem_append]
      · exact fin.elim
    · exact fin.elim
  | .ref n, [], _, fin => exact fin.elim
  | .ref n, [.non], _, fin => exact fin.elim
  | .ref n, [.bl _], _, fin => exact fin.elim
  | .ref n, [.str _], _, fin => exact fin.elim
  | .ref n, [.tup _], _, fin => exact fin.elim
  | .ref n, [.ref _], _, fin => exact fin.elim
  | .ref n, [.exn _ _], _, fin => exact fin.elim
  | .ref n, a :: _ :: _, _, fin => cases a <;> exact fin.elim
  | .non, _, _, fin => exact fin.elim
  | .bl _, _, _, fin => exact fin.elim
  | .int _, _, _, fin => exact fin.elim
  | .str _, _, _, fin => exact fin.elim
  | .tup _, _, _, fin => exact fin.elim
  | .exn _ _, _, _, fin => exact fin.elim
end
end FF
end

section
set_option Elab.async false
set_option linter.all false
set_option maxRecDepth 100000
set_option maxHeartbeats 4000000
/-! FE15: readings of expressions, case by case. -/
namespace FF
open PySem PySem.Spec PySem.SeqAt
open PyProof.Rows hiding St
open L2 hiding start It

section
variable {B : Bd}
theorem Fin.w0 {W : WX} {σV : L2.St} {ρ : List Addr} {H : Hp} {α β : Type} {rel : List Addr → Hp → α → β → Prop} {r : R α} {Q : β → Hp → Prop} (n : ∀ x h, r ≠ .ex x h) (f : Fin B W σV ρ H rel r Q) : Fin B W0 [] ρ H rel r Q := by
  cases r with
  | ok a h' => exact f
  | ex x h' => exact absurd rfl (n x h')
  | no => exact f
theorem Fin.ofW0 {W : WX} {σV σV' : L2.St} {ρ : List Addr} {H : Hp} {α β : Type} {rel : List Addr → Hp → α → β → Prop} {r : R α} {Q : β → Hp → Prop} (f : Fin B W0 σV' ρ H rel r Q) : Fin B W σV ρ H rel r Q := by
  cases r with
  | ok a h' => exact f
  | ex x h' => exact fun ρ' H' c d l rp q => (f ρ' H' c d l rp q).elim
  | no => exact f
theorem Fin.imp {W : WX} {σV : L2.St} {ρ : List Addr} {H : Hp} {α β : Type} {rel : List Addr → Hp → α → β → Prop} {r : R α} {Q Q' : β → Hp → Prop} (f : Fin B W σV ρ H rel r Q) (k : ∀ x H', Q x H' → Q' x H') : Fin B W σV ρ H rel r Q' := by
  cases r with
  | ok a h' => exact fun ρ' H' x l rp q => k _ _ (f ρ' H' x l rp q)
  | ex x h' => exact f
  | no => exact f
theorem Fin.noX {W : WX} {σV : L2.St} {ρ : List Addr} {H : Hp} {α β : Type} {rel : List Addr → Hp → α → β → Prop} {r : R α} {Q : β → Hp → Prop} (f : Fin B W σV ρ H rel r.noX Q) : Fin B W0 [] ρ H rel r Q := by
  cases r with
  | ok a h' => exact f
  | ex x h' => exact f.elim
  | no => exact f
/-- a reading by what is computed -/
def tV (B : Bd) (W : WX) (ev : Sg → Hh → R Dv) : TE := fun σV H Q => ∃ ρ h σ, B.S ρ H h σ σV ∧ Fin B W σV ρ H (Rp B.K) (ev σ h) Q
def tVL (B : Bd) (W : WX) (ev : Sg → Hh → R (List Dv)) : TA := fun σV H Q => ∃ ρ h σ, B.S ρ H h σ σV ∧ Fin B W σV ρ H (RpL B.K) (ev σ h) Q
def tVT (B : Bd) (W : WX) (ev : Sg → Hh → R Dv) : TT := fun σV H Q => ∃ ρ h σ, B.S ρ H h σ σV ∧ Fin B W σV ρ H relEq (asB (ev σ h)) Q
def tVO (B : Bd) (W : WX) (ev : Sg → Hh → R (Option Int)) : TO := fun σV H Q => ∃ ρ h σ, B.S ρ H h σ σV ∧ Fin B W σV ρ H relEq (ev σ h) Q

theorem Rep.ltr {ρ ρ1 : List Addr} {H H1 : Hp} {h h1 : Hh} {σ : Sg} {σV : L2.St} (r : B.S ρ H h σ σV) (l : Ltr ρ H ρ1 H1) (rp : B.H ρ1 H1 h1) : B.S ρ1 H1 h1 σ σV := ⟨rp, RpS.ltr r.hp l r.sl⟩
/-- a test's reading from a value's -/
theorem fin_asB {W : WX} {σV : L2.St} {ρ : List Addr} {H : Hp} {r : R Dv} {Q : Bool → Hp → Prop} (f : Fin B W σV ρ H relEq (asB r) Q) : Fin B W σV ρ H (Rp B.K) r (fun x H' => ∃ c, x = .bl c ∧ Q c H') := by
  cases r with
  | ok v h' =>
    cases v with
    | bl b => exact fun ρ' H' x l rp q => ⟨b, by simpa only [Rp] using q, f ρ' H' b l rp rfl⟩
    | _ => exact f.elim
  | ex x h' => exact f
  | no => exact f.elim
theorem fin_bl {W : WX} {σV : L2.St} {ρ : List Addr} {H : Hp} {r : R Dv} {α β : Type} {rel : List Addr → Hp → α → β → Prop} {f : Bool → Hh → R α} {Q : β → Hp → Prop} (F : Fin B W σV ρ H rel (r.bind fun v h => match v with
    | .bl b => f b h
    | _ => .no) Q) : Fin B W σV ρ H rel ((asB r).bind f) Q := by rw [asB_bind]; exact F
section
variable {X : Cx} {e : Expr} {W : WX}
theorem pt_ofE {ev : Sg → Hh → R Dv} (h : PE X e (tV B W ev)) (he : ∀ whole, isTrue e X.env whole = (do let v ← whole; standAt e.pos; holding [v] (truthy v))) : PT X e (tVT B W ev) :=
  pt_mono (pt_val h he) fun σV H Q ⟨ρ, h, σ, rp, fin⟩ => ⟨ρ, h, σ, rp, fin_asB fin⟩
theorem nex_of {α : Type} {o : Option α} {h : Hh} : ∀ x h', (R.of o h) ≠ .ex x h' := fun x h' e => by cases o <;> cases e
theorem nex_bop {op : BO} {x y : Dv} {h : Hh} : ∀ z h', bop op x y h ≠ .ex z h' := fun z h' e => by
  unfold bop at e
  repeat' split at e
  all_goals cases e
theorem nex_bis {b : Bi} {vs : List Dv} {h : Hh} : ∀ z h', bis b vs h ≠ .ex z h' := fun z h' e => by
  unfold bis R.of at e
  repeat' split at e
  all_goals cases e
theorem nex_mts {m : Mt} {x : Dv} {vs : List Dv} {h : Hh} : ∀ z h', mts m x vs h ≠ .ex z h' := fun z h' e => by
  unfold mts at e
  repeat' split at e
  all_goals cases e

/-! ### case by case -/
variable {ea eb ec : Sg → Hh → R Dv} {a b c : Expr} {pos : Pos}
theorem fe_var {i : Nat} {x : Str} {p : Pos} (hi : X.N[i]? = some x) (hv : Vis X.env.scope x) (hp : plainNm x = true) (F : Fx) : PE X (.Name x p) (tV B W (evE F (.var i p))) := by
  simp only [plainNm, Bool.and_eq_true, decide_eq_true_eq] at hp
  refine pe_mono (pe_var hi hv (beq_eq_false_iff_ne.mpr hp.1) (beq_eq_false_iff_ne.mpr hp.2)) fun σV H Q ⟨ρ, h, σ, rp, fin⟩ => ?_
  simp only [evE] at fin
  cases q : σ[i]? with
  | none => rw [q] at fin; exact fin.elim
  | some o =>
    rw [q] at fin
    cases o with
    | none => exact fin.elim
    | some d =>
      obtain ⟨v, e1, e2⟩ := rp.sl.get q
      exact ⟨v, e1, fin.now rp.hp e2⟩
theorem fe_const {d : Dv} {v : V} (h : PE X e (tC v)) (r : ∀ ρ H, Rp B.K ρ H d v) : PE X e (tV B W fun _ h => .ok d h) :=
  pe_mono h fun σV H Q ⟨ρ, h, σ, rp, fin⟩ => fin.now rp.hp (r ρ H)
theorem fe_bin {op : BO} (hK : X.K = B.K) (ha : PE X a (tV B W ea)) (hb : PE X b (tV B W eb)) : PE X (.BinOp a (boOf op) b pos) (tV B W fun σ h => (ea σ h).bind fun x h1 => (eb σ h1).bind fun y h2 => bop op x y h2) :=
  pe_mono (pe_op (op_bop hK op) ha hb) fun σV H Q ⟨ρ, h, σ, rp, fin⟩ => ⟨ρ, h, σ, rp, fin.bind fun x h1 ρ1 H1 v _ l1 rp1 rx fin => ⟨ρ1, h1, σ, rp.ltr l1 rp1, fin.bind fun y h2 ρ2 H2 u _ l2 rp2 ry fin =>
    ⟨ρ2, h2, x, y, rp2, Rp.ltr rp1 l2 rx, ry, fin.w0 nex_bop⟩⟩⟩
theorem fe_neg (ha : PE X a (tV B W ea)) : PE X (.UnaryOp .USub a pos) (tV B W fun σ h => (ea σ h).bind fun x h1 => match x with
    | .int i => .ok (.int (-i)) h1
    | _ => .no) :=
  pe_mono (pe_un un_neg ha) fun σV H Q ⟨ρ, h, σ, rp, fin⟩ => ⟨ρ, h, σ, rp, fin.bind fun x h1 ρ1 H1 v _ l1 rp1 rx fin => by
    cases x with
    | int i =>
      simp only [Rp] at rx
      subst rx
      exact ⟨i, rfl, fin.now rp1 (by simp only [Rp])⟩
    | _ => exact fin.elim⟩
theorem cmp_red {op : CO} (ha : True) : (fun σV H Q => ∃ ρ h σ, B.S ρ H h σ σV ∧ Fin B W σV ρ H (Rp B.K) ((ea σ h).bind fun x h1 => (eb σ h1).bind fun y h2 => R.of ((cop op x y h2).map .bl) h2) Q) = (tV B W fun σ h => (ea σ h).bind fun x h1 => (eb σ h1).bind fun y h2 => R.of ((cop op x y h2).map .bl) h2) := rfl
theorem fe_cmp {op : CO} (hK : X.K = B.K) (hw : X.w = B.w) (hP : X.prog = B.P) (hu : X.A.units + 66 < cLine) (hm : behindInMarks (coOf op) b = false) (ha : PE X a (tV B W ea)) (hb : PE X b (tV B W eb)) :
    PE X (.Compare a [coOf op] [b] pos) (tV B W fun σ h => (ea σ h).bind fun x h1 => (eb σ h1).bind fun y h2 => R.of ((cop op x y h2).map .bl) h2) :=
  pe_mono (pe_cmpR (op_cop op hK hw hP hu) ha hb hm) fun σV H Q ⟨ρ, h, σ, rp, fin⟩ => ⟨ρ, h, σ, rp, fin.bind fun x h1 ρ1 H1 v _ l1 rp1 rx fin => ⟨ρ1, h1, σ, rp.ltr l1 rp1, fin.bind fun y h2 ρ2 H2 u _ l2 rp2 ry fin => by
    obtain ⟨d, e, fin⟩ := fin.of
    obtain ⟨k, ek, rfl⟩ := Option.map_eq_some_iff.mp e
    exact ⟨ρ2, h2, x, y, k, rp2, Rp.ltr rp1 l2 rx, ry, ek, fin.now rp2 (by simp only [Rp])⟩⟩⟩
theorem fe_cmpT {op : CO} (hK : X.K = B.K) (hw : X.w = B.w) (hP : X.prog = B.P) (hu : X.A.units + 66 < cLine) (hm : behindInMarks (coOf op) b = false) (ha : PE X a (tV B W ea)) (hb : PE X b (tV B W eb)) :
    PT X (.Compare a [coOf op] [b] pos) (tVT B W fun σ h => (ea σ h).bind fun x h1 => (eb σ h1).bind fun y h2 => R.of ((cop op x y h2).map .bl) h2) :=
  pt_mono (pt_cmpR (op_cop op hK hw hP hu) ha hb hm) fun σV H Q ⟨ρ, h, σ, rp, fin⟩ => ⟨ρ, h, σ, rp, (fin_asB fin).bind fun x h1 ρ1 H1 v _ l1 rp1 rx fin => ⟨ρ1, h1, σ, rp.ltr l1 rp1, fin.bind fun y h2 ρ2 H2 u _ l2 rp2 ry fin => by
    obtain ⟨d, e, fin⟩ := fin.of
    obtain ⟨k, ek, rfl⟩ := Option.map_eq_some_iff.mp e
    exact ⟨ρ2, h2, x, y, k, rp2, Rp.ltr rp1 l2 rx, ry, ek, fin.now rp2 (by simp only [Rp])⟩⟩⟩
def chE (op op' : CO) (ea eb ec : Sg → Hh → R Dv) (σ : Sg) (h : Hh) : R Dv := (ea σ h).bind fun x h1 => (eb σ h1).bind fun y h2 => match cop op x y h2 with
    | some true => (ec σ h2).bind fun z h3 => R.of ((cop op' y z h3).map .bl) h3
    | some false => .ok (.bl false) h2
    | none => .no
theorem fe_chain {op op' : CO} (hK : X.K = B.K) (hw : X.w = B.w) (hP : X.prog = B.P) (hu : X.A.units + 66 < cLine) (hm : lastMarks [coOf op, coOf op'] [b, c] = false) (ha : PE X a (tV B W ea)) (hb : PE X b (tV B W eb)) (hc : PE X c (tV B W ec)) :
    PE X (.Compare a [coOf op, coOf op'] [b, c] pos) (tV B W (chE op op' ea eb ec)) ∧ PT X (.Compare a [coOf op, coOf op'] [b, c] pos) (tVT B W (chE op op' ea eb ec)) := by
  have key : ∀ σV H Q, tV B W (chE op op' ea eb ec) σV H Q → tChain (rCop B op) (rCop B op') (tV B W ea) (tV B W eb) (tV B W ec) σV H Q := fun σV H Q ⟨ρ, h, σ, rp, fin⟩ => ⟨ρ, h, σ, rp, fin.bind fun x h1 ρ1 H1 v _ l1 rp1 rx fin => ⟨ρ1, h1, σ, rp.ltr l1 rp1, fin.bind fun y h2 ρ2 H2 u _ l2 rp2 ry fin => by
    have s2 := rp.ltr (Ltr.trans rp1 l1 l2) rp2
    split at fin
    · rename_i e
      refine ⟨ρ2, h2, x, y, true, rp2, Rp.ltr rp1 l2 rx, ry, e, true, rfl, ?_⟩
      rw [if_pos rfl]
      exact ⟨ρ2, h2, σ, s2, fin.bind fun z h3 ρ3 H3 t _ l3 rp3 rz fin => by
        obtain ⟨d, e, fin⟩ := fin.of
        obtain ⟨k, ek, rfl⟩ := Option.map_eq_some_iff.mp e
        exact ⟨ρ3, h3, y, z, k, rp3, Rp.ltr rp2 l3 ry, rz, ek, fin.now rp3 (by simp only [Rp])⟩⟩
    · rename_i e
      refine ⟨ρ2, h2, x, y, false, rp2, Rp.ltr rp1 l2 rx, ry, e, false, rfl, ?_⟩
      rw [if_neg Bool.false_ne_true]
      exact fin.now rp2 (by simp only [Rp])
    · exact fin.elim⟩⟩
  exact ⟨pe_mono (pe_chain (op_cop op hK hw hP hu) (op_cop op' hK hw hP hu) ha hb hc hm) key,
    pt_mono (pt_chain (op_cop op hK hw hP hu) (op_cop op' hK hw hP hu) ha hb hc hm) fun σV H Q ⟨ρ, h, σ, rp, fin⟩ => key σV H _ ⟨ρ, h, σ, rp, fin_asB fin⟩⟩
def notE (ea : Sg → Hh → R Dv) (σ : Sg) (h : Hh) : R Dv := (ea σ h).bind fun x h1 => match x with
    | .bl b => .ok (.bl (!b)) h1
    | _ => .no
theorem not_bl {ea : Sg → Hh → R Dv} {σ : Sg} {h : Hh} : asB (notE ea σ h) = (asB (ea σ h)).bind fun k h1 => .ok (!k) h1 := by
  unfold notE
  cases ea σ h with
  | ok v h' => cases v <;> rfl
  | ex x h' => rfl
  | no => rfl
theorem fe_not (ha : PT X a (tVT B W ea)) (ha' : PE X a (tV B W ea)) : PE X (.UnaryOp .Not a pos) (tV B W (notE ea)) ∧ PT X (.UnaryOp .Not a pos) (tVT B W (notE ea)) := by
  refine ⟨pe_mono (pe_not ha') fun σV H Q ⟨ρ, h, σ, rp, fin⟩ => ⟨ρ, h, σ, rp, fin.bind fun x h1 ρ1 H1 v _ l1 rp1 rx fin => ?_⟩, pt_mono (pt_not ha) fun σV H Q ⟨ρ, h, σ, rp, fin⟩ => ⟨ρ, h, σ, rp, ?_⟩⟩
  · cases x with
    | bl b =>
      simp only [Rp] at rx
      subst rx
      exact ⟨b, rfl, fin.now rp1 (by simp only [Rp])⟩
    | _ => exact fin.elim
  · rw [not_bl] at fin
    exact fin.bind fun k h1 ρ1 H1 v _ l1 rp1 rx fin => by
      cases rx
      exact fin.now rp1 rfl
def ifE (ec ea eb : Sg → Hh → R Dv) (σ : Sg) (h : Hh) : R Dv := (ec σ h).bind fun x h1 => match x with
    | .bl true => ea σ h1
    | .bl false => eb σ h1
    | _ => .no
theorem if_bl {ec ea eb : Sg → Hh → R Dv} {σ : Sg} {h : Hh} : ifE ec ea eb σ h = (asB (ec σ h)).bind fun k h1 => if k = true then ea σ h1 else eb σ h1 := by
  rw [asB_bind]
  unfold ifE
  congr 1
  funext x h1
  cases x with
  | bl k => cases k <;> rfl
  | _ => rfl
theorem fe_ife (hc : PT X c (tVT B W ec)) (ha : PE X a (tV B W ea)) (hb : PE X b (tV B W eb)) : PE X (.IfExp c a b pos) (tV B W (ifE ec ea eb)) :=
  pe_mono (pe_ifExp hc ha hb) fun σV H Q ⟨ρ, h, σ, rp, fin⟩ => ⟨ρ, h, σ, rp, by
    rw [if_bl] at fin
    exact fin.bind fun k h1 ρ1 H1 v _ l1 rp1 rx fin => by
      cases rx
      cases k with
      | true => exact ⟨ρ1, h1, σ, rp.ltr l1 rp1, fin⟩
      | false => exact ⟨ρ1, h1, σ, rp.ltr l1 rp1, fin⟩⟩
end
end
end FF
end

section
set_option Elab.async false
set_option linter.all false
set_option maxRecDepth 100000
set_option maxHeartbeats 4000000
/-! FE16: readings of expressions, case by case, on. -/
namespace FF
open PySem PySem.Spec PySem.SeqAt
open PyProof.Rows hiding St
open L2 hiding start It

section
variable {B : Bd} {X : Cx} {W : WX} {ea eb ec : Sg → Hh → R Dv} {el : Sg → Hh → R (List Dv)} {a b c : Expr} {es : List Expr} {pos : Pos}
/-! and, or -/
def andE (ea eb : Sg → Hh → R Dv) (σ : Sg) (h : Hh) : R Dv := (ea σ h).bind fun v h1 => match v with
  | .bl true => eb σ h1
  | .bl false => .ok (.bl false) h1
  | _ => .no
def orE (ea eb : Sg → Hh → R Dv) (σ : Sg) (h : Hh) : R Dv := (ea σ h).bind fun v h1 => match v with
  | .bl false => eb σ h1
  | .bl true => .ok (.bl true) h1
  | _ => .no
theorem and_bl {σ : Sg} {h : Hh} : asB (andE ea eb σ h) = (asB (ea σ h)).bind fun k h1 => if k = true then asB (eb σ h1) else .ok false h1 := by
  unfold andE
  cases ea σ h with
  | ok v h' =>
    cases v with
    | bl k => cases k <;> rfl
    | _ => rfl
  | ex x h' => rfl
  | no => rfl
theorem or_bl {σ : Sg} {h : Hh} : asB (orE ea eb σ h) = (asB (ea σ h)).bind fun k h1 => if k = true then .ok true h1 else asB (eb σ h1) := by
  unfold orE
  cases ea σ h with
  | ok v h' =>
    cases v with
    | bl k => cases k <;> rfl
    | _ => rfl
  | ex x h' => rfl
  | no => rfl
theorem fe_and {rest : List Expr} (ha : PE X a (tV B W ea)) (hb : PE X (.BoolOp .And (b :: rest) pos) (tV B W eb)) : PE X (.BoolOp .And (a :: b :: rest) pos) (tV B W (andE ea eb)) :=
  pe_mono (pe_and ha hb) fun σV H Q ⟨ρ, h, σ, rp, fin⟩ => ⟨ρ, h, σ, rp, fin.bind fun x h1 ρ1 H1 v _ l1 rp1 rx fin => by
    cases x with
    | bl k =>
      simp only [Rp] at rx
      subst rx
      refine ⟨k, rfl, ?_⟩
      cases k with
      | true => exact ⟨ρ1, h1, σ, rp.ltr l1 rp1, fin⟩
      | false => exact fin.now rp1 (by simp only [Rp])
    | _ => exact fin.elim⟩
theorem fe_or {rest : List Expr} (ha : PE X a (tV B W ea)) (hb : PE X (.BoolOp .Or (b :: rest) pos) (tV B W eb)) : PE X (.BoolOp .Or (a :: b :: rest) pos) (tV B W (orE ea eb)) :=
  pe_mono (pe_or ha hb) fun σV H Q ⟨ρ, h, σ, rp, fin⟩ => ⟨ρ, h, σ, rp, fin.bind fun x h1 ρ1 H1 v _ l1 rp1 rx fin => by
    cases x with
    | bl k =>
      simp only [Rp] at rx
      subst rx
      refine ⟨k, rfl, ?_⟩
      cases k with
      | false => exact ⟨ρ1, h1, σ, rp.ltr l1 rp1, fin⟩
      | true => exact fin.now rp1 (by simp only [Rp])
    | _ => exact fin.elim⟩
theorem fw_and {rest : List Expr} (ha : PT X a (tVT B W ea)) (hb : PW X (.BoolOp .And (b :: rest) pos) (tVT B W eb)) : PW X (.BoolOp .And (a :: b :: rest) pos) (tVT B W (andE ea eb)) :=
  pw_mono (pw_and ha hb) fun σV H Q ⟨ρ, h, σ, rp, fin⟩ => ⟨ρ, h, σ, rp, by
    rw [and_bl] at fin
    exact fin.bind fun k h1 ρ1 H1 v _ l1 rp1 rx fin => by
      cases rx
      cases k with
      | true => exact ⟨ρ1, h1, σ, rp.ltr l1 rp1, fin⟩
      | false => exact fin.now rp1 rfl⟩
theorem fw_or {rest : List Expr} (ha : PT X a (tVT B W ea)) (hb : PW X (.BoolOp .Or (b :: rest) pos) (tVT B W eb)) : PW X (.BoolOp .Or (a :: b :: rest) pos) (tVT B W (orE ea eb)) :=
  pw_mono (pw_or ha hb) fun σV H Q ⟨ρ, h, σ, rp, fin⟩ => ⟨ρ, h, σ, rp, by
    rw [or_bl] at fin
    exact fin.bind fun k h1 ρ1 H1 v _ l1 rp1 rx fin => by
      cases rx
      cases k with
      | false => exact ⟨ρ1, h1, σ, rp.ltr l1 rp1, fin⟩
      | true => exact fin.now rp1 rfl⟩
theorem ft_ife (hc : PT X c (tVT B W ec)) (ha : PT X a (tVT B W ea)) (hb : PT X b (tVT B W eb)) : PT X (.IfExp c a b pos) (tVT B W (ifE ec ea eb)) := by
  refine ⟨fun pins s σV H Q I ⟨ρ, h, σ, rp, fin⟩ => ?_⟩
  rw [if_bl] at fin
  have fin : Fin B W σV ρ H relEq ((asB (ec σ h)).bind fun k h1 => if k = true then asB (ea σ h1) else asB (eb σ h1)) Q := by
    cases r : ec σ h with
    | ok v h' =>
      rw [r] at fin
      cases v with
      | bl k => cases k <;> exact fin
      | _ => exact fin
    | ex x h' => rw [r] at fin; exact fin
    | no => rw [r] at fin; exact fin
  refine isTrue_IfExp (thn (hc.run pins s σV H _ I ⟨ρ, h, σ, rp, fin.bind (Q1 := fun k H1 => if k = true then tVT B W ea σV H1 Q else tVT B W eb σV H1 Q) fun k h1 ρ1 H1 v _ l1 rp1 rx fin => ?_⟩) fun d s1 ⟨H1, I1, q1⟩ => ?_)
  · cases rx
    cases k with
    | true => exact ⟨ρ1, h1, σ, rp.ltr l1 rp1, fin⟩
    | false => exact ⟨ρ1, h1, σ, rp.ltr l1 rp1, fin⟩
  · cases d with
    | true => exact ha.run pins s1 σV H1 Q I1 q1
    | false => exact hb.run pins s1 σV H1 Q I1 q1
/-! arguments -/
theorem fa_nil : PA X [] (tVL B W fun _ h => .ok [] h) := pa_mono pa_nil fun σV H Q ⟨ρ, h, σ, rp, fin⟩ => fin.now rp.hp (by simp only [RpL])
theorem fa_cons (hs : isStar a = false) (ha : PE X a (tV B W ea)) (hb : PA X es (tVL B W el)) : PA X (a :: es) (tVL B W fun σ h => (ea σ h).bind fun v h1 => (el σ h1).bind fun vs h2 => .ok (v :: vs) h2) :=
  pa_mono (pa_cons ha hb (star_of hs)) fun σV H Q ⟨ρ, h, σ, rp, fin⟩ => ⟨ρ, h, σ, rp, fin.bind fun x h1 ρ1 H1 v _ l1 rp1 rx fin => ⟨ρ1, h1, σ, rp.ltr l1 rp1, fin.bind fun xs h2 ρ2 H2 vs _ l2 rp2 rxs fin =>
    fin.now rp2 (by
      simp only [RpL]
      exact ⟨v, vs, rfl, Rp.ltr rp1 l2 rx, rxs⟩)⟩⟩
theorem fe_tup {k : Nat} (ha : PA X es (tVL B W el)) : PE X (.Tuple es k pos) (tV B W fun σ h => (el σ h).bind fun vs h1 => if decide (vs.length ≤ most) then .ok (.tup vs) h1 else .no) :=
  pe_mono (pe_tup ha) fun σV H Q ⟨ρ, h, σ, rp, fin⟩ => ⟨ρ, h, σ, rp, fin.bind fun xs h1 ρ1 H1 vs _ l1 rp1 rx fin => by
    split at fin
    · rename_i hm
      refine ⟨by rw [← rx.len]; exact most_le (of_decide_eq_true hm), fun p hp => ?_⟩
      exact fin ρ1 (upd H1 p (.tup vs)) _ (Ltr.newT hp) (rp1.newT hp) (RpL.ref (RpL.ltr rp1 (Ltr.newT hp) rx) (.inl (.inl upd_same)))
    · exact fin.elim⟩
theorem fe_lst (ha : PA X es (tVL B W el)) : PE X (.List es pos) (tV B W fun σ h => (el σ h).bind fun vs h1 => if decide (vs.length ≤ most) then .ok (.ref h1.length) (h1 ++ [.lst vs]) else .no) :=
  pe_mono (pe_lst ha) fun σV H Q ⟨ρ, h, σ, rp, fin⟩ => ⟨ρ, h, σ, rp, fin.bind fun xs h1 ρ1 H1 vs _ l1 rp1 rx fin => by
    split at fin
    · rename_i hm
      refine ⟨by rw [← rx.len]; exact most_le (of_decide_eq_true hm), fun p hp => ?_⟩
      exact fin (ρ1 ++ [p]) (upd H1 p (.lst vs)) _ (Ltr.new hp) (rp1.new hp ⟨vs, upd_same, RpL.ltr rp1 (Ltr.new hp) rx⟩) (by
        simp only [Rp]
        refine ⟨p, rfl, ?_⟩
        rw [← rp1.len, List.getElem?_append_right (Nat.le_refl _), Nat.sub_self]
        rfl)
    · exact fin.elim⟩
/-! x[y], x[l:u] -/
theorem fe_ix (hK : X.K = B.K) (hw : X.w = B.w) (hP : X.prog = B.P) (hu : X.A.units + 66 < cLine) (hi : PlainIx b) (ha : PE X a (tV B W ea)) (hb : PE X b (tV B W eb)) :
    PE X (.Subscript a b pos) (tV B W fun σ h => (ea σ h).bind fun x h1 => (eb σ h1).bind fun y h2 => R.of (ixs x y h2) h2) :=
  pe_mono (pe_ix (ix_ixs hK hw hP hu) ha hb hi) fun σV H Q ⟨ρ, h, σ, rp, fin⟩ => ⟨ρ, h, σ, rp, fin.bind fun x h1 ρ1 H1 v _ l1 rp1 rx fin => ⟨ρ1, h1, σ, rp.ltr l1 rp1, fin.bind fun y h2 ρ2 H2 u _ l2 rp2 ry fin => by
    obtain ⟨d, e, fin⟩ := fin.of
    exact ⟨ρ2, h2, x, y, d, rp2, Rp.ltr rp1 l2 rx, ry, e, fun z rz => fin.now rp2 rz⟩⟩⟩
theorem fo_none : PO X none (tVO B W fun _ h => .ok none h) := ⟨fun pins s σV H Q I ⟨ρ, h, σ, rp, fin⟩ => po_none.run pins s σV H Q I (fin.now rp.hp rfl)⟩
theorem fo_some (ha : PE X a (tV B W ea)) : PO X (some a) (tVO B W fun σ h => (ea σ h).bind fun v h1 => match v with
    | .int i => .ok (some i) h1
    | _ => .no) := ⟨fun pins s σV H Q I ⟨ρ, h, σ, rp, fin⟩ => (po_some ha).run pins s σV H Q I ⟨ρ, h, σ, rp, fin.bind fun x h1 ρ1 H1 v _ l1 rp1 rx fin => by
    cases x with
    | int i =>
      simp only [Rp] at rx
      subst rx
      exact ⟨i, rfl, fin.now rp1 rfl⟩
    | _ => exact fin.elim⟩⟩
theorem nex_cuts {x : Dv} {l u : Option Int} {h : Hh} : ∀ z h', cuts x l u h ≠ .ex z h' := fun z h' e => by
  unfold cuts at e
  repeat' split at e
  all_goals cases e
theorem fe_sl {lo hi : Option Expr} {el eh : Sg → Hh → R (Option Int)} {p2 : Pos} (hK : X.K = B.K) (ha : PE X a (tV B W ea)) (hl : PO X lo (tVO B W el)) (hh : PO X hi (tVO B W eh)) :
    PE X (.Subscript a (.Slice lo hi none p2) pos) (tV B W fun σ h => (ea σ h).bind fun x h1 => (el σ h1).bind fun l h2 => (eh σ h2).bind fun u h3 => cuts x l u h3) :=
  pe_mono (pe_slice (sl_cuts hK) ha hl hh) fun σV H Q ⟨ρ, h, σ, rp, fin⟩ => ⟨ρ, h, σ, rp, fin.bind fun x h1 ρ1 H1 v _ l1 rp1 rx fin => ⟨ρ1, h1, σ, rp.ltr l1 rp1, fin.bind fun l h2 ρ2 H2 u _ l2 rp2 ry fin => by
    cases ry
    exact ⟨ρ2, h2, σ, rp.ltr (Ltr.trans rp1 l1 l2) rp2, fin.bind fun u h3 ρ3 H3 t _ l3 rp3 rz fin => by
      cases rz
      exact ⟨ρ3, h3, x, rp3, Rp.ltr rp1 (Ltr.trans rp2 l2 l3) rx, fin.w0 nex_cuts⟩⟩⟩⟩
/-! calls -/
def fnSp (B : Bd) (f : List Dv → Hh → R Dv) : Sp := fun vs H Q E => ∃ ρ h ds, B.H ρ H h ∧ RpL B.K ρ H ds vs ∧ Fin B (fun c d _ H' => E c d H') [] ρ H (Rp B.K) (f ds h) Q
/-- a function that is called by its name -/
def CallOk (P : Program) (w : World) (K : PySem.W.Frag) (mg : Str → Option Value) (base : Heap) (A : Around) (B : Bd) (x : Str) (f : List Dv → Hh → R Dv) : Prop :=
  ∃ k g fd ps, FnOk P w K mg base (L2.CX P w) k g fd ps (fnSp B f) ∧ Room k A ∧ mg x = some (.ref g) ∧ PySem.W.keepIn K (.ref g) = true ∧ L2.Binds K fd ps []
theorem Fin.wish {W W' : WX} {σV σV' : L2.St} {ρ : List Addr} {H : Hp} {α β : Type} {rel : List Addr → Hp → α → β → Prop} {r : R α} {Q : β → Hp → Prop} (k : ∀ c d H', W c d σV H' → W' c d σV' H') (f : Fin B W σV ρ H rel r Q) : Fin B W' σV' ρ H rel r Q := by
  cases r with
  | ok a h' => exact f
  | ex x h' => exact fun ρ' H' c d l rp q => k _ _ _ (f ρ' H' c d l rp q)
  | no => exact f
theorem fe_call {f : List Dv → Hh → R Dv} {x : Str} {p : Pos} (tk : Takes X W) (ok : CallOk X.prog X.w X.K X.mg X.base X.A B x f) (hg : Gl X x) (hd : (x == ("__debug__" : Str)) = false) (hs : isStar a = false) (hs2 : ∀ env pos, (backTo pos (starEach es env)).any (·.1) = false) (ha : PA X (a :: es) (tVL B W el)) :
    PE X (.Call (.Name x p) (a :: es) [] pos) (tV B W fun σ h => (el σ h).bind fun vs h1 => f vs h1) := by
  obtain ⟨k, g, fd, ps, F, hr, hm, hk, hb⟩ := ok
  refine pe_mono (pe_callSD F hr hg hm hk hb .nil (E := fun σV c d H' => W c d σV H') (fun σ => passAt tk σ) ha hd (star_of hs) (hs2 _ _)) fun σV H Q ⟨ρ, h, σ, rp, fin⟩ => ⟨ρ, h, σ, rp, fin.bind fun xs h1 ρ1 H1 vs _ l1 rp1 rx fin => ?_⟩
  exact ⟨ρ1, h1, xs, rp1, by rw [List.append_nil]; exact rx, fin.wish fun _ _ _ h => h⟩
def biV : Bi → Value
  | .len => .builtin "len" | .tuple => .type "tuple" | .list => .type "list" | .int => .type "int" | .any => .builtin "any" | .all => .builtin "all" | .sorted => .builtin "sorted" | .min => .builtin "min" | .max => .builtin "max" | .abs => .builtin "abs" | .set0 => .type "set" | .min2 => .builtin "min" | .max2 => .builtin "max" | .sum => .builtin "sum" | .gcd => .builtin "math.gcd"
def isTy : Bi → Bool
  | .tuple => true | .list => true | .int => true | .set0 => true | _ => false
def okBi : Bi → Bool
  | .sum => false | .gcd => false | _ => true
theorem nex_rBi {b : Bi} : True := trivial
theorem cr_bi (hK : X.K = B.K) (hw : X.w = B.w) (hP : X.prog = B.P) (hc : X.calm = true) (hu : X.A.units + 66 < cLine) : ∀ b : Bi, okBi b = true → CallR X (biV b) (rBi B b)
  | .len, _ => cr_len hK
  | .tuple, _ => cr_tuple hK
  | .list, _ => cr_list hK hc
  | .int, _ => cr_int
  | .any, _ => cr_anyall false hK hc
  | .all, _ => cr_anyall true hK hc
  | .sorted, _ => cr_sorted hK hP hw hc hu
  | .min, _ => cr_minD hK hc hu
  | .max, _ => cr_maxD hK hc
  | .abs, _ => cr_abs
  | .set0, _ => cr_set hw
  | .min2, _ => cr_mm2 false hc
  | .max2, _ => cr_mm2 true hc
  | .sum, h => by cases h
  | .gcd, h => by cases h
theorem boot_bi : ∀ b : Bi, okBi b = true → bootBuiltins (biOf b) = some (biV b)
  | .len, _ => by decide +kernel
  | .tuple, _ => by decide +kernel
  | .list, _ => by decide +kernel
  | .int, _ => by decide +kernel
  | .any, _ => by decide +kernel
  | .all, _ => by decide +kernel
  | .sorted, _ => by decide +kernel
  | .min, _ => by decide +kernel
  | .max, _ => by decide +kernel
  | .abs, _ => by decide +kernel
  | .set0, _ => by decide +kernel
  | .min2, _ => by decide +kernel
  | .max2, _ => by decide +kernel
  | .sum, h => by cases h
  | .gcd, h => by cases h
theorem bi_names : ∀ b : Bi, biOf b ≠ "__name__" ∧ (biOf b == ("__debug__" : Str)) = false := by intro b; cases b <;> decide
theorem tcb_bi {b : Bi} (σV : L2.St) (H : Hp) (Q : VK) (t : tV B W (fun σ h => (el σ h).bind fun vs h1 => bis b vs h1) σV H Q) : tCB (rBi B b) (tVL B W el) σV H Q := by
  obtain ⟨ρ, h, σ, rp, fin⟩ := t
  exact ⟨ρ, h, σ, rp, fin.bind fun xs h1 ρ1 H1 vs _ l1 rp1 rx fin => ⟨ρ1, h1, xs, rp1, rx, fin.w0 nex_bis⟩⟩
theorem fe_bi {b : Bi} {p : Pos} (hK : X.K = B.K) (hw : X.w = B.w) (hP : X.prog = B.P) (hc : X.calm = true) (hu : X.A.units + 66 < cLine) (hb : okBi b = true) (hg : Gl X (biOf b)) (hm : X.mg (biOf b) = none) (hs : isStar a = false) (hs2 : ∀ env pos, (backTo pos (starEach es env)).any (·.1) = false) (ha : PA X (a :: es) (tVL B W el)) :
    PE X (.Call (.Name (biOf b) p) (a :: es) [] pos) (tV B W fun σ h => (el σ h).bind fun vs h1 => bis b vs h1) := by
  have hcr := cr_bi (B := B) hK hw hP hc hu b hb
  have hbt := boot_bi b hb
  obtain ⟨n1, n2⟩ := bi_names b
  refine pe_mono ?_ tcb_bi
  generalize hv : biV b = v at hcr hbt
  have : (∃ T, v = .type T) ∨ ∃ id, v = .builtin id := by
    subst hv
    cases b <;> first | exact .inl ⟨_, rfl⟩ | exact .inr ⟨_, rfl⟩
  rcases this with ⟨T, rfl⟩ | ⟨id, rfl⟩
  · exact pe_callTy hcr hg hm hbt ha n1 n2 (star_of hs) (hs2 _ _)
  · exact pe_callB hcr hg hm hbt ha n1 n2 (star_of hs) (hs2 _ _)
theorem fe_set0 {p : Pos} (hw : X.w = B.w) (hg : Gl X "set") (hm : X.mg "set" = none) : PE X (.Call (.Name "set" p) [] [] pos) (tV B W fun _ h => bis .set0 [] h) :=
  pe_mono (pe_callTy0 (cr_set (B := B) hw) hg hm (boot_bi .set0 rfl)) fun σV H Q ⟨ρ, h, σ, rp, fin⟩ => ⟨ρ, h, [], rp.hp, by simp only [RpL], fin.w0 nex_bis⟩
/-! list(range(..)) -/
def lrgE : List Dv → Hh → R Dv := fun vs h1 => match vs with
    | [.int n] => if decide (n ≤ most) && intOk n then .ok (.ref h1.length) (h1 ++ [.lst ((List.range n.toNat).map fun (i : Nat) => Dv.int (i : Int))]) else .no
    | [.int a, .int b] => if decide (b - a ≤ most) && intOk a && intOk b then .ok (.ref h1.length) (h1 ++ [.lst ((List.range (b - a).toNat).map fun (i : Nat) => Dv.int (a + (i : Int)))]) else .no
    | _ => .no
/-! methods -/
def mtT : Mt → String
  | .add => "set" | _ => "list"
theorem mtk_lst {m : Mt} {x : Dv} {h : Hh} (hm : m ≠ .add) (e : mtk m x h = true) : ∃ n xs, x = .ref n ∧ h[n]? = some (.lst xs) := by
  cases x with
  | ref n =>
    simp only [mtk] at e
    cases q : h[n]? with
    | none => rw [q] at e; cases e
    | some o => rw [q] at e; cases o <;> cases m <;> first | exact ⟨n, _, rfl, q⟩ | exact Bool.noConfusion e | exact absurd rfl hm
  | _ => cases e
theorem mtk_set {x : Dv} {h : Hh} (e : mtk .add x h = true) : ∃ n xs, x = .ref n ∧ h[n]? = some (.set xs) := by
  cases x with
  | ref n =>
    simp only [mtk] at e
    cases q : h[n]? with
    | none => rw [q] at e; cases e
    | some o => rw [q] at e; cases o <;> first | exact ⟨n, _, rfl, q⟩ | exact Bool.noConfusion e
  | _ => cases e
def bmE (m : Mt) (ea : Sg → Hh → R Dv) (el : Sg → Hh → R (List Dv)) (σ : Sg) (h : Hh) : R Dv := (ea σ h).bind fun x h1 => if mtk m x h1 then (el σ h1).bind fun vs h2 => mts m x vs h2 else .no
theorem bm_red {m : Mt} (hK : X.K = B.K) (hm : m ≠ .add) {r : V → List V → Hp → VK → Prop} (hr : r = rMt B m) (σV : L2.St) (H : Hp) (Q : VK) (t : tV B W (bmE m ea el) σV H Q) : tBM X.K "list" r (tV B W ea) (tVL B W el) σV H Q := by
  subst hr
  obtain ⟨ρ, h, σ, rp, fin⟩ := t
  refine ⟨ρ, h, σ, rp, fin.bind fun x h1 ρ1 H1 v _ l1 rp1 rx fin => ?_⟩
  split at fin
  · rename_i e
    obtain ⟨n, xs, rfl, q⟩ := mtk_lst hm e
    have rx' := rx
    simp only [Rp] at rx
    obtain ⟨p, rfl, ep⟩ := rx
    obtain ⟨ws, hp, lw⟩ := rp1.ob _ _ p q ep
    exact ⟨.inl ⟨rfl, ws, .inl (.inl hp)⟩, ρ1, h1, σ, rp.ltr l1 rp1, fin.bind fun vs h2 ρ2 H2 us _ l2 rp2 ru fin => ⟨ρ2, h2, _, vs, rp2, Rp.ltr rp1 l2 rx', ru, fin.w0 nex_mts⟩⟩
  · exact fin.elim
theorem fe_bm {m : Mt} {apos : Pos} (hK : X.K = B.K) (hw : X.w = B.w) (hm : m ≠ .pop) (hbase : attributeBase a (mtOf m) X.env (eval a X.env) = eval a X.env) (hline : (apos.endLine == pos.line) = true) (hs : isStar b = false) (ha : PE X a (tV B W ea)) (hl : PA X [b] (tVL B W el)) :
    PE X (.Call (.Attribute a (mtOf m) apos) [b] [] pos) (tV B W (bmE m ea el)) := by
  have few : ((backTo pos (starEach [b] X.env)).all (fun x => !x.1) && (backToKw pos (keywordEach [] X.env)).all (fun x => x.1.isSome) && decide (([b]).length + ([] : List Keyword).length + (if ([] : List Keyword).isEmpty then 0 else 1) < 30)) = true := by
    rw [star_of hs]
    unfold backTo
    simp [starEach, keywordEach, backToKw]
  have pl : (backTo pos (starEach [] X.env)).any (·.1) = false := by rfl
  cases m with
  | append => exact pe_mono (pe_bm PySem.F.plainAttrs_list slot_list_append type_list_append (mt_appendD (B := B)) ha hl hbase few hline (star_of hs) pl) (bm_red hK (by decide) rfl)
  | extend => exact pe_mono (pe_bm PySem.F.plainAttrs_list PySem.F.slot_list_extend PySem.F.type_list_extend (mt_extendD (B := B)) ha hl hbase few hline (star_of hs) pl) (bm_red hK (by decide) rfl)
  | pop => exact absurd rfl hm
  | add =>
    refine pe_mono (pe_sadd ha hl hbase few hline (star_of hs) pl) fun σV H Q ⟨ρ, h, σ, rp, fin⟩ => ⟨ρ, h, σ, rp, fin.bind fun x h1 ρ1 H1 v _ l1 rp1 rx fin => ?_⟩
    split at fin
    · rename_i e
      obtain ⟨n, xs, rfl, q⟩ := mtk_set e
      have rx' := rx
      simp only [Rp] at rx
      obtain ⟨p, rfl, ep⟩ := rx
      obtain ⟨S, k, hS, _⟩ := rp1.ob _ _ p q ep
      exact ⟨⟨p, S, k, rfl, by rw [hw]; exact hS⟩, ρ1, h1, σ, rp.ltr l1 rp1, fin.bind fun vs h2 ρ2 H2 us _ l2 rp2 ru fin => rsadd_of hw ⟨ρ2, h2, _, vs, rp2, Rp.ltr rp1 l2 rx', ru, fin.w0 nex_mts⟩⟩
    · exact fin.elim
theorem fe_bm0 {apos : Pos} (hK : X.K = B.K) (hbase : attributeBase a "pop" X.env (eval a X.env) = eval a X.env) (hline : (apos.endLine == pos.line) = true) (ha : PE X a (tV B W ea)) :
    PE X (.Call (.Attribute a "pop" apos) [] [] pos) (tV B W (bmE .pop ea fun _ h => .ok [] h)) := by
  refine pe_mono (pe_bm0 PySem.F.plainAttrs_list PySem.F.slot_list_pop PySem.F.type_list_pop (mt_popD (B := B)) ha hbase hline) fun σV H Q ⟨ρ, h, σ, rp, fin⟩ => ⟨ρ, h, σ, rp, fin.bind fun x h1 ρ1 H1 v _ l1 rp1 rx fin => ?_⟩
  split at fin
  · rename_i e
    obtain ⟨n, xs, rfl, q⟩ := mtk_lst (by decide) e
    have rx' := rx
    simp only [Rp] at rx
    obtain ⟨p, rfl, ep⟩ := rx
    obtain ⟨ws, hp, lw⟩ := rp1.ob _ _ p q ep
    exact ⟨.inl ⟨rfl, ws, .inl (.inl hp)⟩, ρ1, h1, _, [], rp1, rx', by simp only [RpL], fin.w0 nex_mts⟩
  · exact fin.elim
end
end FF
end

section
set_option Elab.async false
set_option linter.all false
set_option maxRecDepth 100000
set_option maxHeartbeats 4000000
/-! FE17: enumerate over a tuple. -/
namespace PySem
open Sem (wp)
theorem ff_enum_newB {v : Value} {o : Obj} {H : Heap → Prop} (B : Begins v o H) :
    Meets (Builtin.«enumerate.__new__» ⟨[.type "enumerate", v], []⟩) (fun _ R s => H s.heap ∧
      R (.ok (.ret (.ref (s.heap.push o).objs.size))) { s with heap := (s.heap.push o).push { cls := .type "enumerate", data := .fields #[.none, .bool false, .ref s.heap.objs.size, rawInt 0, .none, .none] } }) :=
  .of_wp fun prog w A R s h => by
    obtain ⟨hp, g, d, tk, os⟩ := s; obtain ⟨h1, h⟩ := h
    have hsub := sub_enumerate
    have q1 : ∀ {A' : Around} {E : Value → Shared → Prop} {Q : Value → Shared → Prop}, Q (.ref hp.objs.size) ⟨hp.push o, g, d, tk, os⟩ → wpAny (model prog w) A' (pyIter v) Q E ⟨hp, g, d, tk, os⟩ :=
      fun q => B.iter prog w _ _ ⟨hp, g, d, tk, os⟩ _ h1 q
    wp_walk using q1
    refine wpAny_stack_any fun st => wpAny_pure ?_
    split
    · rename_i c _ _ _ _ _
      cases (c == Value.type "enumerate")
      · wp_walk using q1
        exact ⟨_, rfl, h⟩
      · wp_walk using q1
        exact ⟨_, rfl, h⟩
    · wp_walk using q1
      exact ⟨_, rfl, h⟩
section
variable {prog : Program} {w : World} {A : Around} {E : Value → Shared → Prop} {s : Shared}
theorem ff_enum_begins {v : Value} {o : Obj} {H : Heap → Prop} {Q : Value → Shared → Prop} (B : Begins v o H) (h1 : H s.heap)
    (h : ∀ h', IsEnum h' (s.heap.objs.size + 1) s.heap.objs.size 0 .none → h'.get? s.heap.objs.size = some o → h'.objs.size = s.heap.objs.size + 2 →
      (∀ b o, s.heap.get? b = some o → h'.get? b = some o) → Q (.ref (s.heap.objs.size + 1)) { s with heap := h' }) :
    wpAny (model prog w) A (call (.type "enumerate") [v]) Q E s := by
  refine callType_new F.called_enumerate (by decide) (F.typeCall_enumerate_1 _) (F.newCall_enumerate_1 _) (fun obj => F.args_object_init_2 obj _) F.entry_enumerate_new
    (ff_enum_newB B) ⟨h1, ?_⟩
  have hz : (s.heap.push o).objs.size = s.heap.objs.size + 1 := Heap.size_push ..
  show _ ∧ _
  rw [hz]
  have he : IsEnum ((s.heap.push o).push { cls := .type "enumerate", data := .fields #[.none, .bool false, .ref s.heap.objs.size, rawInt 0, .none, .none] }) (s.heap.objs.size + 1) s.heap.objs.size 0 .none := by
    have := Heap.get?_push_size (s.heap.push o) (o := { cls := .type "enumerate", data := .fields #[.none, .bool false, .ref s.heap.objs.size, rawInt 0, .none, .none] }) rfl
    rw [hz] at this; exact this
  refine ⟨⟨_, he, rfl⟩, h _ he (Heap.get?_push_of_some _ (Heap.get?_push_size _ B.free)) (by rw [Heap.size_push, hz]) fun b o x => Heap.get?_push_of_some _ (Heap.get?_push_of_some _ x)⟩
end
end PySem
namespace FF
open PySem PySem.Spec PySem.SeqAt
open PyProof.Rows hiding St
open L2 hiding start It

/-- the tuple at a, each item in a new pair -/
def IteT (K : PySem.W.Frag) (a : Addr) : L2.It :=
  ⟨fun i H => ∃ (xs : List V) (x : V), SqT K H a xs ∧ xs[i]? = some x, fun i H v H' => ∃ T x, v = .ref T ∧ H T = none ∧ H' = upd H T (.tup [.int (i : Nat), x]) ∧ ∀ xs, SqT K H a xs → xs[i]? = some x, fun i H => ∃ xs : List V, SqT K H a xs ∧ xs.length ≤ i⟩
theorem turn_enumT {P : Program} {w : World} {K : PySem.W.Frag} {elts : List Expr} {kk : Nat} {tpos : Pos} (a e it : Addr) :
    Turn P w K (.Tuple elts kk tpos) (IteT K a) [e, it] e (fun i h => (∃ old, IsEnum h e it ((i : Nat) : Int) old) ∧ h.IsTupleIter it a i ∧ e ≠ it ∧ a ≠ it ∧ e ≠ a) where
  mem := by simp
  obj := fun i h st b hb => by
    obtain ⟨⟨old, he⟩, ⟨o, ho, hc, hd⟩, _⟩ := st
    have e' : b = e ∨ b = it := by simpa using hb
    rcases e' with z | z
    · rw [z]; exact ⟨_, he, fun v q => nomatch q⟩
    · rw [z]; exact ⟨o, ho, fun v q => by rw [hd] at q; cases q⟩
  keep := fun i h h' st k => let ⟨⟨old, he⟩, hi, hne⟩ := st; ⟨⟨old, k e (by simp) _ he⟩, hi.at fun o q => k it (by simp) o q, hne⟩
  item := by
    intro X hP hw hK hc i pins s σ H E I hf st hg
    subst hP hw hK
    obtain ⟨⟨old, he⟩, hit, hne, hai, hea⟩ := st
    obtain ⟨xs, x, hq, hx⟩ := hg
    obtain ⟨its, rv, p, hz⟩ := I.tuple hq
    obtain ⟨u, hu, ru⟩ := rv.get hx
    have hel : e < s.heap.objs.size := Heap.lt_size he
    have hil : it < s.heap.objs.size := by obtain ⟨_, q, _⟩ := hit; exact Heap.lt_size q
    have hlt : i < its.toArray.size := by
      have := (List.getElem?_eq_some_iff.mp hu).1
      simpa using this
    refine wpAny_pyNext_enum_itemD (Draws.tuple (prog := X.prog) (w := X.w) (A := X.A.in1) (I.ok.hd hc) it a hai its.toArray) he ⟨hit, p⟩ hlt hne (by simp; exact ⟨hne, hea⟩) fun x' h' tk hP ho hs' hT hsz hk => ?_
    have ex : x' = u := by
      have : its.toArray[i]? = some u := by simpa using hu
      rw [this] at hP
      cases hP
      rfl
    subst ex
    refine ⟨_, rfl, wpAny_letOwnedTupleGo_enum (s := { s with heap := h', toks := tk + 1 }) ho fun h'' he' sb => ?_⟩
    have hT2 : h''.get? s.heap.objs.size = some { cls := .type "tuple", data := .seq #[.int i tk, x'] } := (sb.2 _ (Nat.ne_of_gt hel)).trans hT
    have new : ObjOk X.prog X.w (upd H s.heap.objs.size (.tup [.int (i : Nat), x])) h'' s.heap.objs.size (.tup [.int (i : Nat), x]) :=
      ⟨by show 2 ≤ sizeLine; decide, [.int i tk, x'], .cons ⟨_, rfl⟩ (.cons ru .nil), ⟨_, hT2, rfl, _, rfl⟩⟩
    have I1 : Inv X pins σ (upd H s.heap.objs.size (.tup [.int (i : Nat), x])) { s with heap := h'', toks := tk + 1 } :=
      I.turnedNew (ch := [e, it]) (fun b ob hb q => (sb.2 b (fun z => hb (by simp [z]))).trans (hk b ob (fun z => hb (by simp [z])) (fun z => hb (by simp [z])) q)) hf (Nat.le_refl _) new
    refine ⟨.ref s.heap.objs.size, _, I1, rfl, ⟨_, x, rfl, I.hok.fresh (Nat.le_refl _), rfl, fun ys hy => by rw [I.tuple_inj hy hq]; exact hx⟩, ⟨⟨x', ?_⟩, hs'.1.at fun o q => (sb.2 it (Ne.symm hne)).trans q, hne, hai, hea⟩, fun b hb => ?_⟩
    · have e1 : ((i + 1 : Nat) : Int) = (i : Int) + 1 := by omega
      rw [e1]; exact he'
    · have hb' : b < s.heap.objs.size := by
        have e' : b = e ∨ b = it := by simpa using hb
        rcases e' with z | z
        · rw [z]; exact hel
        · rw [z]; exact hil
      rw [upd_ne (Nat.ne_of_lt hb')]
      exact (hf b hb).1
  done := by
    intro X hP hw hK hc i pins s σ H E I hf st hg
    subst hP hw hK
    obtain ⟨⟨old, he⟩, hit, hne, hai, hea⟩ := st
    obtain ⟨xs, hq, hx⟩ := hg
    obtain ⟨its, rv, p, hz⟩ := I.tuple hq
    obtain ⟨f0, f1, f2, f3, f4, f5⟩ := hf it (by simp)
    have hl := rv.length
    have hno : its.toArray[i]? = none := by simp; omega
    have D : Draws X.prog X.w X.A.in1 it [it, a] i (fun _ _ => True) (fun j h => j = i ∧ h.IsTupleIter it a i ∧ h.IsTuple a its.toArray) := {
      live := fun _ _ st => let ⟨o, ho, _⟩ := st.2.1; ⟨o, ho⟩
      frame := fun _ _ _ st hk => ⟨st.1, st.2.1.at fun o e => hk it (by simp) o e, st.2.2.at fun o e => hk a (by simp) o e⟩
      item := fun j s Q E hi st hQ => by
        have := st.1
        omega
      done := fun s Q E st hE => wpAny_nextOf_tuple_end (I.ok.hd hc) st.2.1 st.2.2 hno hE }
    exact wpAny_pyNext_enum_endD D he ⟨rfl, hit, p⟩ fun h' eb => ⟨rfl, I.turned (t' := s.toks) (fun b o hb q => eb b o hb q) f0 f1 f3 f4 f5⟩
  self := fun A i s Q E st h => let ⟨⟨_, he⟩, _⟩ := st; wpAny_pyIter_enum he h
def iEnumT (K : PySem.W.Frag) (ta : TA) : TI := fun σ H R => ta σ H fun vs H1 => ∃ a xs, vs = [.ref a] ∧ SqT K H1 a xs ∧ R (IteT K a) H1
theorem pi_enumT {X : Cx} {e : Expr} {ta : TA} {p pos tpos : Pos} {elts : List Expr} {kk : Nat} (hg : Gl X "enumerate") (hm : X.mg "enumerate" = none) (ha : PA X [e] ta) (hs : starEach [e] X.env = [(false, eval e X.env)] := by rfl) :
    PI X (.Tuple elts kk tpos) (.Call (.Name "enumerate" p) [e] [] pos) (iEnumT X.K ta) := by
  refine ⟨fun pins s σ H R I h => ?_⟩
  refine Call_ (ld_blt I hg hm boot_enumerate (PyProof.Rows.callWith_type1 (thn (ha.run pos pins s σ H _ I h) fun us s1 ⟨vs, H1, I1, r1, q1⟩ => ?_) hs rfl))
  obtain ⟨a, xs, ex, hq, q⟩ := q1
  subst ex
  cases r1 with
  | cons r rr =>
    cases rr
    cases r
    obtain ⟨its, rv, p', hz⟩ := I1.tuple hq
    have al : a < s1.heap.objs.size := by obtain ⟨_, q, _⟩ := id p'; exact Heap.lt_size q
    refine ff_enum_begins (begins_tuple a its.toArray) p' fun h' he hit hsz hk => wpAny_pyIter_enum he ?_
    have I2 : Inv X pins σ H1 { s1 with heap := h' } := I1.kept (t' := s1.toks) hk
    refine ⟨s1.heap.objs.size + 1, [s1.heap.objs.size + 1, s1.heap.objs.size], _, _, H1, rfl, I2, turn_enumT a (s1.heap.objs.size + 1) s1.heap.objs.size, ⟨⟨.none, he⟩, ⟨_, hit, rfl, rfl⟩, Nat.succ_ne_self _, Nat.ne_of_lt al, Nat.ne_of_gt (Nat.lt_succ_of_lt al)⟩, fun b hb => ?_, q⟩
    have e' : b = s1.heap.objs.size + 1 ∨ b = s1.heap.objs.size := by simpa using hb
    have hle : s1.heap.objs.size ≤ b := by
      rcases e' with z | z
      · rw [z]; exact Nat.le_add_right _ _
      · rw [z]; exact Nat.le_refl _
    exact I1.fpOk hle (I1.hok.fresh hle)
end FF
end

section
set_option Elab.async false
set_option linter.all false
set_option maxRecDepth 100000
set_option maxHeartbeats 4000000
/-! FE18: what is walked; targets; list(range(..)); isinstance; {}. -/
namespace FF
open PySem PySem.Spec PySem.SeqAt
open PyProof.Rows hiding St
open L2 hiding start It

/-- how a walk stands -/
def RpI (K : PySem.W.Frag) (ρ : List Addr) (H : Hp) : It → L2.It → Prop
  | .seq (.t xs), J => ∃ a vs, J = Itt K a ∧ SqT K H a vs ∧ RpL K ρ H xs vs
  | .seq (.l n), J => ∃ a, J = Itl K a ∧ ρ[n]? = some a
  | .ints lo c n, J => (c = 1 ∧ J = Itr lo n) ∨ J = Itc lo c n
  | .enum (.t xs), J => ∃ a vs, J = IteT K a ∧ SqT K H a vs ∧ RpL K ρ H xs vs
  | .enum (.l n), J => ∃ a, J = Ite K a ∧ ρ[n]? = some a
  | .zip (.t xs) (.t ys), J => ∃ a b vs us, J = RZ.ItzT K a b ∧ SqT K H a vs ∧ RpL K ρ H xs vs ∧ SqT K H b us ∧ RpL K ρ H ys us
  | .zip (.l m) (.l n), J => ∃ a b, J = Itz K a b ∧ ρ[m]? = some a ∧ ρ[n]? = some b
  | _, _ => False
section
variable {K : PySem.W.Frag} {w : World} {P : Program} {ρ ρ' : List Addr} {H H' : Hp} {h h' : Hh}
theorem RpI.ltr (r : RpH K w P ρ H h) (a : Ltr ρ H ρ' H') : ∀ {i : It} {J : L2.It}, RpI K ρ H i J → RpI K ρ' H' i J
  | .seq (.t xs), _, ⟨x, vs, e, t, l⟩ => ⟨x, vs, e, SqT.ltr r a t, RpL.ltr r a l⟩
  | .seq (.l n), _, ⟨x, e, q⟩ => ⟨x, e, a.get q⟩
  | .ints _ _ _, _, q => q
  | .enum (.t xs), _, ⟨x, vs, e, t, l⟩ => ⟨x, vs, e, SqT.ltr r a t, RpL.ltr r a l⟩
  | .enum (.l n), _, ⟨x, e, q⟩ => ⟨x, e, a.get q⟩
  | .zip (.t xs) (.t ys), _, ⟨x, y, vs, us, e, t, l, t2, l2⟩ => ⟨x, y, vs, us, e, SqT.ltr r a t, RpL.ltr r a l, SqT.ltr r a t2, RpL.ltr r a l2⟩
  | .zip (.l m) (.l n), _, ⟨x, y, e, q, q2⟩ => ⟨x, y, e, a.get q, a.get q2⟩
theorem look_l {n : Nat} {xs : List Dv} (r : RpH K w P ρ H h) (e : Src.look h (.l n) = some xs) {a : Addr} (q : ρ[n]? = some a) : ∃ vs, SqL K H a vs ∧ RpL K ρ H xs vs := by
  simp only [Src.look] at e
  split at e
  · rename_i ys q2
    cases e
    obtain ⟨vs, hp, l⟩ := r.ob _ _ a q2 q
    exact ⟨vs, .inl (.inl hp), l⟩
  · rename_i ys q2
    cases e
    obtain ⟨o, vs, hp, l⟩ := r.ob _ _ a q2 q
    exact ⟨vs, .inl (.inr ⟨o, hp⟩), l⟩
  · cases e
theorem pairT {i : Int} {T : Addr} {d : Dv} {v : V} (r : RpH K w P ρ H h) (hT : H T = none) (x : Rp K ρ H d v) : Ltr ρ H ρ (upd H T (.tup [.int i, v])) ∧ RpH K w P ρ (upd H T (.tup [.int i, v])) h ∧ Rp K ρ (upd H T (.tup [.int i, v])) (.tup [.int i, d]) (.ref T) := by
  refine ⟨Ltr.newT hT, r.newT hT, RpL.ref ?_ (.inl (.inl upd_same))⟩
  simp only [RpL]
  exact ⟨_, _, rfl, by simp only [Rp], _, _, rfl, Rp.ltr r (Ltr.newT hT) x, rfl⟩
theorem pairZ {T : Addr} {d e : Dv} {v u : V} (r : RpH K w P ρ H h) (hT : H T = none) (x : Rp K ρ H d v) (y : Rp K ρ H e u) : Ltr ρ H ρ (upd H T (.tup [v, u])) ∧ RpH K w P ρ (upd H T (.tup [v, u])) h ∧ Rp K ρ (upd H T (.tup [v, u])) (.tup [d, e]) (.ref T) := by
  refine ⟨Ltr.newT hT, r.newT hT, RpL.ref ?_ (.inl (.inl upd_same))⟩
  simp only [RpL]
  exact ⟨_, _, rfl, Rp.ltr r (Ltr.newT hT) x, _, _, rfl, Rp.ltr r (Ltr.newT hT) y, rfl⟩
/-- a turn -/
theorem It.turn {it : It} {J : L2.It} {i : Nat} {o : Option Dv} (r : RpH K w P ρ H h) (q : RpI K ρ H it J) (e : it.at h i = some o) : match o with
    | none => J.stop i H
    | some d => J.go i H ∧ ∀ x H', J.yld i H x H' → Ltr ρ H ρ H' ∧ RpH K w P ρ H' h ∧ Rp K ρ H' d x := by
  have seq : ∀ {xs : List Dv} {vs : List V}, RpL K ρ H xs vs → xs[i]? = o → match o with
      | none => vs.length ≤ i
      | some d => ∃ v, vs[i]? = some v ∧ Rp K ρ H d v := fun {xs vs} l e => by
    cases o with
    | none => exact List.getElem?_eq_none_iff.mp (l.none e)
    | some d => exact l.get e
  match it, q, e with
  | .seq (.t xs), ⟨a, vs, eJ, t, l⟩, e =>
    subst eJ
    simp only [It.at, Src.look, Option.map_some, Option.some.injEq] at e
    have s := seq l e
    cases o with
    | none => exact ⟨vs, t, s⟩
    | some d =>
      obtain ⟨v, h1, h2⟩ := s
      refine ⟨⟨vs, v, t, h1⟩, fun x H' y => ?_⟩
      obtain ⟨rfl, y⟩ := y
      have := y vs t
      rw [h1] at this
      cases this
      exact ⟨Ltr.refl, r, h2⟩
  | .seq (.l n), ⟨a, eJ, qa⟩, e =>
    subst eJ
    simp only [It.at] at e
    obtain ⟨xs, e1, e⟩ := Option.map_eq_some_iff.mp e
    obtain ⟨vs, t, l⟩ := look_l r e1 qa
    have s := seq l e
    cases o with
    | none => exact ⟨vs, t, s⟩
    | some d =>
      obtain ⟨v, h1, h2⟩ := s
      refine ⟨⟨vs, v, t, h1⟩, fun x H' y => ?_⟩
      obtain ⟨rfl, y⟩ := y
      have := y vs t
      rw [h1] at this
      cases this
      exact ⟨Ltr.refl, r, h2⟩
  | .ints lo c n, q, e =>
    simp only [It.at, Option.some.injEq] at e
    by_cases hi : i < n
    · rw [if_pos hi] at e
      subst e
      rcases q with ⟨rfl, rfl⟩ | rfl
      · refine ⟨hi, fun x H' y => ?_⟩
        obtain ⟨rfl, rfl⟩ := y
        exact ⟨Ltr.refl, r, by simp only [Rp]; rw [Int.mul_one]⟩
      · refine ⟨hi, fun x H' y => ?_⟩
        obtain ⟨rfl, rfl⟩ := y
        exact ⟨Ltr.refl, r, by simp only [Rp]⟩
    · rw [if_neg hi] at e
      subst e
      rcases q with ⟨rfl, rfl⟩ | rfl
      · exact Nat.le_of_not_lt hi
      · exact Nat.le_of_not_lt hi
  | .enum (.t xs), ⟨a, vs, eJ, t, l⟩, e =>
    subst eJ
    simp only [It.at, Src.look, Option.map_some, Option.some.injEq] at e
    cases q : xs[i]? with
    | none =>
      rw [q] at e
      cases e
      exact ⟨vs, t, List.getElem?_eq_none_iff.mp (l.none q)⟩
    | some d =>
      rw [q] at e
      cases e
      obtain ⟨v, h1, h2⟩ := l.get q
      refine ⟨⟨vs, v, t, h1⟩, fun x H' y => ?_⟩
      obtain ⟨T, u, rfl, hT, rfl, y⟩ := y
      have := y vs t
      rw [h1] at this
      cases this
      exact pairT r hT h2
  | .enum (.l n), ⟨a, eJ, qa⟩, e =>
    subst eJ
    simp only [It.at] at e
    obtain ⟨xs, e1, e⟩ := Option.map_eq_some_iff.mp e
    obtain ⟨vs, t, l⟩ := look_l r e1 qa
    cases q : xs[i]? with
    | none =>
      rw [q] at e
      cases e
      exact ⟨vs, t, List.getElem?_eq_none_iff.mp (l.none q)⟩
    | some d =>
      rw [q] at e
      cases e
      obtain ⟨v, h1, h2⟩ := l.get q
      refine ⟨⟨vs, v, t, h1⟩, fun x H' y => ?_⟩
      obtain ⟨T, u, rfl, hT, rfl, y⟩ := y
      have := y vs t
      rw [h1] at this
      cases this
      exact pairT r hT h2
  | .zip (.t xs) (.t ys), ⟨a, b, vs, us, eJ, t, l, t2, l2⟩, e =>
    subst eJ
    simp only [It.at, Src.look, Option.some.injEq] at e
    cases q : xs[i]? with
    | none =>
      rw [q] at e
      cases e
      exact ⟨vs, us, t, t2, .inl (List.getElem?_eq_none_iff.mp (l.none q))⟩
    | some d =>
      cases q2 : ys[i]? with
      | none =>
        rw [q, q2] at e
        cases e
        exact ⟨vs, us, t, t2, .inr (List.getElem?_eq_none_iff.mp (l2.none q2))⟩
      | some d2 =>
        rw [q, q2] at e
        cases e
        obtain ⟨v, h1, h2⟩ := l.get q
        obtain ⟨v2, h3, h4⟩ := l2.get q2
        refine ⟨⟨vs, us, v, v2, t, t2, h1, h3⟩, fun x H' y => ?_⟩
        obtain ⟨T, u, u2, rfl, hT, rfl, y, y2⟩ := y
        have := y vs t
        rw [h1] at this
        cases this
        have := y2 us t2
        rw [h3] at this
        cases this
        exact pairZ r hT h2 h4
  | .zip (.l m) (.l n), ⟨a, b, eJ, qa, qb⟩, e =>
    subst eJ
    simp only [It.at] at e
    cases e1 : Src.look h (.l m) with
    | none => rw [e1] at e; cases e
    | some xs =>
      cases e2 : Src.look h (.l n) with
      | none => rw [e1, e2] at e; cases e
      | some ys =>
        rw [e1, e2] at e
        simp only [Option.some.injEq] at e
        obtain ⟨vs, t, l⟩ := look_l r e1 qa
        obtain ⟨us, t2, l2⟩ := look_l r e2 qb
        cases q : xs[i]? with
        | none =>
          rw [q] at e
          cases e
          exact ⟨vs, us, t, t2, .inl (List.getElem?_eq_none_iff.mp (l.none q))⟩
        | some d =>
          cases q2 : ys[i]? with
          | none =>
            rw [q, q2] at e
            cases e
            exact ⟨vs, us, t, t2, .inr (List.getElem?_eq_none_iff.mp (l2.none q2))⟩
          | some d2 =>
            rw [q, q2] at e
            cases e
            obtain ⟨v, h1, h2⟩ := l.get q
            obtain ⟨v2, h3, h4⟩ := l2.get q2
            refine ⟨⟨vs, us, v, v2, t, t2, h1, h3⟩, fun x H' y => ?_⟩
            obtain ⟨T, u, u2, rfl, hT, rfl, y, y2⟩ := y
            have := y vs t
            rw [h1] at this
            cases this
            have := y2 us t2
            rw [h3] at this
            cases this
            exact pairZ r hT h2 h4
  | .zip (.t _) (.l _), q, _ => exact q.elim
  | .zip (.l _) (.t _), q, _ => exact q.elim
end
end FF
end

section
set_option Elab.async false
set_option linter.all false
set_option maxRecDepth 100000
set_option maxHeartbeats 4000000
/-! FE19: walks, targets, comprehensions. -/
namespace FF
open PySem PySem.Spec PySem.SeqAt
open PyProof.Rows hiding St
open L2 hiding start It

def tVI (B : Bd) (W : WX) (ev : Sg → Hh → R It) : TI := fun σV H Q => ∃ ρ h σ, B.S ρ H h σ σV ∧ Fin B W σV ρ H (RpI B.K) (ev σ h) Q
def tVTs (B : Bd) (W : WX) (ev : Sg → Hh → R Bool) : TT := fun σV H Q => ∃ ρ h σ, B.S ρ H h σ σV ∧ Fin B W σV ρ H relEq (ev σ h) Q
/-- a target; L: the slots that it may write -/
def tVG (B : Bd) (L : List Nat) (ev : Dv → Sg → Hh → R Sg) : TG := fun v σV H Q => ∃ ρ h σ d, B.S ρ H h σ σV ∧ Rp B.K ρ H d v ∧ Fin B W0 [] ρ H (fun ρ' H' σ' σV' => RpS B.K ρ' H' σ' σV' ∧ L2.wipe σV' L = L2.wipe σV L) (ev d σ h) Q
def tVGs (B : Bd) (L : List Nat) (ev : List Dv → Sg → Hh → R Sg) : TGs := fun vs σV H Q => ∃ ρ h σ ds, B.S ρ H h σ σV ∧ RpL B.K ρ H ds vs ∧ Fin B W0 [] ρ H (fun ρ' H' σ' σV' => RpS B.K ρ' H' σ' σV' ∧ L2.wipe σV' L = L2.wipe σV L) (ev ds σ h) Q

theorem wipe_set {σ : L2.St} {i : Nat} {x : Option V} : ∀ L : List Nat, L2.wipe (σ.set i x) L = (if i ∈ L then L2.wipe σ L else (L2.wipe σ L).set i x)
  | [] => by simp [L2.wipe]
  | j :: L => by
    show (L2.wipe (σ.set i x) L).set j none = _
    rw [wipe_set L]
    by_cases h1 : i ∈ L
    · rw [if_pos h1, if_pos (List.mem_cons_of_mem _ h1)]
      rfl
    · rw [if_neg h1]
      by_cases h2 : i = j
      · subst h2
        rw [if_pos List.mem_cons_self, List.set_set]
        rfl
      · rw [if_neg (by simp [h1, h2]), List.set_comm _ _ h2]
        rfl
theorem wipe_wipe {σ : L2.St} : ∀ M L : List Nat, (∀ i ∈ M, i ∈ L) → L2.wipe (L2.wipe σ M) L = L2.wipe σ L
  | [], _, _ => rfl
  | i :: M, L, h => by
    show L2.wipe ((L2.wipe σ M).set i none) L = _
    rw [wipe_set, if_pos (h i List.mem_cons_self), wipe_wipe M L fun j m => h j (List.mem_cons_of_mem _ m)]

section
variable {B : Bd} {X : Cx} {W : WX} {ea eb ec : Sg → Hh → R Dv} {a b c tg : Expr} {pos p : Pos}
theorem nex_ofI {o : Option It} {h : Hh} : ∀ x h', (R.of o h) ≠ .ex x h' := fun x h' e => by cases o <;> cases e
theorem srcOf_t {h : Hh} {d : Dv} {xs : List Dv} (e : srcOf h d = some (.t xs)) : d = .tup xs := by
  cases d <;> simp only [srcOf] at e <;> first | cases e | skip
  · rfl
  · split at e <;> cases e
theorem srcOf_l {h : Hh} {d : Dv} {n : Nat} (e : srcOf h d = some (.l n)) : d = .ref n ∧ ∃ xs, h[n]? = some (.lst xs) ∨ h[n]? = some (.fro xs) := by
  cases d <;> simp only [srcOf] at e <;> first | cases e | skip
  split at e
  · rename_i q
    cases e
    exact ⟨rfl, _, .inl q⟩
  · rename_i q
    cases e
    exact ⟨rfl, _, .inr q⟩
  · cases e
theorem src_list {ρ : List Addr} {H : Hp} {h : Hh} {n : Nat} {v : V} (rp : B.H ρ H h) (r : Rp B.K ρ H (.ref n) v) (q : ∃ xs, h[n]? = some (.lst xs) ∨ h[n]? = some (.fro xs)) : ∃ p vs, v = .ref p ∧ SqL B.K H p vs ∧ ρ[n]? = some p := by
  simp only [Rp] at r
  obtain ⟨p, rfl, ep⟩ := r
  obtain ⟨xs, q | q⟩ := q
  · obtain ⟨vs, hp, l⟩ := rp.ob _ _ p q ep
    exact ⟨p, vs, rfl, .inl (.inl hp), ep⟩
  · obtain ⟨o, vs, hp, l⟩ := rp.ob _ _ p q ep
    exact ⟨p, vs, rfl, .inl (.inr ⟨o, hp⟩), ep⟩
theorem fi_seq (hK : X.K = B.K) (ha : PE X a (tV B W ea)) : PI X tg a (tVI B W fun σ h => (ea σ h).bind fun v h1 => R.of ((srcOf h1 v).map .seq) h1) := by
  refine pi_mono (pi_or2 (pi_list ha) (pi_tup ha)) fun σV H Q ⟨ρ, h, σ, rp, fin⟩ => ?_
  rw [hK]
  cases q : ea σ h with
  | ok v h1 =>
    cases q2 : srcOf h1 v with
    | none =>
      simp only [q, R.bind_ok, q2] at fin
      exact fin.elim
    | some s =>
      simp only [q, R.bind_ok, q2] at fin
      have fin : Fin B W σV ρ H (RpI B.K) (.ok (.seq s) h1) Q := fin
      cases s with
      | t xs =>
        refine .inr ⟨ρ, h, σ, rp, ?_⟩
        rw [q]
        cases srcOf_t q2
        intro ρ1 H1 x l1 rp1 rx
        simp only [Rp] at rx
        obtain ⟨p, vs, rfl, t, l⟩ := rx
        exact ⟨p, rfl, ⟨vs, t⟩, fin ρ1 H1 _ l1 rp1 ⟨p, vs, rfl, t, l⟩⟩
      | l n =>
        refine .inl ⟨ρ, h, σ, rp, ?_⟩
        rw [q]
        obtain ⟨rfl, q3⟩ := srcOf_l q2
        intro ρ1 H1 x l1 rp1 rx
        obtain ⟨p, vs, rfl, t, ep⟩ := src_list rp1 rx q3
        exact ⟨p, rfl, ⟨vs, t⟩, fin ρ1 H1 _ l1 rp1 ⟨p, rfl, ep⟩⟩
  | ex x h1 =>
    simp only [q, R.bind_ex] at fin
    refine .inl ⟨ρ, h, σ, rp, ?_⟩
    rw [q]
    exact fin
  | no =>
    simp only [q, R.bind_no] at fin
    exact fin.elim
theorem intOk_of {i : Int} (h : intOk i = true) : -(2 ^ 62) ≤ i ∧ i < 2 ^ 62 := by
  simp only [intOk, Bool.and_eq_true, decide_eq_true_eq] at h
  exact h
theorem fi_rng1 (hg : Gl X "range") (hm : X.mg "range" = none) (hs : isStar a = false) (ha : PE X a (tV B W ea)) : PI X tg (.Call (.Name "range" p) [a] [] pos) (tVI B W fun σ h => (ea σ h).bind fun v h1 => match v with
    | .int n => if intOk n then .ok (.ints 0 1 n.toNat) h1 else .no
    | _ => .no) :=
  pi_mono (pi_range1 hg hm (pa_cons ha pa_nil (star_of hs)) (star_of hs)) fun σV H Q ⟨ρ, h, σ, rp, fin⟩ => ⟨ρ, h, σ, rp, fin.bind fun x h1 ρ1 H1 v _ l1 rp1 rx fin => by
    cases x with
    | int n =>
      simp only [Rp] at rx
      subst rx
      simp only at fin
      split at fin
      · rename_i hn
        obtain ⟨q1, q2⟩ := intOk_of hn
        exact ⟨n, rfl, q1, q2, fin.now rp1 (.inl ⟨rfl, rfl⟩)⟩
      · exact fin.elim
    | _ => exact fin.elim⟩
theorem fi_rng2 (hg : Gl X "range") (hm : X.mg "range" = none) (hs : isStar a = false) (hs2 : isStar b = false) (ha : PE X a (tV B W ea)) (hb : PE X b (tV B W eb)) : PI X tg (.Call (.Name "range" p) [a, b] [] pos) (tVI B W fun σ h => (ea σ h).bind fun x h1 => (eb σ h1).bind fun y h2 => match x, y with
    | .int i, .int j => if intOk i && intOk j then .ok (.ints i 1 (j - i).toNat) h2 else .no
    | _, _ => .no) :=
  pi_mono (pi_range2 hg hm (pa_cons ha (pa_cons hb pa_nil (star_of hs2)) (star_of hs)) (by rw [star_of hs, star_of hs2]; rfl) (star_of hs2)) fun σV H Q ⟨ρ, h, σ, rp, fin⟩ => ⟨ρ, h, σ, rp, fin.bind fun x h1 ρ1 H1 v _ l1 rp1 rx fin => ⟨ρ1, h1, σ, rp.ltr l1 rp1, fin.bind fun y h2 ρ2 H2 u _ l2 rp2 ry fin => by
    cases x with
    | int i =>
      cases y with
      | int j =>
        simp only [Rp] at rx ry
        subst rx ry
        simp only at fin
        split at fin
        · rename_i hn
          simp only [Bool.and_eq_true] at hn
          obtain ⟨q1, q2⟩ := intOk_of hn.1
          obtain ⟨q3, q4⟩ := intOk_of hn.2
          exact ⟨i, j, rfl, ⟨q1, q2, q3, q4⟩, fin.now rp2 (.inl ⟨rfl, rfl⟩)⟩
        · exact fin.elim
      | _ => exact fin.elim
    | _ => exact fin.elim⟩⟩
theorem fi_enum {elts : List Expr} {kk : Nat} {tpos : Pos} (hK : X.K = B.K) (hg : Gl X "enumerate") (hm : X.mg "enumerate" = none) (hs : isStar a = false) (ha : PE X a (tV B W ea)) : PI X (.Tuple elts kk tpos) (.Call (.Name "enumerate" p) [a] [] pos) (tVI B W fun σ h => (ea σ h).bind fun v h1 => R.of ((srcOf h1 v).map .enum) h1) := by
  refine pi_mono (pi_or2 (pi_enum hg hm (pa_cons ha pa_nil (star_of hs)) (star_of hs)) (pi_enumT hg hm (pa_cons ha pa_nil (star_of hs)) (star_of hs))) fun σV H Q ⟨ρ, h, σ, rp, fin⟩ => ?_
  rw [hK]
  cases q : ea σ h with
  | ok v h1 =>
    cases q2 : srcOf h1 v with
    | none =>
      simp only [q, R.bind_ok, q2] at fin
      exact fin.elim
    | some s =>
      simp only [q, R.bind_ok, q2] at fin
      have fin : Fin B W σV ρ H (RpI B.K) (.ok (.enum s) h1) Q := fin
      cases s with
      | t xs =>
        refine .inr ⟨ρ, h, σ, rp, ?_⟩
        rw [q]
        cases srcOf_t q2
        intro ρ1 H1 x l1 rp1 rx
        simp only [Rp] at rx
        obtain ⟨p, vs, rfl, t, l⟩ := rx
        exact ⟨p, vs, rfl, t, fin ρ1 H1 _ l1 rp1 ⟨p, vs, rfl, t, l⟩⟩
      | l n =>
        refine .inl ⟨ρ, h, σ, rp, ?_⟩
        rw [q]
        obtain ⟨rfl, q3⟩ := srcOf_l q2
        intro ρ1 H1 x l1 rp1 rx
        obtain ⟨p, vs, rfl, t, ep⟩ := src_list rp1 rx q3
        exact ⟨p, vs, rfl, t, fin ρ1 H1 _ l1 rp1 ⟨p, rfl, ep⟩⟩
  | ex x h1 =>
    simp only [q, R.bind_ex] at fin
    refine .inl ⟨ρ, h, σ, rp, ?_⟩
    rw [q]
    exact fin
  | no =>
    simp only [q, R.bind_no] at fin
    exact fin.elim
def zipE (x y : Dv) (h2 : Hh) : R It := match srcOf h2 x, srcOf h2 y with
    | some (.t s), some (.t t) => .ok (.zip (.t s) (.t t)) h2
    | some (.l s), some (.l t) => .ok (.zip (.l s) (.l t)) h2
    | _, _ => .no
theorem fi_zip {elts : List Expr} {kk : Nat} {tpos : Pos} (hK : X.K = B.K) (hg : Gl X "zip") (hm : X.mg "zip" = none) (hs : isStar a = false) (hs2 : isStar b = false) (ha : PE X a (tV B W ea)) (hb : PE X b (tV B W eb)) : PI X (.Tuple elts kk tpos) (.Call (.Name "zip" p) [a, b] [] pos) (tVI B W fun σ h => (ea σ h).bind fun x h1 => (eb σ h1).bind fun y h2 => zipE x y h2) :=
  pi_mono (RZ.pi_zipA hg hm (pa_cons ha (pa_cons hb pa_nil (star_of hs2)) (star_of hs)) (star_of hs) (by rw [star_of hs2]; rfl)) fun σV H Q ⟨ρ, h, σ, rp, fin⟩ => ⟨ρ, h, σ, rp, fin.bind fun x h1 ρ1 H1 v _ l1 rp1 rx fin1 => ⟨ρ1, h1, σ, rp.ltr l1 rp1, fin1.bind fun y h2 ρ2 H2 u _ l2 rp2 ry fin2 => by
    rw [hK]
    have rx := Rp.ltr rp1 l2 rx
    unfold zipE at fin2
    split at fin2
    · rename_i s t e1 e2
      cases srcOf_t e1
      cases srcOf_t e2
      simp only [Rp] at rx ry
      obtain ⟨p, vs, rfl, t, l⟩ := rx
      obtain ⟨p', us, rfl, t', l'⟩ := ry
      exact ⟨p, p', vs, us, rfl, .inr ⟨t, t', fin2.now rp2 ⟨p, p', vs, us, rfl, t, l, t', l'⟩⟩⟩
    · rename_i s t e1 e2
      obtain ⟨rfl, q1⟩ := srcOf_l e1
      obtain ⟨rfl, q2⟩ := srcOf_l e2
      obtain ⟨p, vs, rfl, t, ep⟩ := src_list rp2 rx q1
      obtain ⟨p', us, rfl, t', ep'⟩ := src_list rp2 ry q2
      exact ⟨p, p', vs, us, rfl, .inl ⟨t, t', fin2.now rp2 ⟨p, p', rfl, ep, ep'⟩⟩⟩
    · exact fin2.elim⟩⟩

/-! ### targets -/
theorem fg_name {i : Nat} {x : Str} {L : List Nat} (hN : X.N.Nodup) (hi : X.N[i]? = some x) (hx : Loc X.env.scope x) (hf : X.fn x = true ∨ X.env.scope.names.lookup x = some .local) (hL : i ∈ L) : PG X (.Name x p) (tVG B L fun v σ h => .ok (σ.set i (some v)) h) :=
  pg_mono (pg_name hN hi hx hf) fun v σV H Q ⟨ρ, h, σ, d, rp, rd, fin⟩ => fin.now rp.hp ⟨rp.sl.set i rd, by rw [wipe_set, if_pos hL]⟩
theorem fg_nil {L : List Nat} : PGs X [] (tVGs B L fun vs σ h => match vs with
    | [] => .ok σ h
    | _ => .no) := ⟨fun pins s σV H vs us Q I r ⟨ρ, h, σ, ds, rp, rd, fin⟩ => pgs_nil.run pins s σV H vs us Q I r (by
    cases ds with
    | nil =>
      simp only [RpL] at rd
      subst rd
      exact ⟨rfl, fin.now rp.hp ⟨rp.sl, rfl⟩⟩
    | cons => exact fin.elim)⟩
theorem fg_cons {ts : List Expr} {L : List Nat} {eg : Dv → Sg → Hh → R Sg} {er : List Dv → Sg → Hh → R Sg} (hs : isStar tg = false) (h1 : PG X tg (tVG B L eg)) (h2 : PGs X ts (tVGs B L er)) : PGs X (tg :: ts) (tVGs B L fun vs σ h => match vs with
    | v :: r => (eg v σ h).bind fun σ1 h1 => er r σ1 h1
    | [] => .no) := ⟨fun pins s σV H vs us Q I r ⟨ρ, h, σ, ds, rp, rd, fin⟩ => (pgs_cons h1 h2 (by rw [assign_of hs]; rfl)).run pins s σV H vs us Q I r (by
    cases ds with
    | nil => exact fin.elim
    | cons d ds =>
      simp only [RpL] at rd
      obtain ⟨v, rr, rfl, x, l⟩ := rd
      refine ⟨v, rr, rfl, ρ, h, σ, d, rp, x, fin.bind fun σ1 ha ρ1 H1 σV1 _ l1 rp1 rx fin => ?_⟩
      refine ⟨ρ1, ha, σ1, ds, ⟨rp1, rx.1⟩, RpL.ltr rp.hp l1 l, ?_⟩
      cases q : er ds σ1 ha with
      | ok σ2 hb =>
        rw [q] at fin
        exact fun ρ' H' x l rp ⟨q1, q2⟩ => fin ρ' H' x l rp ⟨q1, q2.trans rx.2⟩
      | ex x hb =>
        rw [q] at fin
        exact fin
      | no =>
        rw [q] at fin
        exact fin)⟩
theorem fg_tup {ts : List Expr} {L : List Nat} {k n : Nat} {er : List Dv → Sg → Hh → R Sg} (hK : X.K = B.K) (hc : X.calm = true) (hst : (assignEach ts X.env).findIdx? (·.1) = none) (hn : (assignEach ts X.env).length = n) (h : PGs X ts (tVGs B L er)) : PG X (.Tuple ts k pos) (tVG B L fun v σ h => match v with
    | .tup xs => if decide (xs.length = n) then er xs σ h else .no
    | _ => .no) :=
  pg_mono (pg_tup hc h hn hst) fun v σV H Q ⟨ρ, h, σ, d, rp, rd, fin⟩ => by
    cases d with
    | tup xs =>
      simp only [Rp] at rd
      obtain ⟨a, vs, rfl, t, l⟩ := rd
      simp only at fin
      split at fin
      · rename_i hl
        exact ⟨a, vs, rfl, by rw [hK]; exact t, by rw [← l.len]; exact of_decide_eq_true hl, ρ, h, σ, xs, rp, l, fin⟩
      · exact fin.elim
    | _ => exact fin.elim
theorem fg_sub {L : List Nat} (hK : X.K = B.K) (hw : X.w = B.w) (hP : X.prog = B.P) (hu : X.A.units + 66 < cLine) (ha : PE X a (tV B W ea)) (hb : PE X b (tV B W eb)) (hs : ∀ v, assign (.Subscript a b pos) X.env v = (do
      let ov ← holding [v] (eval a X.env)
      let iv ← holding [v, ov] (eval b X.env)
      standAt pos
      holding [v, ov, iv] (setItem ov iv v)
      release [v, ov, iv] [])) : PG X (.Subscript a b pos) (tVG B L fun v σ h => (ea σ h).bind fun x h1 => (eb σ h1).bind fun y h2 => (sets x y v h2).bind fun _ h3 => .ok σ h3) :=
  pg_mono (pg_sub ha hb (set_sets hK hw hP hu) hs) fun v σV H Q ⟨ρ, h, σ, d, rp, rd, fin⟩ => ⟨ρ, h, σ, rp, (fin.ofW0 (W := W) (σV := σV)).bind fun x h1 ρ1 H1 v _ l1 rp1 rx fin => ⟨ρ1, h1, σ, rp.ltr l1 rp1, fin.bind fun y h2 ρ2 H2 u _ l2 rp2 ry fin => by
    refine ⟨ρ2, h2, x, y, d, rp2, Rp.ltr rp1 l2 rx, ry, Rp.ltr rp1 l2 (Rp.ltr rp.hp l1 rd), ?_⟩
    cases q : sets x y d h2 with
    | ok _ h3 =>
      simp only [q, R.bind_ok] at fin
      exact fun H' l3 rp3 => fin ρ2 H' _ l3 rp3 ⟨RpS.ltr rp2 l3 (RpS.ltr rp1 l2 (RpS.ltr rp.hp l1 rp.sl)), rfl⟩
    | ex x h3 =>
      exfalso
      unfold sets at q
      repeat' split at q
      all_goals cases q
    | no =>
      simp only [q, R.bind_no] at fin
      exact fin⟩⟩
end
end FF
end

section
set_option Elab.async false
set_option linter.all false
set_option maxRecDepth 100000
set_option maxHeartbeats 4000000
/-! FE20: comprehensions; list(range(..)); isinstance; {}. -/
namespace FF
open PySem PySem.Spec PySem.SeqAt
open PyProof.Rows hiding St
open L2 hiding start It

/-- more places, the same tuples -/
structure Lt2 (K : PySem.W.Frag) (ρ : List Addr) (H : Hp) (ρ' : List Addr) (H' : Hp) : Prop where
  pre : ∃ l, ρ' = ρ ++ l
  tup : ∀ a xs, SqT K H a xs → SqT K H' a xs
section
variable {K : PySem.W.Frag} {w : World} {P : Program} {ρ ρ' : List Addr} {H H' : Hp} {h h' : Hh}
theorem Lt2.get (a : Lt2 K ρ H ρ' H') {n : Nat} {x : Addr} (e : ρ[n]? = some x) : ρ'[n]? = some x := by
  obtain ⟨l, q⟩ := a.pre
  rw [q, List.getElem?_append_left (List.getElem?_eq_some_iff.mp e).1, e]
mutual
theorem Rp.lt2 (a : Lt2 K ρ H ρ' H') : ∀ {d : Dv} {v : V}, Rp K ρ H d v → Rp K ρ' H' d v
  | .non, _, x => by simpa only [Rp] using x
  | .bl _, _, x => by simpa only [Rp] using x
  | .int _, _, x => by simpa only [Rp] using x
  | .str _, _, x => by simpa only [Rp] using x
  | .tup xs, _, x => by
    simp only [Rp] at x ⊢
    obtain ⟨b, vs, e, t, l⟩ := x
    exact ⟨b, vs, e, a.tup _ _ t, RpL.lt2 a l⟩
  | .ref n, _, x => by
    simp only [Rp] at x ⊢
    obtain ⟨b, e, q⟩ := x
    exact ⟨b, e, a.get q⟩
  | .exn _ _, _, x => by simp only [Rp] at x
theorem RpL.lt2 (a : Lt2 K ρ H ρ' H') : ∀ {d : List Dv} {v : List V}, RpL K ρ H d v → RpL K ρ' H' d v
  | [], _, x => by simpa only [RpL] using x
  | _ :: _, _, x => by
    simp only [RpL] at x ⊢
    obtain ⟨v, q, e, x, l⟩ := x
    exact ⟨v, q, e, Rp.lt2 a x, RpL.lt2 a l⟩
end
theorem RpK.lt2 {κ : Type} (a : Lt2 K ρ H ρ' H') : ∀ {d : List (κ × Dv)} {v : List (κ × V)}, RpK K ρ H d v → RpK K ρ' H' d v
  | [], _, x => x
  | _ :: _, _, ⟨v, q, e, x, l⟩ => ⟨v, q, e, Rp.lt2 a x, RpK.lt2 a l⟩
theorem RpN.lt2 (a : Lt2 K ρ H ρ' H') : ∀ {d : List (NestedKey × Dv)} {v : List (NestedKey × Addr × Value)}, RpN K ρ H d v → RpN K ρ' H' d v
  | [], _, x => x
  | _ :: _, _, ⟨b, v, u, q, e, z, x, y, dd, l⟩ => ⟨b, v, u, q, e, z, Rp.lt2 a x, Rp.lt2 a y, dd, RpN.lt2 a l⟩
theorem RpOb.lt2 (a : Lt2 K ρ H ρ' H') {x : Addr} (e : H' x = H x) : ∀ {ob : Ob}, RpOb K w P ρ H x ob → RpOb K w P ρ' H' x ob
  | .lst _, ⟨vs, q, l⟩ => ⟨vs, e.trans q, RpL.lt2 a l⟩
  | .fro _, ⟨o, vs, q, l⟩ => ⟨o, vs, e.trans q, RpL.lt2 a l⟩
  | .set _, ⟨S, n, q, l⟩ => ⟨S, n, e.trans q, l⟩
  | .dk _, ⟨kv, q, l, n⟩ => ⟨kv, e.trans q, RpK.lt2 a l, n⟩
  | .dn _, ⟨xs, q, l, n⟩ => ⟨xs, e.trans q, RpN.lt2 a l, n⟩
/-- no tuple -/
def NoTup (o : HO) : Prop := (∀ xs, o ≠ .tup xs) ∧ ∀ q xs, o ≠ .frz q (.tup xs)
theorem NoTup.lst {vs : List V} : NoTup (.lst vs) := ⟨fun _ e => by (cases e), fun _ _ e => by (cases e)⟩
theorem NoTup.dK {vs : List (Key × V)} : NoTup (.dK vs) := ⟨fun _ e => by (cases e), fun _ _ e => by (cases e)⟩
/-- an object of nobody's is written -/
theorem Lt2.hid {D : Addr} {o0 o : HO} (hD : H D = some o0) (nt : NoTup o0) : Lt2 K ρ H ρ (upd H D o) := by
  refine ⟨⟨[], by simp⟩, fun a xs t => ?_⟩
  rcases t with (t | ⟨q, t⟩) | t
  · refine .inl (.inl ?_)
    rw [upd_ne (fun e => by
      rw [e, hD] at t
      cases t
      exact nt.1 _ rfl)]
    exact t
  · refine .inl (.inr ⟨q, ?_⟩)
    rw [upd_ne (fun e => by
      rw [e, hD] at t
      cases t
      exact nt.2 _ _ rfl)]
    exact t
  · exact .inr t
theorem Lt2.app (l : List Addr) : Lt2 K ρ H (ρ ++ l) H := ⟨⟨l, rfl⟩, fun _ _ t => t⟩
theorem RpH.hid {D : Addr} {o0 o : HO} (r : RpH K w P ρ H h) (hD : H D = some o0) (nt : NoTup o0) (nD : D ∉ ρ) : RpH K w P ρ (upd H D o) h :=
  ⟨r.len, r.nd, fun n ob x e1 e2 => RpOb.lt2 (Lt2.hid hD nt) (upd_ne fun q => nD (by rw [← q]; exact List.mem_of_getElem? e2)) (r.ob n ob x e1 e2)⟩
theorem RpH.add {D : Addr} {ob : Ob} (r : RpH K w P ρ H h) (nD : D ∉ ρ) (q : RpOb K w P (ρ ++ [D]) H D ob) : RpH K w P (ρ ++ [D]) H (h ++ [ob]) := by
  refine ⟨by simp [r.len], ?_, fun n ob' x e1 e2 => ?_⟩
  · rw [List.nodup_append]
    refine ⟨r.nd, by simp, fun a m b m2 z => ?_⟩
    rw [List.mem_singleton.mp m2] at z
    exact nD (by rw [← z]; exact m)
  · by_cases hn : n < h.length
    · rw [List.getElem?_append_left hn] at e1
      rw [List.getElem?_append_left (by rw [r.len]; exact hn)] at e2
      exact RpOb.lt2 (Lt2.app [D]) rfl (r.ob n ob' x e1 e2)
    · have hl := (List.getElem?_eq_some_iff.mp e1).1
      rw [List.length_append] at hl
      have hn' : n = h.length := by simp at hl; omega
      subst hn'
      rw [List.getElem?_append_right (Nat.le_refl _), Nat.sub_self] at e1
      rw [← r.len, List.getElem?_append_right (Nat.le_refl _), Nat.sub_self] at e2
      cases e1
      cases e2
      exact q
theorem Ltr.over {D : Addr} {o : HO} (a : Ltr ρ H ρ' H') (hD : H D = none) : Ltr ρ H ρ' (upd H' D o) := by
  refine ⟨a.pre, fun x u e n => ?_, fun x u e => ?_⟩
  · rw [upd_ne (ne_of_none e hD)]
    exact a.keep x u e n
  · obtain ⟨o', q⟩ := a.there x u e
    exact ⟨o', by rw [upd_ne (ne_of_none e hD)]; exact q⟩
theorem Ltr.addL {D : Addr} (a : Ltr ρ H ρ' H') (hD : H D = none) : Ltr ρ H (ρ' ++ [D]) H' := by
  obtain ⟨l, e, hl⟩ := a.pre
  refine ⟨⟨l ++ [D], by rw [e, List.append_assoc], fun x m => ?_⟩, a.keep, a.there⟩
  rcases List.mem_append.mp m with m | m
  · exact hl x m
  · rw [List.mem_singleton.mp m]; exact hD
theorem Ltr.out {D : Addr} {o : HO} (a : Ltr ρ H ρ' H') (e : H D = some o) (n : D ∉ ρ) : H' D = some o ∧ D ∉ ρ' := by
  refine ⟨a.keep D o e n, fun m => ?_⟩
  obtain ⟨l, q, hl⟩ := a.pre
  rw [q] at m
  rcases List.mem_append.mp m with m | m
  · exact n m
  · rw [hl D m] at e
    cases e
end

section
variable {B : Bd} {X : Cx} {W : WX} {ea eb ec : Sg → Hh → R Dv} {a b c tg iter elt : Expr} {pos p : Pos}
def lcStep (eg : Dv → Sg → Hh → R Sg) (et : Sg → Hh → R Bool) (ee : Sg → Hh → R Dv) (σ0 : Sg) (v : Dv) (h' : Hh) : R (Option Dv) := (eg v σ0 h').bind fun σ1 h2 => (et σ1 h2).bind fun b h3 =>
        if b then (ee σ1 h3).bind fun y h4 => .ok (some y) h4 else .ok none h3
def lcE (ei : Sg → Hh → R It) (eg : Dv → Sg → Hh → R Sg) (et : Sg → Hh → R Bool) (ee : Sg → Hh → R Dv) (L : List Nat) (wf : Nat) (σ : Sg) (h : Hh) : R Dv := (ei σ h).bind fun J h1 =>
      let σ0 := wipeS σ L
      (lcL (lcStep eg et ee σ0) J wf 0 [] h1).bind fun ys h2 =>
      .ok (.ref h2.length) (h2 ++ [.lst ys])
theorem lcStep_ok {eg : Dv → Sg → Hh → R Sg} {et : Sg → Hh → R Bool} {ee : Sg → Hh → R Dv} {σ0 : Sg} {v : Dv} {h h' : Hh} {o : Option Dv} (e : lcStep eg et ee σ0 v h = .ok o h') :
    ∃ σ1 h1 b h2, eg v σ0 h = .ok σ1 h1 ∧ et σ1 h1 = .ok b h2 ∧ ((b = true ∧ ∃ y, ee σ1 h2 = .ok y h' ∧ o = some y) ∨ (b = false ∧ o = none ∧ h' = h2)) := by
  unfold lcStep at e
  cases e1 : eg v σ0 h with
  | ok σ1 h1 =>
    rw [e1, R.bind_ok] at e
    cases e2 : et σ1 h1 with
    | ok b h2 =>
      rw [e2, R.bind_ok] at e
      cases b with
      | true =>
        rw [if_pos rfl] at e
        cases e3 : ee σ1 h2 with
        | ok y h3 =>
          rw [e3, R.bind_ok] at e
          cases e
          exact ⟨σ1, h1, true, h2, rfl, e2, .inl ⟨rfl, y, e3, rfl⟩⟩
        | ex => rw [e3] at e; cases e
        | no => rw [e3] at e; cases e
      | false =>
        rw [if_neg Bool.false_ne_true] at e
        cases e
        exact ⟨σ1, h1, false, _, rfl, e2, .inr ⟨rfl, rfl, rfl⟩⟩
    | ex => rw [e2] at e; cases e
    | no => rw [e2] at e; cases e
  | ex => rw [e1] at e; cases e
  | no => rw [e1] at e; cases e
theorem lcL_nex {step : Dv → Hh → R (Option Dv)} {it : It} : ∀ (n i : Nat) (acc : List Dv) (h : Hh) (x : Ex) (h' : Hh), lcL step it n i acc h ≠ .ex x h'
  | 0, _, _, _, _, _ => fun e => by cases e
  | n + 1, i, acc, h, x, h' => fun e => by
    unfold lcL at e
    split at e
    · cases e
    · cases e
    · split at e
      · split at e
        · exact lcL_nex n _ _ _ _ _ e
        · cases e
      · exact lcL_nex n _ _ _ _ _ e
      · cases e
theorem wI_nil {D : Addr} {H : Hp} (h : H D = none) : True := trivial
theorem fe_lc {wf : Nat} {scope : Scope} {own : List (Str × Nat)} {ifs : List Expr} {ei : Sg → Hh → R It} {eg : Dv → Sg → Hh → R Sg} {et : Sg → Hh → R Bool} {ee : Sg → Hh → R Dv} (hK : X.K = B.K) (hc : X.calm = true) (hN : X.N.Nodup)
    (hi : PI X tg iter (tVI B W ei)) (ok : BlkOk X.N X.env.scope scope own)
    (hg : ∀ (s : Shared) (H : Hp) (C : Addr) (cl : List (Str × Addr)) (fp : List Addr), PG (X.blk s H scope (compEnvC scope cl C X.env) fp) tg (tVG B (own.map (·.2)) eg))
    (ht : ∀ (s : Shared) (H : Hp) (C : Addr) (cl : List (Str × Addr)) (fp : List Addr), PTs (X.blk s H scope (compEnvC scope cl C X.env) fp) ifs (tVTs B W0 et))
    (he : ∀ (s : Shared) (H : Hp) (C : Addr) (cl : List (Str × Addr)) (fp : List Addr), PE (X.blk s H scope (compEnvC scope cl C X.env) fp) elt (tV B W0 ee)) (hs : ∀ x, foldedSetIterable iter X.env x = pure x) :
    (∀ (σV : L2.St) (H : Hp) (Q : VK), tV B W (lcE ei eg et ee (own.map (·.2)) wf) σV H Q → tLc (tVI B W ei) (tVG B (own.map (·.2)) eg) (tVTs B W0 et) (tV B W0 ee) (own.map (·.2)) σV H Q) ∧
    PE X (.ListComp elt [⟨tg, iter, ifs, 0⟩] scope pos) (tV B W (lcE ei eg et ee (own.map (·.2)) wf)) := by
  have key : ∀ (σV : L2.St) (H : Hp) (Q : VK), tV B W (lcE ei eg et ee (own.map (·.2)) wf) σV H Q → tLc (tVI B W ei) (tVG B (own.map (·.2)) eg) (tVTs B W0 et) (tV B W0 ee) (own.map (·.2)) σV H Q := by
    intro σV H Q ⟨ρ0, h0, σ, rp0, fin⟩
    generalize own.map (·.2) = L at fin ⊢
    refine ⟨ρ0, h0, σ, rp0, fin.bind fun J h1 ρ1 H1 JV _ l1 rp1 rJ fin => ?_⟩
    intro D hD
    have fin : Fin B W σV ρ1 H1 (Rp B.K) ((lcL (lcStep eg et ee (wipeS σ L)) J wf 0 [] h1).bind fun ys h2 => .ok (.ref h2.length) (h2 ++ [.lst ys])) Q := fin
    cases q : lcL (lcStep eg et ee (wipeS σ L)) J wf 0 [] h1 with
    | no => rw [q] at fin; exact fin.elim
    | ex x h2 => exact absurd q (lcL_nex _ _ _ _ _ _)
    | ok ys h2 =>
      simp only [q, R.bind_ok] at fin
      have nD1 : D ∉ ρ1 := rp1.fresh hD
      refine ⟨fun i m H => ∃ ρ h acc vs, B.H ρ H h ∧ RpL B.K ρ H acc.reverse vs ∧ H D = some (.lst vs) ∧ D ∉ ρ ∧ Ltr ρ1 H1 ρ H ∧ lcL (lcStep eg et ee (wipeS σ L)) J m i acc h = .ok ys h2,
        ⟨wf, ρ1, h1, [], [], rp1.newT hD, by simp only [List.reverse_nil, RpL], upd_same, nD1, Ltr.newT hD, q⟩, ?_⟩
      rintro i m H ⟨ρ, h, acc, vs, rp, rl, hL, nD, lt, e⟩
      cases m with
      | zero => cases e
      | succ m =>
        have rJ' := RpI.ltr rp1 lt rJ
        unfold lcL at e
        cases ea : It.at h i J with
        | none => rw [ea] at e; cases e
        | some o =>
          rw [ea] at e
          have tn := It.turn rp rJ' ea
          cases o with
          | none =>
            simp only at e
            cases e
            refine .inl ⟨tn, ?_⟩
            refine fin (ρ ++ [D]) H _ (lt.addL hD) (rp.add nD ⟨vs, hL, RpL.lt2 (Lt2.app [D]) rl⟩) ?_
            simp only [Rp]
            refine ⟨D, rfl, ?_⟩
            rw [← rp.len, List.getElem?_append_right (Nat.le_refl _), Nat.sub_self]
            rfl
          | some v =>
            simp only at e
            obtain ⟨go, yl⟩ := tn
            refine .inr ⟨go, fun H' => ∃ ρ h acc vs, B.H ρ H' h ∧ RpL B.K ρ H' acc.reverse vs ∧ H' D = some (.lst vs) ∧ D ∉ ρ ∧ Ltr ρ1 H1 ρ H' ∧ lcL (lcStep eg et ee (wipeS σ L)) J m (i + 1) acc h = .ok ys h2, fun H' w => ⟨m, Nat.lt_succ_self m, w⟩, fun x H' y => ?_⟩
            obtain ⟨l2, rp2, rx⟩ := yl x H' y
            obtain ⟨hL2, nD2⟩ := l2.out hL nD
            have slots : RpS B.K ρ H' (wipeS σ L) (L2.wipe σV L) := RpS.wipe (RpS.ltr rp l2 (RpS.ltr rp1 lt (RpS.ltr rp0.hp l1 rp0.sl))) L
            have ltx : Ltr ρ1 H1 ρ H' := Ltr.trans rp lt l2
            cases es : lcStep eg et ee (wipeS σ L) v h with
            | ex => rw [es] at e; cases e
            | no => rw [es] at e; cases e
            | ok o h' =>
              rw [es] at e
              obtain ⟨σ1, ha, bb, hb, e1, e2, e3⟩ := lcStep_ok es
              refine ⟨ρ, h, wipeS σ L, v, ⟨rp2, slots⟩, rx, ?_⟩
              rw [e1]
              intro ρa Ha σ2V la rpa ⟨sa, wa⟩
              refine ⟨by rw [wa]; exact wipe_wipe L L fun _ m => m, ρa, ha, σ1, ⟨rpa, sa⟩, ?_⟩
              rw [e2]
              intro ρb Hb k lb rpb rk
              cases rk
              obtain ⟨hLa, nDa⟩ := la.out hL2 nD2
              obtain ⟨hLb, nDb⟩ := lb.out hLa nDa
              rcases e3 with ⟨rfl, y, e3, rfl⟩ | ⟨rfl, rfl, rfl⟩
              · rw [if_pos rfl]
                refine ⟨ρb, hb, σ1, ⟨rpb, RpS.ltr rpa lb sa⟩, ?_⟩
                rw [e3]
                intro ρc Hc yv lc rpc ry
                obtain ⟨hLc, nDc⟩ := lc.out hLb nDb
                simp only at e
                split at e
                · rename_i hm
                  have rlc := RpL.ltr rpb lc (RpL.ltr rpa lb (RpL.ltr rp2 la (RpL.ltr rp l2 rl)))
                  refine ⟨vs, hLc, ?_, ρc, h', y :: acc, vs ++ [yv], rpc.hid hLc .lst nDc, ?_, upd_same, nDc, (Ltr.trans rpb (Ltr.trans rpa (Ltr.trans rp2 ltx la) lb) lc).over hD, e⟩
                  · rw [← rl.len, List.length_reverse]
                    exact Nat.lt_trans hm most_line
                  · rw [List.reverse_cons]
                    exact RpL.lt2 (Lt2.hid hLc .lst) (rlc.append (RpL.one ry))
                · cases e
              · rw [if_neg Bool.false_ne_true]
                exact ⟨ρb, h', acc, vs, rpb, RpL.ltr rpa lb (RpL.ltr rp2 la (RpL.ltr rp l2 rl)), hLb, nDb, Ltr.trans rpa (Ltr.trans rp2 ltx la) lb, e⟩
  exact ⟨key, pe_mono (pe_lc hc hN hi ok hg ht he hs) key⟩
end
end FF
end

section
set_option Elab.async false
set_option linter.all false
set_option maxRecDepth 100000
set_option maxHeartbeats 4000000
/-! FE21: the last cases of expressions. -/
namespace FF
open PySem PySem.Spec PySem.SeqAt
open PyProof.Rows hiding St
open L2 hiding start It

section
variable {B : Bd} {X : Cx} {W : WX} {ea eb ec : Sg → Hh → R Dv} {a b c tg iter elt : Expr} {es : List Expr} {pos p : Pos}
theorem fts_nil : PTs X [] (tVTs B W fun _ h => .ok true h) := ⟨fun pins s σV H Q I ⟨ρ, h, σ, rp, fin⟩ => pts_nil.run pins s σV H Q I (fin.now rp.hp rfl)⟩
theorem fts_one (ha : PT X a (tVT B W ea)) : PTs X [a] (tVTs B W fun σ h => (ea σ h).bind fun v h1 => match v with
    | .bl true => .ok true h1
    | .bl false => .ok false h1
    | _ => .no) := ⟨fun pins s σV H Q I ⟨ρ, h, σ, rp, fin⟩ => (pts_one ha).run pins s σV H Q I ⟨ρ, h, σ, rp, by
  cases q : ea σ h with
  | ok v h1 =>
    simp only [q, R.bind_ok] at fin
    cases v with
    | bl k => cases k <;> exact fin
    | _ => exact fin.elim
  | ex x h1 => simp only [q, R.bind_ex] at fin; exact fin
  | no => simp only [q, R.bind_no] at fin; exact fin⟩⟩
theorem rg_rel {K : PySem.W.Frag} {ρ : List Addr} {H : Hp} (i j : Int) : RpL K ρ H ((List.range (j - i).toNat).map fun (k : Nat) => Dv.int (i + (k : Int))) (rgV i j) := RpL.ints (fun k => i + (k : Int)) _
theorem rgOk_of {i j : Int} (h1 : intOk i = true) (h2 : intOk j = true) (h : decide (j - i ≤ most) = true) : RgOk i j := by
  obtain ⟨q1, q2⟩ := intOk_of h1
  obtain ⟨q3, q4⟩ := intOk_of h2
  have h := of_decide_eq_true h
  unfold most at h
  exact ⟨q1, q2, q3, q4, by omega⟩
theorem fe_lrg1 {fp rp q : Pos} (hc : X.calm = true) (g1 : Gl X "list") (m1 : X.mg "list" = none) (g2 : Gl X "range") (m2 : X.mg "range" = none) (hs : isStar a = false) (ha : PE X a (tV B W ea)) :
    PE X (.Call (.Name "list" fp) [.Call (.Name "range" rp) [a] [] q] [] p) (tV B W fun σ h => ((ea σ h).bind fun v h1 => ((fun _ h => .ok [] h : Sg → Hh → R (List Dv)) σ h1).bind fun vs h2 => .ok (v :: vs) h2).bind fun vs h1 => lrgE vs h1) :=
  pe_mono (pe_listRg hc g1 m1 (prg_1 g2 m2 ha (star_of hs))) fun σV H Q ⟨ρ, h, σ, rp, fin⟩ => by
    refine ⟨ρ, h, σ, rp, ?_⟩
    have fin : Fin B W σV ρ H (Rp B.K) ((ea σ h).bind fun v h1 => lrgE [v] h1) Q := by
      cases q : ea σ h with
      | ok v h1 => simp only [q, R.bind_ok] at fin ⊢; exact fin
      | ex x h1 => simp only [q, R.bind_ex] at fin ⊢; exact fin
      | no => simp only [q, R.bind_no] at fin ⊢; exact fin
    refine fin.bind fun x h1 ρ1 H1 v _ l1 rp1 rx fin1 => ?_
    cases x with
    | int n =>
      simp only [Rp] at rx
      subst rx
      simp only [lrgE] at fin1
      split at fin1
      · rename_i hn
        simp only [Bool.and_eq_true] at hn
        have e : (n - 0 : Int) = n := Int.sub_zero n
        refine ⟨n, rfl, rgOk_of (by decide) hn.2 (by rw [e]; exact hn.1), fun p hp => ?_⟩
        refine fin1.newL rp1 ?_ hp
        have z := rg_rel (K := B.K) (ρ := ρ1) (H := H1) 0 n
        simp only [e, Int.zero_add] at z
        exact z
      · exact fin1.elim
    | _ => exact fin1.elim
theorem fe_lrg2 {fp rp q : Pos} (hc : X.calm = true) (g1 : Gl X "list") (m1 : X.mg "list" = none) (g2 : Gl X "range") (m2 : X.mg "range" = none) (hs : isStar a = false) (hs2 : isStar b = false) (ha : PE X a (tV B W ea)) (hb : PE X b (tV B W eb)) :
    PE X (.Call (.Name "list" fp) [.Call (.Name "range" rp) [a, b] [] q] [] p) (tV B W fun σ h => ((ea σ h).bind fun v h1 => ((eb σ h1).bind fun v h1 => ((fun _ h => .ok [] h : Sg → Hh → R (List Dv)) σ h1).bind fun vs h2 => .ok (v :: vs) h2).bind fun vs h2 => .ok (v :: vs) h2).bind fun vs h1 => lrgE vs h1) :=
  pe_mono (pe_listRg hc g1 m1 (prg_2 g2 m2 ha hb (star_of hs) (star_of hs2) (by rw [star_of hs2]; rfl))) fun σV H Q ⟨ρ, h, σ, rp, fin⟩ => by
    refine ⟨ρ, h, σ, rp, ?_⟩
    have fin : Fin B W σV ρ H (Rp B.K) ((ea σ h).bind fun v h1 => (eb σ h1).bind fun u h2 => lrgE [v, u] h2) Q := by
      cases q : ea σ h with
      | ok v h1 =>
        simp only [q, R.bind_ok] at fin ⊢
        cases q2 : eb σ h1 with
        | ok u h2 => simp only [q2, R.bind_ok] at fin ⊢; exact fin
        | ex x h2 => simp only [q2, R.bind_ex] at fin ⊢; exact fin
        | no => simp only [q2, R.bind_no] at fin ⊢; exact fin
      | ex x h1 => simp only [q, R.bind_ex] at fin ⊢; exact fin
      | no => simp only [q, R.bind_no] at fin ⊢; exact fin
    refine fin.bind fun x h1 ρ1 H1 v _ l1 rp1 rx fin1 => ⟨ρ1, h1, σ, rp.ltr l1 rp1, fin1.bind fun y h2 ρ2 H2 u _ l2 rp2 ry fin2 => ?_⟩
    cases x with
    | int i =>
      cases y with
      | int j =>
        simp only [Rp] at rx ry
        subst rx ry
        simp only [lrgE] at fin2
        split at fin2
        · rename_i hn
          simp only [Bool.and_eq_true] at hn
          exact ⟨i, j, rfl, rfl, rgOk_of hn.1.2 hn.2 hn.1.1, fun p hp => fin2.newL rp2 (rg_rel i j) hp⟩
        · exact fin2.elim
      | _ => exact fin2.elim
    | _ => exact fin2.elim

/-! ### isinstance -/
def tyStr : Ty → String
  | .int => "int" | .bool => "bool" | .tuple => "tuple" | .str => "str" | .list => "list" | .cls _ => ""
def okTy : Ty → Bool
  | .cls _ => false | _ => true
def tagOf : Dv → Option String
  | .non => some "NoneType" | .bl _ => some "bool" | .int _ => some "int" | .str _ => some "str" | .tup _ => some "tuple" | _ => none
theorem isi_tag {d : Dv} {t : Ty} {r : Bool} (e : tyIs d t = some r) : ∃ s, tagOf d = some s ∧ kitB s (tyStr t) = some r := by
  cases t <;> cases d <;> simp only [tyIs] at e <;> cases e <;> refine ⟨_, rfl, ?_⟩ <;> decide +kernel
theorem tag_ty {K : PySem.W.Frag} {ρ : List Addr} {H : Hp} {d : Dv} {v : V} {s : String} (e : tagOf d = some s) (r : Rp K ρ H d v) : TyX K H v (.type s) := by
  cases d with
  | non => cases e; simp only [Rp] at r; subst r; exact .base .non
  | bl k => cases e; simp only [Rp] at r; subst r; exact .base (.bl k)
  | int i => cases e; simp only [Rp] at r; subst r; exact .base (.int i)
  | str i => cases e; simp only [Rp] at r; subst r; exact .base (.str i)
  | tup xs =>
    cases e
    simp only [Rp] at r
    obtain ⟨a, vs, rfl, t, l⟩ := r
    rcases t with (t | ⟨o, t⟩) | ⟨o, its, n, t, c, _⟩
    · exact .base (.tup t)
    · exact .fTuple t
    · exact .kTuple t c
  | ref => cases e
  | exn => cases e
theorem fe_isi {t : Ty} {fp tp : Pos} (hK : X.K = B.K) (ht : okTy t = true) (g1 : Gl X "isinstance") (m1 : X.mg "isinstance" = none) (g2 : Gl X (Str.ofString (tyStr t))) (m2 : X.mg (Str.ofString (tyStr t)) = none) (hs : isStar a = false) (ha : PE X a (tV B W ea)) :
    PE X (.Call (.Name "isinstance" fp) [a, .Name (Str.ofString (tyStr t)) tp] [] p) (tV B W fun σ h => (ea σ h).bind fun x h1 => R.of ((tyIs x t).map .bl) h1) := by
  have bt : bootBuiltins (Str.ofString (tyStr t)) = some (.type (tyStr t)) := by
    cases t <;> first | decide +kernel | cases ht
  have n1 : Str.ofString (tyStr t) ≠ "__name__" := by cases t <;> first | decide | cases ht
  have n2 : (Str.ofString (tyStr t) == ("__debug__" : Str)) = false := by cases t <;> first | decide | cases ht
  refine pe_mono (pe_callB call_isi g1 m1 boot_isinstance (pa_cons ha (pa_cons (pe_bltn (v := .ty (tyStr t)) g2 m2 bt rfl n1 n2) pa_nil) (star_of hs)) (by decide) (by decide) (star_of hs) (by rfl)) fun σV H Q ⟨ρ, h, σ, rp, fin⟩ => ⟨ρ, h, σ, rp, fin.bind fun x h1 ρ1 H1 v _ l1 rp1 rx fin1 => ?_⟩
  obtain ⟨d, e, fin1⟩ := fin1.of
  obtain ⟨r, er, rfl⟩ := Option.map_eq_some_iff.mp e
  obtain ⟨s, e1, e2⟩ := isi_tag er
  exact ⟨v, .ty (tyStr t), .type s, .type (tyStr t), r, rfl, .ty _, by rw [hK]; exact tag_ty e1 rx, e2, fin1.now rp1 (by simp only [Rp])⟩
/-! ### {} -/
theorem fe_dnew (n : Bool) (hw : X.w = B.w) (hP : X.prog = B.P) : PE X (.Dict [] [] pos) (tV B W fun _ h => .ok (.ref h.length) (h ++ [if n then .dn [] else .dk []])) := by
  cases n with
  | false =>
    refine pe_mono pe_dnewK fun σV H Q ⟨ρ, h, σ, rp, fin⟩ => fun p hp => ?_
    refine fin (ρ ++ [p]) _ _ (Ltr.new hp) (rp.hp.new hp ⟨[], upd_same, rfl, List.nodup_nil⟩) ?_
    simp only [Rp]
    refine ⟨p, rfl, ?_⟩
    rw [← rp.hp.len, List.getElem?_append_right (Nat.le_refl _), Nat.sub_self]
    rfl
  | true =>
    refine ⟨fun pins s σV H Q I ⟨ρ, h, σ, rp, fin⟩ => ?_⟩
    have hp : H s.heap.objs.size = none := I.hok.fresh (Nat.le_refl _)
    have hs : (s.heap.objs.size == sysModules) = false := beq_eq_false_iff_ne.mpr (Ne.symm (Nat.ne_of_lt I.big))
    refine wpAny_Dict_empty ⟨.ref s.heap.objs.size, upd H s.heap.objs.size (dnO X.w X.prog s.heap.objs.size []), I.laid (a := s.heap.objs.size) (t' := s.toks) (fun _ _ q => Heap.get?_push_of_some _ q) (Nat.le_refl _) (dn_obj hs (Heap.DictOfH.new s.heap)), rfl, ?_⟩
    refine fin (ρ ++ [s.heap.objs.size]) _ _ (Ltr.new hp) (rp.hp.new hp ⟨[], by rw [hw, hP]; exact upd_same, rfl, List.nodup_nil⟩) ?_
    simp only [Rp]
    refine ⟨s.heap.objs.size, rfl, ?_⟩
    rw [← rp.hp.len, List.getElem?_append_right (Nat.le_refl _), Nat.sub_self]
    rfl
/-! ### {k: v, ..}, the keys written -/
def keyE : E → Option (Int ⊕ Str)
  | .int i _ _ => some (.inl i)
  | .str s _ _ => some (.inr s)
  | _ => none
def keysE : EL → Option (List (Int ⊕ Str))
  | .nil => some []
  | .cons e es => match keyE e, keysE es with
    | some k, some ks => some (k :: ks)
    | _, _ => none
theorem keyE_ev {F : Fx} {e : E} {k : Int ⊕ Str} (h : keyE e = some k) (σ : Sg) (hp : Hh) : evE F e σ hp = .ok (dvK k) hp := by
  cases e <;> simp only [keyE] at h <;> first | (cases h; done) | skip
  · cases h; rfl
  · cases h; rfl
theorem keysE_ev {F : Fx} : ∀ {es : EL} {ks : List (Int ⊕ Str)}, keysE es = some ks → ∀ (σ : Sg) (hp : Hh), evL F es σ hp = .ok (ks.map dvK) hp
  | .nil, ks, h, σ, hp => by cases h; rfl
  | .cons e es, ks, h, σ, hp => by
    simp only [keysE] at h
    split at h
    · rename_i k r h1 h2
      cases h
      simp only [evL, keyE_ev h1, R.bind_ok, keysE_ev h2, List.map_cons]
    · cases h
theorem keyE_pe {c : Ctx} {e : E} {k : Int ⊕ Str} (h : keyE e = some k) : PE X (toE c e) (tC (kV k)) := by
  cases e <;> simp only [keyE] at h <;> first | (cases h; done) | skip
  · cases h; exact pe_int
  · cases h; exact pe_str
def trsOf (B : Bd) (F : Fx) (W : WX) : List (Int ⊕ Str) → EL → List (TE × TE)
  | k :: ks, .cons e es => (tC (kV k), tV B W (evE F e)) :: trsOf B F W ks es
  | _, _ => []
def zipKV : List (Int ⊕ Str) → List V → List (Key × V)
  | k :: ks, v :: vs => (k, v) :: zipKV ks vs
  | _, _ => []
theorem pairs_ok {F : Fx} : ∀ {ks : List (Int ⊕ Str)} {es : EL} (σV : L2.St) (H : Hp) (Q : List (V × V) → Hp → Prop), elLen es = ks.length → (∃ ρ h σ, B.S ρ H h σ σV ∧ Fin B W σV ρ H (RpL B.K) (evL F es σ h) fun vs H' => Q ((zipKV ks vs).map fun kv => (kV kv.1, kv.2)) H') → tPairs (trsOf B F W ks es) σV H Q
  | [], .nil, σV, H, Q, _, ⟨ρ, h, σ, rp, fin⟩ => fin.now (x := []) rp.hp (by simp only [RpL])
  | [], .cons _ _, σV, H, Q, hl, _ => by simp [elLen] at hl
  | _ :: _, .nil, σV, H, Q, hl, _ => by simp [elLen] at hl
  | k :: ks, .cons e es, σV, H, Q, hl, ⟨ρ, h, σ, rp, fin⟩ => by
    simp only [evL] at fin
    refine ⟨ρ, h, σ, rp, fin.bind fun x h1 ρ1 H1 v _ l1 rp1 rx fin1 => ?_⟩
    refine pairs_ok σV H1 _ (by simpa [elLen] using hl) ⟨ρ1, h1, σ, rp.ltr l1 rp1, fin1.bind fun xs h2 ρ2 H2 vs _ l2 rp2 rxs fin2 => ?_⟩
    exact fin2.now (x := v :: vs) rp2 (by
      simp only [RpL]
      exact ⟨v, vs, rfl, Rp.ltr rp1 l2 rx, rxs⟩)
theorem disps_rel {K : PySem.W.Frag} {ρ : List Addr} {H : Hp} : ∀ {ks : List (Int ⊕ Str)} {ds : List Dv} {vs : List V} {acc out : List ((Int ⊕ Str) × Dv)} {kv : List (Key × V)}, disps (ks.map dvK) ds acc = some out → RpL K ρ H ds vs → RpK K ρ H acc kv → (acc.map (·.1)).Nodup →
    RpK K ρ H out (mergeK kv (zipKV ks vs)) ∧ (out.map (·.1)).Nodup ∧ ds.length = ks.length
  | [], [], vs, acc, out, kv, e, l, r, n => by
    simp only [RpL] at l
    subst l
    simp only [List.map_nil, disps] at e
    cases e
    exact ⟨r, n, rfl⟩
  | [], _ :: _, vs, acc, out, kv, e, l, r, n => by simp [disps] at e
  | _ :: _, [], vs, acc, out, kv, e, l, r, n => by simp [disps] at e
  | k :: ks, d :: ds, vs, acc, out, kv, e, l, r, n => by
    simp only [RpL] at l
    obtain ⟨v, r', rfl, x, l⟩ := l
    have hk : keyK (dvK k) = some k := by cases k <;> rfl
    simp only [List.map_cons, disps, hk] at e
    obtain ⟨q1, q2, q3⟩ := disps_rel e l (kPut_rel r n x) (kPut_nodup n)
    exact ⟨q1, q2, by simp [q3]⟩
theorem zipKV_len : ∀ {ks : List (Int ⊕ Str)} {vs : List V}, vs.length = ks.length → (zipKV ks vs).length = ks.length
  | [], [], _ => rfl
  | [], _ :: _, h => by simp at h
  | _ :: _, [], h => by simp at h
  | _ :: ks, _ :: vs, h => by simp only [zipKV, List.length_cons, zipKV_len (ks := ks) (vs := vs) (by simpa using h)]
theorem fe_disp {F : Fx} {ks es : EL} {keys : List (Int ⊕ Str)} {kx : List (Option Expr)} {vx : List Expr} (hk : keysE ks = some keys) (hn : keys ≠ []) (hl : keys.length ≤ 15) (he : elLen es = keys.length) (hx : PPs X pos kx vx (trsOf B F W keys es)) (h1 : (kx.all fun x => x.isSome) = true) (h2 : kx.length = vx.length) (h3 : kx.length = keys.length) :
    PE X (.Dict kx vx pos) (tV B W fun σ h => (evL F ks σ h).bind fun qs h1 => (evL F es σ h1).bind fun ws h2 => match disps qs ws [] with
    | some kvs => if decide (kvs.length ≤ 15) then .ok (.ref h2.length) (h2 ++ [.dk kvs]) else .no
    | none => .no) := by
  refine pe_mono (pe_disp hx h1 h2 (fun e => by
    subst e
    exact hn (List.length_eq_zero_iff.mp h3.symm)) (by rw [h3]; exact hl)) fun σV H Q ⟨ρ, h, σ, rp, fin⟩ => fun p hp => ?_
  simp only [keysE_ev hk, R.bind_ok] at fin
  have lp : Ltr ρ H ρ (upd H p (.dK [])) := Ltr.newT hp
  have rp0 := rp.hp.newT (o := .dK []) hp
  have np : p ∉ ρ := rp.hp.fresh hp
  refine pairs_ok σV _ _ he ⟨ρ, h, σ, rp.ltr lp rp0, (fin.ltr rp0 lp).bind fun ds h2 ρ2 H2 vs er l2 rp2 rx _ => ?_⟩
  obtain ⟨hp2, np2⟩ := l2.out upd_same np
  simp only [er, R.bind_ok] at fin
  cases q : disps (keys.map dvK) ds [] with
  | none => simp only [q] at fin; exact fin.elim
  | some kvs =>
    simp only [q] at fin
    split at fin
    · obtain ⟨q1, q2, q3⟩ := disps_rel (kv := []) q rx rfl List.nodup_nil
      refine ⟨hp2, zipKV keys vs, rfl, ?_, ?_⟩
      · rw [zipKV_len (by rw [← rx.len]; exact q3)]
        exact hl
      · have lt : Ltr ρ H ρ2 H2 := Ltr.trans rp0 lp l2
        refine fin (ρ2 ++ [p]) _ _ ((lt.over hp).addL hp) ((rp2.hid hp2 .dK np2).add np2 ⟨_, upd_same, RpK.lt2 (Lt2.app [p]) (RpK.lt2 (Lt2.hid hp2 .dK) q1), q2⟩) ?_
        simp only [Rp]
        refine ⟨p, rfl, ?_⟩
        rw [← rp2.len, List.getElem?_append_right (Nat.le_refl _), Nat.sub_self]
        rfl
    · exact fin.elim
end
end FF
end

section
set_option Elab.async false
set_option linter.all false
set_option maxRecDepth 100000
set_option maxHeartbeats 4000000
/-! FE22: expressions, all of them. -/
namespace FF
open PySem PySem.Spec PySem.SeqAt
open PyProof.Rows hiding St
open L2 hiding start It

/-! ### looks -/
def gl (sc : Scope) (x : Str) : Bool := decide (sc.names.lookup x = some .globalImplicit) && decide (x ≠ ("__debug__" : Str)) && decide (x ≠ ("__name__" : Str))
def loc (sc : Scope) (x : Str) : Bool := decide (sc.names.lookup x = some .local) || decide (sc.names.lookup x = some .cell)
def blkC (N : List Str) (sc scope : Scope) (own : List (Str × Nat)) : Bool :=
  decide (scope.kind = .function) && scope.names.all (fun y => decide (scope.names.lookup y.1 = some y.2)) && own.all (fun p => decide (N[p.2]? = some p.1)) &&
    scope.names.all (fun y => !decide (y.2 = .free) || (decide (sc.names.lookup y.1 = some .cell) || decide (sc.names.lookup y.1 = some .free))) &&
    scope.names.all (fun y => !(decide (y.2 = .local) || decide (y.2 = .cell)) || (decide (y.1 ∈ own.map (·.1)) || decide (y.1 ∉ N)))
def isTupG : G → Bool
  | .tup .. => true
  | _ => false
def plainI : I → Bool
  | .seq _ => true
  | .rng1 _ _ _ => true
  | .rng2 _ _ _ _ => true
  | .rng3 _ _ _ _ _ => true
  | .enum _ _ _ => false
  | .zip _ _ _ _ => false
def bmObj : E → Bool
  | .var .. => true
  | .ix .. => true
  | _ => false
section
variable (c : Ctx) (cs : List Nat) (gs : List (Str × Int))
mutual
def okE : E → Scope → Bool
  | .var i _, sc => decide (i < c.N.length) && isVis sc (c.nm i) && plainNm (c.nm i)
  | .gint x i _, sc => gl sc x && gs.contains (x, i)
  | .int _ _ _, _ => true
  | .str _ _ _, _ => true
  | .bl _ _ _, _ => true
  | .non _ _, _ => true
  | .tup es _ _, sc => okL es sc
  | .lst es _, sc => okL es sc
  | .bin _ a b _, sc => okE a sc && okE b sc
  | .neg a _, sc => okE a sc
  | .cmp _ a b _, sc => okE a sc && okE b sc
  | .chain _ _ a b d _, sc => okE a sc && okE b sc && okE d sc
  | .not a _, sc => okE a sc
  | .and es _, sc => decide (0 < elLen es) && okL es sc
  | .or es _, sc => decide (0 < elLen es) && okL es sc
  | .ife t a b _, sc => okE t sc && okE a sc && okE b sc
  | .ix a b _, sc => okE a sc && okE b sc
  | .sl a lo hi _ _, sc => okE a sc && okO lo sc && okO hi sc
  | .call f es _ _, sc => cs.contains f && gl sc (c.fn f) && decide (0 < elLen es) && okL es sc
  | .bi b es _ _, sc => okBi b && gl sc (biOf b) && (decide (0 < elLen es) || decide (b = .set0)) && okL es sc
  | .lrg es _ _ _ _, sc => gl sc "list" && gl sc "range" && (decide (elLen es = 1) || decide (elLen es = 2)) && okL es sc
  | .bm m o es ap p, sc => okE o sc && bmObj o && okL es sc && (ap.endLine == p.line) && (if decide (m = .pop) then decide (elLen es = 0) else decide (elLen es = 1))
  | .isi a t _ _ _, sc => okE a sc && okTy t && gl sc "isinstance" && gl sc (Str.ofString (tyStr t))
  | .exf _ _ _ _, _ => false
  | .disp ks vs _, sc => (match keysE ks with
    | some keys => decide (keys ≠ []) && decide (keys.length ≤ 15) && decide (elLen vs = keys.length)
    | none => false) && okL vs sc
  | .dnew _ _, _ => true
  | .lc own sc' tg it ifs elt _, sc => okI it sc && (isTupG tg || plainI it) && blkC c.N sc sc' own && okG tg sc' (own.map (·.2)) && decide (elLen ifs ≤ 1) && okL ifs sc' && okE elt sc'
def okL : EL → Scope → Bool
  | .nil, _ => true
  | .cons e es, sc => okE e sc && okL es sc
def okO : O → Scope → Bool
  | .none, _ => true
  | .some e, sc => okE e sc
def okG : G → Scope → List Nat → Bool
  | .name i _, sc, L => decide (i < c.N.length) && loc sc (c.nm i) && decide (i ∈ L)
  | .tup gs _ _, sc, L => okGL gs sc L
  | .sub a b _, sc, _ => okE a sc && okE b sc
def okGL : GL → Scope → List Nat → Bool
  | .nil, _, _ => true
  | .cons g gs, sc, L => okG g sc L && okGL gs sc L
def okI : I → Scope → Bool
  | .seq e, sc => okE e sc
  | .rng1 a _ _, sc => okE a sc && gl sc "range"
  | .rng2 a b _ _, sc => okE a sc && okE b sc && gl sc "range"
  | .rng3 _ _ _ _ _, _ => false
  | .enum e _ _, sc => okE e sc && gl sc "enumerate"
  | .zip a b _ _, sc => okE a sc && okE b sc && gl sc "zip"
end
end
structure Sees (X : Cx) (sc : Scope) : Prop where
  vis : ∀ x, isVis sc x = true → Vis X.env.scope x
  gl : ∀ x, sc.names.lookup x = some .globalImplicit → Gl X x
  loc : ∀ x, sc.names.lookup x = some .local → X.env.scope.names.lookup x = some .local
  cel : ∀ x, sc.names.lookup x = some .cell → X.env.scope.names.lookup x = some .cell
  fre : ∀ x, sc.names.lookup x = some .cell ∨ sc.names.lookup x = some .free → X.env.scope.names.lookup x = some .cell ∨ X.env.scope.names.lookup x = some .free
  fnc : ∀ x, sc.names.lookup x = some .cell → X.fn x = true
structure Hx (X : Cx) (B : Bd) (F : Fx) (c : Ctx) (cs : List Nat) (gs : List (Str × Int)) : Prop where
  K : X.K = B.K
  w : X.w = B.w
  P : X.prog = B.P
  N : X.N = c.N
  nd : X.N.Nodup
  calm : X.calm = true
  room : X.A.units + 66 < cLine
  call : ∀ f, cs.contains f = true → CallOk X.prog X.w X.K X.mg X.base X.A B (c.fn f) (F.call f)
  blt : ∀ b, okBi b = true → X.mg (biOf b) = none
  rng : X.mg "range" = none
  enm : X.mg "enumerate" = none
  zp : X.mg "zip" = none
  isi : X.mg "isinstance" = none
  tys : ∀ t, okTy t = true → X.mg (Str.ofString (tyStr t)) = none
  gi : ∀ x i, gs.contains (x, i) = true → ∃ t, X.mg x = some (.int i t)

theorem lookup_relS_free {sc : Scope} : ∀ {names : List (Str × NameKind)} {x : Str}, names.lookup x = some .free →
    (names.map fun (n, k) => if (k == NameKind.free && sc.kind == .function && sc.names.lookup n == some .cell) then (n, NameKind.cell) else (n, k)).lookup x = some .cell ∨
    (names.map fun (n, k) => if (k == NameKind.free && sc.kind == .function && sc.names.lookup n == some .cell) then (n, NameKind.cell) else (n, k)).lookup x = some .free
  | [], _, h => by simp at h
  | (n, k₀) :: r, x, h => by
    have ih := @lookup_relS_free sc r x
    show List.lookup x ((if (k₀ == NameKind.free && sc.kind == .function && sc.names.lookup n == some .cell) = true then (n, NameKind.cell) else (n, k₀)) :: (r.map _)) = _ ∨ List.lookup x ((if (k₀ == NameKind.free && sc.kind == .function && sc.names.lookup n == some .cell) = true then (n, NameKind.cell) else (n, k₀)) :: (r.map _)) = _
    cases hx : x == n with
    | true =>
      simp only [List.lookup_cons, hx] at h
      cases h
      by_cases hc : ((NameKind.free : NameKind) == NameKind.free && sc.kind == .function && sc.names.lookup n == some .cell) = true
      · rw [if_pos hc]; simp only [List.lookup_cons, hx]; exact .inl trivial
      · rw [if_neg hc]; simp only [List.lookup_cons, hx]; exact .inr trivial
    | false =>
      simp only [List.lookup_cons, hx] at h
      by_cases hc : (k₀ == NameKind.free && sc.kind == .function && sc.names.lookup n == some .cell) = true
      · rw [if_pos hc]; simp only [List.lookup_cons, hx]; exact ih h
      · rw [if_neg hc]; simp only [List.lookup_cons, hx]; exact ih h
section
variable {X : Cx} {sc scope : Scope} {B : Bd} {F : Fx} {c : Ctx} {cs : List Nat} {gs : List (Str × Int)}
theorem Sees.blk (s : Shared) (H : Hp) (C : Addr) (cl : List (Str × Addr)) (fp : List Addr) : Sees (X.blk s H scope (compEnvC scope cl C X.env) fp) scope where
  vis := fun x h => by
    have keep : ∀ {k}, k ≠ .free → scope.names.lookup x = some k → (X.blk s H scope (compEnvC scope cl C X.env) fp).env.scope.names.lookup x = some k := fun hk e => lookup_relS_keep (sc := X.env.scope) hk e
    rcases isVis_ok h with e | e | e
    · exact .inl (keep (by decide) e)
    · exact .inr (.inl (keep (by decide) e))
    · rcases lookup_relS_free (sc := X.env.scope) e with e | e
      · exact .inr (.inl e)
      · exact .inr (.inr e)
  gl := fun x e => lookup_relS_keep (sc := X.env.scope) (by decide) e
  loc := fun x e => lookup_relS_keep (sc := X.env.scope) (by decide) e
  cel := fun x e => lookup_relS_keep (sc := X.env.scope) (by decide) e
  fre := fun x h => by
    rcases h with e | e
    · exact .inl (lookup_relS_keep (sc := X.env.scope) (by decide) e)
    · exact lookup_relS_free (sc := X.env.scope) e
  fnc := fun x e => by
    show (scope.names.lookup x == some .cell) = true
    rw [e]; rfl
theorem Hx.blk (hx : Hx X B F c cs gs) (s : Shared) (H : Hp) (scope : Scope) (C : Addr) (cl : List (Str × Addr)) (fp : List Addr) : Hx (X.blk s H scope (compEnvC scope cl C X.env) fp) B F c cs gs :=
  ⟨hx.K, hx.w, hx.P, hx.N, hx.nd, hx.calm, hx.room, hx.call, hx.blt, hx.rng, hx.enm, hx.zp, hx.isi, hx.tys, hx.gi⟩
theorem gl_ok (hs : Sees X sc) {x : Str} (h : gl sc x = true) : Gl X x ∧ (x == ("__debug__" : Str)) = false := by
  unfold gl at h
  simp only [Bool.and_eq_true, decide_eq_true_eq] at h
  exact ⟨hs.gl x h.1.1, beq_eq_false_iff_ne.mpr h.1.2⟩
theorem blkC_ok {own : List (Str × Nat)} (hx : Hx X B F c cs gs) (hs : Sees X sc) (h : blkC c.N sc scope own = true) : BlkOk X.N X.env.scope scope own := by
  unfold blkC at h
  simp only [Bool.and_eq_true, decide_eq_true_eq, List.all_eq_true, Bool.or_eq_true, Bool.not_eq_true', decide_eq_false_iff_not, Bool.or_eq_false_iff] at h
  obtain ⟨⟨⟨⟨h1, h2⟩, h3⟩, h4⟩, h5⟩ := h
  refine ⟨h1, h2, fun p m => by rw [hx.N]; exact h3 p m, fun y m e => hs.fre _ ?_, fun y m e => ?_⟩
  · rcases h4 y m with q | q
    · exact absurd e q
    · exact q
  · rcases h5 y m with q | q
    · rcases e with e | e
      · exact absurd e q.1
      · exact absurd e q.2
    · rw [hx.N]; exact q
theorem elLen0 : ∀ {es : EL}, elLen es = 0 → es = .nil
  | .nil, _ => rfl
  | .cons _ _, h => by simp [elLen] at h
theorem elLen1 : ∀ {es : EL}, elLen es = 1 → ∃ e, es = .cons e .nil
  | .nil, h => by simp [elLen] at h
  | .cons e es, h => by
    simp only [elLen] at h
    have := elLen0 (es := es) (by omega)
    exact ⟨e, by rw [this]⟩
theorem elLen2 : ∀ {es : EL}, elLen es = 2 → ∃ e f, es = .cons e (.cons f .nil)
  | .nil, h => by simp [elLen] at h
  | .cons e es, h => by
    simp only [elLen] at h
    obtain ⟨f, this⟩ := elLen1 (es := es) (by omega)
    exact ⟨e, f, by rw [this]⟩
theorem elPos : ∀ {es : EL}, 0 < elLen es → ∃ e r, es = .cons e r
  | .nil, h => by simp [elLen] at h
  | .cons e es, h => ⟨e, es, rfl⟩
theorem nm_ok {i : Nat} (hx : Hx X B F c cs gs) (h : i < c.N.length) : X.N[i]? = some (c.nm i) := by
  rw [hx.N]
  unfold Ctx.nm
  rw [List.getD_eq_getElem?_getD, List.getElem?_eq_getElem h]
  rfl
theorem base_ok {o : E} {name : Str} {env : Env} (h : bmObj o = true) (x : Sem Value) : attributeBase (toE c o) name env x = x := by
  cases o <;> first | rfl | cases h
theorem marks_ok (op : CmpOp) (e : E) : behindInMarks op (toE c e) = false := by cases e <;> rfl
theorem plainIx_ok (e : E) : PlainIx (toE c e) := by cases e <;> intro _ _ <;> rfl
theorem folded_ok (i : I) (env : Env) : ∀ x, foldedSetIterable (toI c i) env x = pure x := by
  intro x
  cases i with
  | seq e => cases e <;> rfl
  | _ => rfl
theorem takes0 (s : Shared) (H : Hp) (scope : Scope) (e : Env) (fp : List Addr) : Takes (X.blk s H scope e fp) W0 := fun _ _ ⟨_, _, _, _, _, _, _, _, _, _, _, _, _, _, _, _, w⟩ => w.elim
end
end FF
end

section
set_option Elab.async false
set_option linter.all false
set_option maxRecDepth 100000
set_option maxHeartbeats 4000000
/-! FE23: expressions, by their build. -/
namespace FF
open PySem PySem.Spec PySem.SeqAt
open PyProof.Rows hiding St
open L2 hiding start It

section
variable {B : Bd} {F : Fx} {c : Ctx} {cs : List Nat} {gs : List (Str × Int)}
/-- what is shown of an expression -/
abbrev GE (B : Bd) (F : Fx) (c : Ctx) (X : Cx) (W : WX) (e : E) : Prop := PE X (toE c e) (tV B W (evE F e)) ∧ PT X (toE c e) (tVT B W (evE F e))
theorem both {X : Cx} {W : WX} {e : E} (h : PE X (toE c e) (tV B W (evE F e))) (he : ∀ whole, isTrue (toE c e) X.env whole = (do let v ← whole; standAt (toE c e).pos; holding [v] (truthy v))) : GE B F c X W e := ⟨h, pt_ofE h he⟩
theorem anyStar2 (es : EL) (env : Env) (pos : Pos) : (backTo pos (starEach (toEL c es) env)).any (·.1) = false := anyStar env es
theorem toGL_len (env : Env) : ∀ gs : GL, (assignEach (toGL c gs) env).length = glLen gs
  | .nil => rfl
  | .cons g gs => by
    show (assignEach (toG c g :: toGL c gs) env).length = _
    rw [assign_of (toG_star g), List.length_cons, toGL_len env gs, glLen]
theorem toGL_plain (env : Env) : ∀ gs : GL, (assignEach (toGL c gs) env).findIdx? (·.1) = none
  | .nil => rfl
  | .cons g gs => by
    show (assignEach (toG c g :: toGL c gs) env).findIdx? _ = _
    rw [assign_of (toG_star g), List.findIdx?_cons, toGL_plain env gs]
    rfl

theorem toEL_len : ∀ es : EL, (toEL c es).length = elLen es
  | .nil => rfl
  | .cons e es => by
    show (toE c e :: toEL c es).length = _
    rw [List.length_cons, toEL_len es, elLen]
theorem keysE_len : ∀ {es : EL} {ks : List (Int ⊕ Str)}, keysE es = some ks → elLen es = ks.length
  | .nil, ks, h => by cases h; rfl
  | .cons e es, ks, h => by
    simp only [keysE] at h
    split at h
    · rename_i k r h1 h2
      cases h
      simp only [elLen, List.length_cons, keysE_len h2]
    · cases h
mutual
theorem pE : ∀ (e : E) {X : Cx} {sc : Scope} {W : WX}, Hx X B F c cs gs → Sees X sc → Takes X W → okE c cs gs e sc = true → GE B F c X W e
  | .var i p, X, sc, W, hx, hs, tk, ok => by
    simp only [okE, Bool.and_eq_true, decide_eq_true_eq] at ok
    exact both (fe_var (nm_ok hx ok.1.1) (hs.vis _ ok.1.2) ok.2 F) fun _ => rfl
  | .gint x i p, X, sc, W, hx, hs, tk, ok => by
    simp only [okE, Bool.and_eq_true] at ok
    obtain ⟨t, e⟩ := hx.gi x i ok.2
    obtain ⟨g1, g2⟩ := gl_ok hs ok.1
    exact both (fe_const (d := .int i) (pe_glob (v := .int i) g1 e ⟨t, rfl⟩ g2) fun _ _ => by simp only [Rp]) fun _ => rfl
  | .int i k p, X, sc, W, hx, hs, tk, ok => both (fe_const (d := .int i) pe_int fun _ _ => by simp only [Rp]) fun _ => rfl
  | .str i k p, X, sc, W, hx, hs, tk, ok => both (fe_const (d := .str i) pe_str fun _ _ => by simp only [Rp]) fun _ => rfl
  | .bl i k p, X, sc, W, hx, hs, tk, ok => both (fe_const (d := .bl i) pe_bl fun _ _ => by simp only [Rp]) fun _ => rfl
  | .non k p, X, sc, W, hx, hs, tk, ok => both (fe_const (d := .non) pe_non fun _ _ => by simp only [Rp]) fun _ => rfl
  | .tup es k p, X, sc, W, hx, hs, tk, ok => both (fe_tup (pL es hx hs tk ok)) fun _ => rfl
  | .lst es p, X, sc, W, hx, hs, tk, ok => both (fe_lst (pL es hx hs tk ok)) fun _ => rfl
  | .bin op a b p, X, sc, W, hx, hs, tk, ok => by
    simp only [okE, Bool.and_eq_true] at ok
    exact both (fe_bin hx.K (pE a hx hs tk ok.1).1 (pE b hx hs tk ok.2).1) fun _ => rfl
  | .neg a p, X, sc, W, hx, hs, tk, ok => both (fe_neg (pE a hx hs tk ok).1) fun _ => rfl
  | .cmp op a b p, X, sc, W, hx, hs, tk, ok => by
    simp only [okE, Bool.and_eq_true] at ok
    have ha := (pE a hx hs tk ok.1).1
    have hb := (pE b hx hs tk ok.2).1
    exact ⟨fe_cmp hx.K hx.w hx.P hx.room (marks_ok _ b) ha hb, fe_cmpT hx.K hx.w hx.P hx.room (marks_ok _ b) ha hb⟩
  | .chain op op' a b d p, X, sc, W, hx, hs, tk, ok => by
    simp only [okE, Bool.and_eq_true] at ok
    exact fe_chain hx.K hx.w hx.P hx.room (marks_ok _ d) (pE a hx hs tk ok.1.1).1 (pE b hx hs tk ok.1.2).1 (pE d hx hs tk ok.2).1
  | .not a p, X, sc, W, hx, hs, tk, ok => by
    have h := pE a hx hs tk ok
    exact fe_not h.2 h.1
  | .and es p, X, sc, W, hx, hs, tk, ok => by
    simp only [okE, Bool.and_eq_true, decide_eq_true_eq] at ok
    have h := pAnd es hx hs tk ok.1 ok.2 p
    exact ⟨h.1, h.2.pt⟩
  | .or es p, X, sc, W, hx, hs, tk, ok => by
    simp only [okE, Bool.and_eq_true, decide_eq_true_eq] at ok
    have h := pOr es hx hs tk ok.1 ok.2 p
    exact ⟨h.1, h.2.pt⟩
  | .ife t a b p, X, sc, W, hx, hs, tk, ok => by
    simp only [okE, Bool.and_eq_true] at ok
    have ht := (pE t hx hs tk ok.1.1).2
    have ha := pE a hx hs tk ok.1.2
    have hb := pE b hx hs tk ok.2
    exact ⟨fe_ife ht ha.1 hb.1, ft_ife ht ha.2 hb.2⟩
  | .ix a b p, X, sc, W, hx, hs, tk, ok => by
    simp only [okE, Bool.and_eq_true] at ok
    exact both (fe_ix hx.K hx.w hx.P hx.room (plainIx_ok b) (pE a hx hs tk ok.1).1 (pE b hx hs tk ok.2).1) fun _ => rfl
  | .sl a lo hi p q, X, sc, W, hx, hs, tk, ok => by
    simp only [okE, Bool.and_eq_true] at ok
    exact both (fe_sl hx.K (pE a hx hs tk ok.1.1).1 (pO lo hx hs tk ok.1.2) (pO hi hx hs tk ok.2)) fun _ => rfl
  | .call f .nil fp p, X, sc, W, hx, hs, tk, ok => by simp [okE, elLen] at ok
  | .call f (.cons a es) fp p, X, sc, W, hx, hs, tk, ok => by
    simp only [okE, Bool.and_eq_true] at ok
    obtain ⟨g1, g2⟩ := gl_ok hs ok.1.1.2
    have hl := pL (.cons a es) hx hs tk ok.2
    exact both (fe_call tk (hx.call f ok.1.1.1) g1 g2 (toE_star a) (anyStar2 es) hl) fun _ => rfl
  | .bi b .nil fp p, X, sc, W, hx, hs, tk, ok => by
    simp only [okE, Bool.and_eq_true, elLen, Bool.or_eq_true, decide_eq_true_eq, Nat.lt_irrefl, false_or] at ok
    obtain ⟨⟨⟨o1, o2⟩, rfl⟩, o4⟩ := ok
    exact both (fe_set0 hx.w (gl_ok hs o2).1 (hx.blt .set0 rfl)) fun _ => rfl
  | .bi b (.cons a es) fp p, X, sc, W, hx, hs, tk, ok => by
    simp only [okE, Bool.and_eq_true] at ok
    have hl := pL (.cons a es) hx hs tk ok.2
    exact both (fe_bi hx.K hx.w hx.P hx.calm hx.room ok.1.1.1 (gl_ok hs ok.1.1.2).1 (hx.blt b ok.1.1.1) (toE_star a) (anyStar2 es) hl) fun _ => rfl
  | .lrg .nil fp rp q p, X, sc, W, hx, hs, tk, ok => by simp [okE, elLen] at ok
  | .lrg (.cons a .nil) fp rp q p, X, sc, W, hx, hs, tk, ok => by
    simp only [okE, okL, Bool.and_eq_true] at ok
    exact both (fe_lrg1 hx.calm (gl_ok hs ok.1.1.1).1 (hx.blt .list rfl) (gl_ok hs ok.1.1.2).1 hx.rng (toE_star a) (pE a hx hs tk ok.2.1).1) fun _ => rfl
  | .lrg (.cons a (.cons b .nil)) fp rp q p, X, sc, W, hx, hs, tk, ok => by
    simp only [okE, okL, Bool.and_eq_true] at ok
    exact both (fe_lrg2 hx.calm (gl_ok hs ok.1.1.1).1 (hx.blt .list rfl) (gl_ok hs ok.1.1.2).1 hx.rng (toE_star a) (toE_star b) (pE a hx hs tk ok.2.1).1 (pE b hx hs tk ok.2.2.1).1) fun _ => rfl
  | .lrg (.cons a (.cons b (.cons d r))) fp rp q p, X, sc, W, hx, hs, tk, ok => by
    exfalso
    simp only [okE, elLen, Bool.and_eq_true, Bool.or_eq_true] at ok
    rcases ok.1.2 with h | h
    · have := of_decide_eq_true h
      omega
    · have := of_decide_eq_true h
      omega
  | .bm m o es ap p, X, sc, W, hx, hs, tk, ok => by
    simp only [okE, Bool.and_eq_true] at ok
    obtain ⟨⟨⟨⟨o1, o2⟩, o3⟩, o4⟩, o5⟩ := ok
    have ho := (pE o hx hs tk o1).1
    have hl := pL es hx hs tk o3
    by_cases hm : m = .pop
    · subst hm
      have o5 : elLen es = 0 := by simpa using o5
      have e := elLen0 o5
      subst e
      exact both (fe_bm0 hx.K (base_ok o2 _) o4 ho) fun _ => rfl
    · have o5 : elLen es = 1 := by simpa [hm] using o5
      obtain ⟨a, e⟩ := elLen1 o5
      subst e
      exact both (fe_bm hx.K hx.w hm (base_ok o2 _) o4 (toE_star a) ho hl) fun _ => rfl
  | .isi a t fp tp p, X, sc, W, hx, hs, tk, ok => by
    simp only [okE, Bool.and_eq_true] at ok
    obtain ⟨⟨⟨o1, o2⟩, o3⟩, o4⟩ := ok
    have ha := (pE a hx hs tk o1).1
    have e : c.ty t = Str.ofString (tyStr t) := by cases t <;> first | rfl | cases o2
    have h := fe_isi (B := B) (W := W) (t := t) (fp := fp) (tp := tp) (p := p) hx.K o2 (gl_ok hs o3).1 hx.isi (gl_ok hs o4).1 (hx.tys t o2) (toE_star a) ha
    rw [← e] at h
    exact both h fun _ => rfl
  | .exf _ _ _ _, X, sc, W, hx, hs, tk, ok => by cases ok
  | .disp ks vs p, X, sc, W, hx, hs, tk, ok => by
    simp only [okE, Bool.and_eq_true] at ok
    obtain ⟨o1, o2⟩ := ok
    cases hk : keysE ks with
    | none => rw [hk] at o1; cases o1
    | some keys =>
      rw [hk] at o1
      simp only [Bool.and_eq_true, decide_eq_true_eq] at o1
      obtain ⟨⟨n1, n2⟩, n3⟩ := o1
      have len : ∀ {es : EL}, (toEL c es).length = elLen es := fun {es} => toEL_len es
      refine both (fe_disp hk n1 n2 n3 (pPP vs hx hs tk o2 ks keys hk n3 p) ?_ ?_ ?_) fun _ => rfl
      · simp
      · rw [List.length_map, len, len, n3, keysE_len hk]
      · rw [List.length_map, len, keysE_len hk]
  | .dnew n p, X, sc, W, hx, hs, tk, ok => both (fe_dnew n hx.w hx.P) fun _ => rfl
  | .lc own sc' tg it ifs elt p, X, sc, W, hx, hs, tk, ok => by
    simp only [okE, Bool.and_eq_true, decide_eq_true_eq] at ok
    obtain ⟨⟨⟨⟨⟨⟨o1, o2⟩, o3⟩, o4⟩, o5⟩, o6⟩, o7⟩ := ok
    have sh : plainI it = true ∨ ∃ es k p, toG c tg = .Tuple es k p := by
      rw [Bool.or_eq_true] at o2
      rcases o2 with o2 | o2
      · cases tg with
        | tup gs k p => exact .inr ⟨_, _, _, rfl⟩
        | _ => cases o2
      · exact .inl o2
    exact both (fe_lc (wf := F.wf) hx.K hx.calm hx.nd (pI it (toG c tg) hx hs tk o1 sh) (blkC_ok hx hs o3) (fun s H C cl fp => pG tg (hx.blk s H sc' C cl fp) (Sees.blk s H C cl fp) (takes0 s H sc' _ fp) o4)
      (fun s H C cl fp => pTs ifs (hx.blk s H sc' C cl fp) (Sees.blk s H C cl fp) (takes0 s H sc' _ fp) o5 o6) (fun s H C cl fp => (pE elt (hx.blk s H sc' C cl fp) (Sees.blk s H C cl fp) (takes0 s H sc' _ fp) o7).1) (folded_ok it X.env)).2 fun _ => rfl
theorem pPP : ∀ (es : EL) {X : Cx} {sc : Scope} {W : WX}, Hx X B F c cs gs → Sees X sc → Takes X W → okL c cs gs es sc = true → ∀ (ks : EL) (keys : List (Int ⊕ Str)), keysE ks = some keys → elLen es = keys.length → ∀ p, PPs X p ((toEL c ks).map some) (toEL c es) (trsOf B F W keys es)
  | .nil, X, sc, W, hx, hs, tk, ok, .nil, keys, hk, hl, p => by
    cases hk
    exact pps_nil
  | .nil, X, sc, W, hx, hs, tk, ok, .cons k ks, keys, hk, hl, p => by
    rw [← keysE_len hk] at hl
    simp [elLen] at hl
  | .cons e es, X, sc, W, hx, hs, tk, ok, .nil, keys, hk, hl, p => by
    cases hk
    simp [elLen] at hl
  | .cons e es, X, sc, W, hx, hs, tk, ok, .cons k ks, keys, hk, hl, p => by
    simp only [okL, Bool.and_eq_true] at ok
    simp only [keysE] at hk
    split at hk
    · rename_i q r h1 h2
      cases hk
      exact pps_cons (keyE_pe h1) (pE e hx hs tk ok.1).1 (pPP es hx hs tk ok.2 ks r h2 (by simpa [elLen] using hl) p)
    · cases hk
theorem pTs : ∀ (es : EL) {X : Cx} {sc : Scope} {W : WX}, Hx X B F c cs gs → Sees X sc → Takes X W → elLen es ≤ 1 → okL c cs gs es sc = true → PTs X (toEL c es) (tVTs B W (evIfs F es))
  | .nil, X, sc, W, hx, hs, tk, n, ok => fts_nil
  | .cons e .nil, X, sc, W, hx, hs, tk, n, ok => by
    simp only [okL, Bool.and_eq_true] at ok
    exact fts_one (pE e hx hs tk ok.1).2
  | .cons e (.cons e2 es), X, sc, W, hx, hs, tk, n, ok => by
    simp only [elLen] at n
    omega
theorem pL : ∀ (es : EL) {X : Cx} {sc : Scope} {W : WX}, Hx X B F c cs gs → Sees X sc → Takes X W → okL c cs gs es sc = true → PA X (toEL c es) (tVL B W (evL F es))
  | .nil, X, sc, W, hx, hs, tk, ok => fa_nil
  | .cons e es, X, sc, W, hx, hs, tk, ok => by
    simp only [okL, Bool.and_eq_true] at ok
    exact fa_cons (toE_star e) (pE e hx hs tk ok.1).1 (pL es hx hs tk ok.2)
theorem pAnd : ∀ (es : EL) {X : Cx} {sc : Scope} {W : WX}, Hx X B F c cs gs → Sees X sc → Takes X W → 0 < elLen es → okL c cs gs es sc = true → ∀ p, PE X (.BoolOp .And (toEL c es) p) (tV B W (evAnd F es)) ∧ PW X (.BoolOp .And (toEL c es) p) (tVT B W (evAnd F es))
  | .nil, X, sc, W, hx, hs, tk, n, ok, p => absurd n (Nat.lt_irrefl 0)
  | .cons e .nil, X, sc, W, hx, hs, tk, n, ok, p => by
    simp only [okL, Bool.and_eq_true] at ok
    have h := pE e hx hs tk ok.1
    exact ⟨pe_one h.1, pw_and1 h.2⟩
  | .cons e (.cons e2 es), X, sc, W, hx, hs, tk, n, ok, p => by
    simp only [okL, Bool.and_eq_true] at ok
    have h := pE e hx hs tk ok.1
    have r := pAnd (.cons e2 es) hx hs tk (Nat.succ_pos _) (by simp only [okL, Bool.and_eq_true]; exact ok.2) p
    exact ⟨fe_and h.1 r.1, fw_and h.2 r.2⟩
theorem pOr : ∀ (es : EL) {X : Cx} {sc : Scope} {W : WX}, Hx X B F c cs gs → Sees X sc → Takes X W → 0 < elLen es → okL c cs gs es sc = true → ∀ p, PE X (.BoolOp .Or (toEL c es) p) (tV B W (evOr F es)) ∧ PW X (.BoolOp .Or (toEL c es) p) (tVT B W (evOr F es))
  | .nil, X, sc, W, hx, hs, tk, n, ok, p => absurd n (Nat.lt_irrefl 0)
  | .cons e .nil, X, sc, W, hx, hs, tk, n, ok, p => by
    simp only [okL, Bool.and_eq_true] at ok
    have h := pE e hx hs tk ok.1
    exact ⟨pe_one h.1, pw_or1 h.2⟩
  | .cons e (.cons e2 es), X, sc, W, hx, hs, tk, n, ok, p => by
    simp only [okL, Bool.and_eq_true] at ok
    have h := pE e hx hs tk ok.1
    have r := pOr (.cons e2 es) hx hs tk (Nat.succ_pos _) (by simp only [okL, Bool.and_eq_true]; exact ok.2) p
    exact ⟨fe_or h.1 r.1, fw_or h.2 r.2⟩
theorem pO : ∀ (o : O) {X : Cx} {sc : Scope} {W : WX}, Hx X B F c cs gs → Sees X sc → Takes X W → okO c cs gs o sc = true → PO X (toO c o) (tVO B W (evO F o))
  | .none, X, sc, W, hx, hs, tk, ok => fo_none
  | .some e, X, sc, W, hx, hs, tk, ok => fo_some (pE e hx hs tk ok).1
theorem pI : ∀ (i : I) {X : Cx} {sc : Scope} {W : WX} (tg : Expr), Hx X B F c cs gs → Sees X sc → Takes X W → okI c cs gs i sc = true → (plainI i = true ∨ ∃ es k p, tg = .Tuple es k p) → PI X tg (toI c i) (tVI B W (evI F i))
  | .seq e, X, sc, W, tg, hx, hs, tk, ok, sh => fi_seq hx.K (pE e hx hs tk ok).1
  | .rng1 a fp p, X, sc, W, tg, hx, hs, tk, ok, sh => by
    simp only [okI, Bool.and_eq_true] at ok
    exact fi_rng1 (gl_ok hs ok.2).1 hx.rng (toE_star a) (pE a hx hs tk ok.1).1
  | .rng2 a b fp p, X, sc, W, tg, hx, hs, tk, ok, sh => by
    simp only [okI, Bool.and_eq_true] at ok
    exact fi_rng2 (gl_ok hs ok.2).1 hx.rng (toE_star a) (toE_star b) (pE a hx hs tk ok.1.1).1 (pE b hx hs tk ok.1.2).1
  | .rng3 _ _ _ _ _, X, sc, W, tg, hx, hs, tk, ok, sh => by cases ok
  | .enum e fp p, X, sc, W, tg, hx, hs, tk, ok, sh => by
    simp only [okI, Bool.and_eq_true] at ok
    rcases sh with sh | ⟨es, k, q, rfl⟩
    · cases sh
    · exact fi_enum hx.K (gl_ok hs ok.2).1 hx.enm (toE_star e) (pE e hx hs tk ok.1).1
  | .zip a b fp p, X, sc, W, tg, hx, hs, tk, ok, sh => by
    simp only [okI, Bool.and_eq_true] at ok
    rcases sh with sh | ⟨es, k, q, rfl⟩
    · cases sh
    · exact fi_zip hx.K (gl_ok hs ok.2).1 hx.zp (toE_star a) (toE_star b) (pE a hx hs tk ok.1.1).1 (pE b hx hs tk ok.1.2).1
theorem pG : ∀ (g : G) {X : Cx} {sc : Scope} {W : WX} {L : List Nat}, Hx X B F c cs gs → Sees X sc → Takes X W → okG c cs gs g sc L = true → PG X (toG c g) (tVG B L (evG F g))
  | .name i p, X, sc, W, L, hx, hs, tk, ok => by
    simp only [okG, Bool.and_eq_true, decide_eq_true_eq] at ok
    have hl := ok.1.2
    simp only [loc, Bool.or_eq_true, decide_eq_true_eq] at hl
    refine fg_name hx.nd (nm_ok hx ok.1.1) ?_ ?_ ok.2
    · rcases hl with e | e
      · exact .inl (hs.loc _ e)
      · exact .inr (hs.cel _ e)
    · rcases hl with e | e
      · exact .inr (hs.loc _ e)
      · exact .inl (hs.fnc _ e)
  | .tup gs' k p, X, sc, W, L, hx, hs, tk, ok => fg_tup hx.K hx.calm (toGL_plain _ gs') (toGL_len _ gs') (pGL gs' hx hs tk ok)
  | .sub a b p, X, sc, W, L, hx, hs, tk, ok => by
    simp only [okG, Bool.and_eq_true] at ok
    exact fg_sub hx.K hx.w hx.P hx.room (pE a hx hs tk ok.1).1 (pE b hx hs tk ok.2).1 fun _ => by cases b <;> rfl
theorem pGL : ∀ (gs' : GL) {X : Cx} {sc : Scope} {W : WX} {L : List Nat}, Hx X B F c cs gs → Sees X sc → Takes X W → okGL c cs gs gs' sc L = true → PGs X (toGL c gs') (tVGs B L (evGL F gs'))
  | .nil, X, sc, W, L, hx, hs, tk, ok => fg_nil
  | .cons g gs', X, sc, W, L, hx, hs, tk, ok => by
    simp only [okGL, Bool.and_eq_true] at ok
    exact fg_cons (toG_star g) (pG g hx hs tk ok.1) (pGL gs' hx hs tk ok.2)
end
end
end FF
end

section
set_option Elab.async false
set_option linter.all false
set_option maxRecDepth 100000
set_option maxHeartbeats 4000000
/-! FE24: statements, case by case. -/
namespace FF
open PySem PySem.Spec PySem.SeqAt
open PyProof.Rows hiding St
open L2 hiding start It

section
variable {B : Bd}
def FinS (B : Bd) (W : WX) (ρ : List Addr) (H : Hp) (r : RS) (D : Ends) : Prop := match r with
  | .nx σ' h' => ∀ ρ' H' σV', Ltr ρ H ρ' H' → B.S ρ' H' h' σ' σV' → D.nx σV' H'
  | .bk σ' h' => ∀ ρ' H' σV', Ltr ρ H ρ' H' → B.S ρ' H' h' σ' σV' → D.bk σV' H'
  | .ct σ' h' => ∀ ρ' H' σV', Ltr ρ H ρ' H' → B.S ρ' H' h' σ' σV' → D.ct σV' H'
  | .rt v h' => ∀ ρ' H' x, Ltr ρ H ρ' H' → B.H ρ' H' h' → Rp B.K ρ' H' v x → D.rt x H'
  | .ex x σ' h' => ∀ ρ' H' σV' c d, Ltr ρ H ρ' H' → B.S ρ' H' h' σ' σV' → B.XR x c d H' → W c d σV' H'
  | .no => False
def tVS (B : Bd) (W : WX) (ev : Sg → Hh → RS) : TS := fun D σV H => ∃ ρ h σ, B.S ρ H h σ σV ∧ FinS B W ρ H (ev σ h) D
theorem FinS.ltr {W : WX} {ρ ρ1 : List Addr} {H H1 : Hp} {h1 : Hh} {r : RS} {D : Ends} (rp : B.H ρ1 H1 h1) (l : Ltr ρ H ρ1 H1) (f : FinS B W ρ H r D) : FinS B W ρ1 H1 r D := by
  cases r with
  | nx σ' h' => exact fun ρ' H' σV' l' q => f ρ' H' σV' (Ltr.trans rp l l') q
  | bk σ' h' => exact fun ρ' H' σV' l' q => f ρ' H' σV' (Ltr.trans rp l l') q
  | ct σ' h' => exact fun ρ' H' σV' l' q => f ρ' H' σV' (Ltr.trans rp l l') q
  | rt v h' => exact fun ρ' H' x l' q => f ρ' H' x (Ltr.trans rp l l') q
  | ex x σ' h' => exact fun ρ' H' σV' c d l' q => f ρ' H' σV' c d (Ltr.trans rp l l') q
  | no => exact f
theorem FinS.bind {W : WX} {σ : Sg} {σV : L2.St} {ρ : List Addr} {H : Hp} {h : Hh} {α β : Type} {rel : List Addr → Hp → α → β → Prop} {r : R α} {f : α → Hh → RS} {D : Ends} {Q1 : β → Hp → Prop}
    (F : FinS B W ρ H (r.toS σ f) D) (rp : B.S ρ H h σ σV) (k : ∀ a h1 ρ1 H1 x, r = .ok a h1 → Ltr ρ H ρ1 H1 → B.H ρ1 H1 h1 → rel ρ1 H1 a x → FinS B W ρ1 H1 (f a h1) D → Q1 x H1) : Fin B W σV ρ H rel r Q1 := by
  cases r with
  | ok a h1 => exact fun ρ' H' x l' rp' q => k a h1 ρ' H' x rfl l' rp' q (FinS.ltr rp' l' F)
  | ex x h' => exact fun ρ' H' c d l' rp' q => F ρ' H' σV c d l' ⟨rp', RpS.ltr rp.hp l' rp.sl⟩ q
  | no => exact F
theorem ps_vs {X : Cx} {st : Stmt} {t : TS} {W : WX} {ev : Sg → Hh → RS} (h : PS X st t) (k : ∀ D σV H, tVS B W ev D σV H → t D σV H) : PS X st (tVS B W ev) := ps_mono h k

section
variable {X : Cx} {W : WX} {ea eb ec : Sg → Hh → R Dv} {a b c tg iter elt : Expr} {pos p : Pos}
theorem fs_asg {L : List Nat} {eg : Dv → Sg → Hh → R Sg} (ha : PE X a (tV B W ea)) (hg : PG X tg (tVG B L eg)) (hs : swapsWithSole [tg] a pos.line X.env = pure false) (hw : swappedStores [tg] a X.env = pure none) (h1 : (assignEach [tg] X.env).map (·.2) = [assign tg X.env]) :
    PS X (.Assign [tg] a pos) (tVS B W fun σ h => (ea σ h).toS σ fun v h1 => (eg v σ h1).noX.toS σ fun σ1 h2 => .nx σ1 h2) :=
  ps_vs (ps_asg ha hg hs hw h1) fun D σV H ⟨ρ, h, σ, rp, fin⟩ => ⟨ρ, h, σ, rp, fin.bind rp fun v h1 ρ1 H1 x _ l1 rp1 rx fin1 => ⟨ρ1, h1, σ, v, rp.ltr l1 rp1, rx, by
    cases q : eg v σ h1 with
    | ok σ1 h2 =>
      rw [q] at fin1
      exact fun ρ' H' σV' l rp' ⟨s, _⟩ => fin1 ρ' H' σV' l ⟨rp', s⟩
    | ex x h2 => rw [q] at fin1; exact fin1.elim
    | no => rw [q] at fin1; exact fin1.elim⟩⟩
theorem fs_exp (ha : PE X a (tV B W ea)) (hs : swapsWith a none pos.line X.env = pure false) : PS X (.Expr a pos) (tVS B W fun σ h => (ea σ h).toS σ fun _ h1 => .nx σ h1) :=
  ps_vs (ps_expr ha hs) fun D σV H ⟨ρ, h, σ, rp, fin⟩ => ⟨ρ, h, σ, rp, fin.bind rp fun v h1 ρ1 H1 x _ l1 rp1 rx fin1 => fin1 ρ1 H1 σV Ltr.refl (rp.ltr l1 rp1)⟩
theorem fs_ret (ha : PE X a (tV B W ea)) : PS X (.Return (some a) pos) (tVS B W fun σ h => (ea σ h).toS σ fun v h1 => .rt v h1) :=
  ps_vs (ps_ret ha) fun D σV H ⟨ρ, h, σ, rp, fin⟩ => ⟨ρ, h, σ, rp, fin.bind rp fun v h1 ρ1 H1 x _ l1 rp1 rx fin1 => fin1 ρ1 H1 x Ltr.refl rp1 rx⟩
theorem fs_retn : PS X (.Return none pos) (tVS B W fun _ h => .rt .non h) :=
  ps_vs ps_retN fun D σV H ⟨ρ, h, σ, rp, fin⟩ => fin ρ H .non Ltr.refl rp.hp (by simp only [Rp])
theorem fs_pass : PS X (.Pass pos) (tVS B W fun σ h => .nx σ h) := ps_vs ps_pass fun D σV H ⟨ρ, h, σ, rp, fin⟩ => fin ρ H σV Ltr.refl rp
theorem fs_brk : PS X (.Break pos) (tVS B W fun σ h => .bk σ h) := ps_vs ps_break fun D σV H ⟨ρ, h, σ, rp, fin⟩ => fin ρ H σV Ltr.refl rp
theorem fs_cnt : PS X (.Continue pos) (tVS B W fun σ h => .ct σ h) := ps_vs ps_continue fun D σV H ⟨ρ, h, σ, rp, fin⟩ => fin ρ H σV Ltr.refl rp
theorem fs_nev {st : Stmt} : PS X st (tVS B W fun _ _ => .no) := ps_vs ps_never fun D σV H ⟨ρ, h, σ, rp, fin⟩ => fin
theorem fs_nil : PSs X [] (tVS B W fun σ h => .nx σ h) := pss_mono pss_nil fun D σV H ⟨ρ, h, σ, rp, fin⟩ => fin ρ H σV Ltr.refl rp
def seqS (e1 e2 : Sg → Hh → RS) (σ : Sg) (h : Hh) : RS := match e1 σ h with
    | .nx σ1 h1 => e2 σ1 h1
    | r => r
theorem fs_cons {st : Stmt} {sts : List Stmt} {e1 e2 : Sg → Hh → RS} (h1 : PS X st (tVS B W e1)) (h2 : PSs X sts (tVS B W e2)) : PSs X (st :: sts) (tVS B W (seqS e1 e2)) :=
  pss_mono (pss_cons h1 h2) fun D σV H ⟨ρ, h, σ, rp, fin⟩ => ⟨ρ, h, σ, rp, by
    unfold seqS at fin
    cases q : e1 σ h with
    | nx σ1 h1 =>
      rw [q] at fin
      exact fun ρ' H' σV' l rp' => ⟨ρ', h1, σ1, rp', fin.ltr rp'.hp l⟩
    | rt v h1 => rw [q] at fin; exact fin
    | bk σ1 h1 => rw [q] at fin; exact fin
    | ct σ1 h1 => rw [q] at fin; exact fin
    | ex x σ1 h1 => rw [q] at fin; exact fin
    | no => rw [q] at fin; exact fin⟩
def ifS (ec : Sg → Hh → R Dv) (e1 e2 : Sg → Hh → RS) (σ : Sg) (h : Hh) : RS := (ec σ h).toS σ fun v h1 => match v with
    | .bl true => e1 σ h1
    | .bl false => e2 σ h1
    | _ => .no
theorem ifS_bl {e1 e2 : Sg → Hh → RS} {σ : Sg} {h : Hh} : ifS ec e1 e2 σ h = (asB (ec σ h)).toS σ fun k h1 => if k = true then e1 σ h1 else e2 σ h1 := by
  unfold ifS
  cases ec σ h with
  | ok v h1 =>
    cases v with
    | bl k => cases k <;> rfl
    | _ => rfl
  | ex x h1 => rfl
  | no => rfl
theorem fs_if {s1 s2 : List Stmt} {e1 e2 : Sg → Hh → RS} (hc : PT X c (tVT B W ec)) (h1 : PSs X s1 (tVS B W e1)) (h2 : PSs X s2 (tVS B W e2)) : PS X (.If c s1 s2 pos) (tVS B W (ifS ec e1 e2)) :=
  ps_vs (ps_if hc h1 h2) fun D σV H ⟨ρ, h, σ, rp, fin⟩ => ⟨ρ, h, σ, rp, by
    rw [ifS_bl] at fin
    exact fin.bind rp fun k h1 ρ1 H1 x _ l1 rp1 rx fin1 => by
      cases rx
      cases k with
      | true => exact ⟨ρ1, h1, σ, rp.ltr l1 rp1, fin1⟩
      | false => exact ⟨ρ1, h1, σ, rp.ltr l1 rp1, fin1⟩⟩
theorem fs_par {i j : Nat} {x y : Str} {px py pt : Pos} {kt k2 pt2} (hc : X.calm = true) (hN : X.N.Nodup) (hi : X.N[i]? = some x) (hj : X.N[j]? = some y) (hij : i ≠ j)
    (hx : X.env.scope.names.lookup x = some .local) (hy : X.env.scope.names.lookup y = some .local) (hs1 : isStar a = false) (hs2 : isStar b = false) (ha : PE X a (tV B W ea)) (hb : PE X b (tV B W eb))
    (hw : swappedStores [.Tuple [.Name x px, .Name y py] kt pt] (.Tuple [a, b] k2 pt2) X.env = pure (some [x, y])) :
    PS X (.Assign [.Tuple [.Name x px, .Name y py] kt pt] (.Tuple [a, b] k2 pt2) pos) (tVS B W fun σ h => (ea σ h).toS σ fun x h1 => (eb σ h1).toS σ fun y h2 => .nx ((σ.set i (some x)).set j (some y)) h2) :=
  ps_vs (ps_par hc hN hi hj hij hx hy (pa_cons ha (pa_cons hb pa_nil (star_of hs2)) (star_of hs1)) hw) fun D σV H ⟨ρ, h, σ, rp, fin⟩ => ⟨ρ, h, σ, rp, fin.bind rp fun x h1 ρ1 H1 xv _ l1 rp1 rx fin1 =>
    have r1 := rp.ltr l1 rp1
    ⟨ρ1, h1, σ, r1, fin1.bind r1 fun y h2 ρ2 H2 yv _ l2 rp2 ry fin2 => ⟨xv, yv, rfl, fin2 ρ2 H2 _ Ltr.refl ⟨rp2, ((r1.ltr l2 rp2).sl.set i (Rp.ltr rp1 l2 rx)).set j ry⟩⟩⟩⟩
theorem fs_par3 {i j k : Nat} {x y z : Str} {px py pz pt : Pos} {kt k2 pt2} (hc : X.calm = true) (hN : X.N.Nodup) (hi : X.N[i]? = some x) (hj : X.N[j]? = some y) (hk : X.N[k]? = some z) (hij : i ≠ j) (hik : i ≠ k) (hjk : j ≠ k)
    (hx : X.env.scope.names.lookup x = some .local) (hy : X.env.scope.names.lookup y = some .local) (hz : X.env.scope.names.lookup z = some .local) (hs1 : isStar a = false) (hs2 : isStar b = false) (hs3 : isStar c = false) (ha : PE X a (tV B W ea)) (hb : PE X b (tV B W eb)) (hc' : PE X c (tV B W ec))
    (hw : swappedStores [.Tuple [.Name x px, .Name y py, .Name z pz] kt pt] (.Tuple [a, b, c] k2 pt2) X.env = pure (some [x, y, z])) :
    PS X (.Assign [.Tuple [.Name x px, .Name y py, .Name z pz] kt pt] (.Tuple [a, b, c] k2 pt2) pos) (tVS B W fun σ h => (ea σ h).toS σ fun x h1 => (eb σ h1).toS σ fun y h2 => (ec σ h2).toS σ fun z h3 => .nx (((σ.set i (some x)).set j (some y)).set k (some z)) h3) :=
  ps_vs (ps_par3 hc hN hi hj hk hij hik hjk hx hy hz (pa_cons ha (pa_cons hb (pa_cons hc' pa_nil (star_of hs3)) (star_of hs2)) (star_of hs1)) hw) fun D σV H ⟨ρ, h, σ, rp, fin⟩ => ⟨ρ, h, σ, rp, fin.bind rp fun x h1 ρ1 H1 xv _ l1 rp1 rx fin1 =>
    have r1 := rp.ltr l1 rp1
    ⟨ρ1, h1, σ, r1, fin1.bind r1 fun y h2 ρ2 H2 yv _ l2 rp2 ry fin2 =>
      have r2 := r1.ltr l2 rp2
      ⟨ρ2, h2, σ, r2, fin2.bind r2 fun z h3 ρ3 H3 zv _ l3 rp3 rz fin3 => ⟨xv, yv, zv, rfl, fin3 ρ3 H3 _ Ltr.refl ⟨rp3, (((r2.ltr l3 rp3).sl.set i (Rp.ltr rp1 (Ltr.trans rp2 l2 l3) rx)).set j (Rp.ltr rp2 l3 ry)).set k rz⟩⟩⟩⟩⟩
def augE (op : BO) (x y : Dv) (i : Nat) (σ : Sg) (h1 : Hh) : RS := match op, x, y with
      | .add, .int i0, .int j0 => .nx (σ.set i (some (.int (i0 + j0)))) h1
      | .sub, .int i0, .int j0 => .nx (σ.set i (some (.int (i0 - j0)))) h1
      | _, _, _ => .no
theorem fs_aug {i : Nat} {x : Str} {op : BO} {py : Pos} (hop : op = .add ∨ op = .sub) (hN : X.N.Nodup) (hi : X.N[i]? = some x) (hx : Loc X.env.scope x) (hf : X.fn x = true ∨ X.env.scope.names.lookup x = some .local) (ha : PE X a (tV B W ea)) :
    PS X (.AugAssign (.Name x py) (boOf op) a pos) (tVS B W fun σ h => match σ[i]? with
    | some (some x) => (ea σ h).toS σ fun y h1 => augE op x y i σ h1
    | _ => .no) := by
  rcases hop with rfl | rfl
  · refine ps_vs (ps_aug hN hi hx ha ip_add hf) fun D σV H ⟨ρ, h, σ, rp, fin⟩ => ?_
    cases q : σ[i]? with
    | none => simp only [q] at fin; exact fin.elim
    | some o =>
      cases o with
      | none => simp only [q] at fin; exact fin.elim
      | some d =>
        simp only [q] at fin
        obtain ⟨v, e1, e2⟩ := rp.sl.get q
        refine ⟨v, e1, ρ, h, σ, rp, fin.bind rp fun y h1 ρ1 H1 yv _ l1 rp1 ry fin1 => ?_⟩
        cases d with
        | int i0 =>
          cases y with
          | int j0 =>
            simp only [Rp] at e2 ry
            subst e2 ry
            exact ⟨i0, j0, rfl, rfl, fin1 ρ1 H1 _ Ltr.refl ⟨rp1, (rp.ltr l1 rp1).sl.set i (by simp only [Rp])⟩⟩
          | _ => exact fin1.elim
        | _ => cases y <;> exact fin1.elim
  · refine ps_vs (ps_aug hN hi hx ha ip_sub hf) fun D σV H ⟨ρ, h, σ, rp, fin⟩ => ?_
    cases q : σ[i]? with
    | none => simp only [q] at fin; exact fin.elim
    | some o =>
      cases o with
      | none => simp only [q] at fin; exact fin.elim
      | some d =>
        simp only [q] at fin
        obtain ⟨v, e1, e2⟩ := rp.sl.get q
        refine ⟨v, e1, ρ, h, σ, rp, fin.bind rp fun y h1 ρ1 H1 yv _ l1 rp1 ry fin1 => ?_⟩
        cases d with
        | int i0 =>
          cases y with
          | int j0 =>
            simp only [Rp] at e2 ry
            subst e2 ry
            exact ⟨i0, j0, rfl, rfl, fin1 ρ1 H1 _ Ltr.refl ⟨rp1, (rp.ltr l1 rp1).sl.set i (by simp only [Rp])⟩⟩
          | _ => exact fin1.elim
        | _ => cases y <;> exact fin1.elim
theorem fs_for {body : List Stmt} {L : List Nat} {ei : Sg → Hh → R It} {eg : Dv → Sg → Hh → R Sg} {ebd : Sg → Hh → RS} (wf : Nat) (hp : PassesOwn (model X.prog X.w) X.A X.env X.xe) (hc : X.calm = true) (hi : PI X tg iter (tVI B W ei)) (hg : PG X tg (tVG B L eg)) (hb : PSs X body (tVS B W ebd)) (hs : ∀ x, foldedSetIterable iter X.env x = pure x) :
    PS X (.For tg iter body [] pos) (tVS B W fun σ h => (ei σ h).toS σ fun J h1 => forL (fun v σ1 h2 => (eg v σ1 h2).noX.toS σ1 fun σ2 h3 => ebd σ2 h3) J wf 0 σ h1) := by
  refine ps_vs (ps_for hp hc hi hg hb hs) fun D σV H ⟨ρ, h, σ, rp, fin⟩ => ⟨ρ, h, σ, rp, fin.bind rp fun J h1 ρ1 H1 JV _ l1 rp1 rJ fin1 => ?_⟩
  generalize hst : (fun v σ1 h2 => (eg v σ1 h2).noX.toS σ1 fun σ2 h3 => ebd σ2 h3) = step at fin1
  refine ⟨fun i m σV' H' => ∃ ρ' h' σ', B.S ρ' H' h' σ' σV' ∧ RpI B.K ρ' H' J JV ∧ FinS B W ρ' H' (forL step J m i σ' h') D, ⟨wf, ρ1, h1, σ, rp.ltr l1 rp1, rJ, fin1⟩, ?_⟩
  rintro i m σV2 H2 ⟨ρ2, h2, σ2, rp2, rJ2, fin2⟩
  cases m with
  | zero => exact fin2.elim
  | succ m =>
    unfold forL at fin2
    cases ea : It.at h2 i J with
    | none => rw [ea] at fin2; exact fin2.elim
    | some o =>
      rw [ea] at fin2
      have tn := It.turn rp2.hp rJ2 ea
      cases o with
      | none => exact .inl ⟨tn, fin2 ρ2 H2 σV2 Ltr.refl rp2⟩
      | some v =>
        obtain ⟨go, yl⟩ := tn
        simp only at fin2
        refine .inr ⟨go, fun σV' H' => ∃ ρ' h' σ', B.S ρ' H' h' σ' σV' ∧ RpI B.K ρ' H' J JV ∧ FinS B W ρ' H' (forL step J m (i + 1) σ' h') D, fun σ' H' w => ⟨m, Nat.lt_succ_self m, w⟩, fun x H' y => ?_⟩
        obtain ⟨l3, rp3, rx⟩ := yl x H' y
        have s3 : B.S ρ2 H' h2 σ2 σV2 := rp2.ltr l3 rp3
        refine ⟨ρ2, h2, σ2, v, s3, rx, ?_⟩
        have st : step v σ2 h2 = (eg v σ2 h2).noX.toS σ2 fun σ2 h3 => ebd σ2 h3 := by rw [← hst]
        rw [st] at fin2
        cases e1 : eg v σ2 h2 with
        | ex => rw [e1] at fin2; exact fin2.elim
        | no => rw [e1] at fin2; exact fin2.elim
        | ok σ4 h4 =>
          have st2 : (R.ok σ4 h4).noX.toS σ2 (fun σ2 h3 => ebd σ2 h3) = ebd σ4 h4 := rfl
          rw [e1, st2] at fin2
          intro ρ4 H4 σV4 l4 rp4 ⟨sl4, _⟩
          have lt4 : Ltr ρ2 H2 ρ4 H4 := Ltr.trans rp3 l3 l4
          have rJ4 := RpI.ltr rp2.hp lt4 rJ2
          refine ⟨ρ4, h4, σ4, ⟨rp4, sl4⟩, ?_⟩
          cases e2 : ebd σ4 h4 with
          | nx σ5 h5 =>
            rw [e2] at fin2
            exact fun ρ5 H5 σV5 l5 rp5 => ⟨ρ5, h5, σ5, rp5, RpI.ltr rp4 l5 rJ4, fin2.ltr rp5.hp (Ltr.trans rp4 lt4 l5)⟩
          | ct σ5 h5 =>
            rw [e2] at fin2
            exact fun ρ5 H5 σV5 l5 rp5 => ⟨ρ5, h5, σ5, rp5, RpI.ltr rp4 l5 rJ4, fin2.ltr rp5.hp (Ltr.trans rp4 lt4 l5)⟩
          | bk σ5 h5 => rw [e2] at fin2; exact fin2.ltr rp4 lt4
          | rt u h5 => rw [e2] at fin2; exact fin2.ltr rp4 lt4
          | ex u σ5 h5 => rw [e2] at fin2; exact fin2.ltr rp4 lt4
          | no => rw [e2] at fin2; exact fin2
theorem fs_whl {body : List Stmt} {ebd : Sg → Hh → RS} (wf : Nat) (hp : PassesOwn (model X.prog X.w) X.A X.env X.xe) (hc : PT X c (tVT B W ec)) (hb : PSs X body (tVS B W ebd)) :
    PS X (.While c body [] pos) (tVS B W fun σ h => whileL (fun σ1 h1 => ec σ1 h1) (fun σ1 h1 => ebd σ1 h1) wf σ h) := by
  refine ps_vs (ps_while hp hc hb) fun D σV H ⟨ρ, h, σ, rp, fin⟩ => ?_
  refine ⟨fun m σV' H' => ∃ ρ' h' σ', B.S ρ' H' h' σ' σV' ∧ FinS B W ρ' H' (whileL ec ebd m σ' h') D, ⟨wf, ρ, h, σ, rp, fin⟩, ?_⟩
  rintro m σV2 H2 ⟨ρ2, h2, σ2, rp2, fin2⟩
  cases m with
  | zero => exact fin2.elim
  | succ m =>
    unfold whileL at fin2
    refine ⟨ρ2, h2, σ2, rp2, ?_⟩
    cases e1 : ec σ2 h2 with
    | no => rw [e1] at fin2; exact fin2.elim
    | ex x h3 =>
      rw [e1] at fin2
      exact fun ρ' H' c d l' rp' q => fin2 ρ' H' σV2 c d l' ⟨rp', RpS.ltr rp2.hp l' rp2.sl⟩ q
    | ok v h3 =>
      rw [e1] at fin2
      cases v with
      | bl k =>
        cases k with
        | false =>
          intro ρ3 H3 k' l3 rp3 hk
          cases hk
          exact fin2 ρ3 H3 σV2 l3 (rp2.ltr l3 rp3)
        | true =>
          intro ρ3 H3 k' l3 rp3 hk
          cases hk
          have s3 := rp2.ltr l3 rp3
          simp only at fin2
          rw [if_pos rfl]
          refine ⟨fun σV' H' => ∃ ρ' h' σ', B.S ρ' H' h' σ' σV' ∧ FinS B W ρ' H' (whileL ec ebd m σ' h') D, fun σ' H' w => ⟨m, Nat.lt_succ_self m, w⟩, ρ3, h3, σ2, s3, ?_⟩
          cases e2 : ebd σ2 h3 with
          | nx σ5 h5 =>
            rw [e2] at fin2
            exact fun ρ5 H5 σV5 l5 rp5 => ⟨ρ5, h5, σ5, rp5, fin2.ltr rp5.hp (Ltr.trans rp3 l3 l5)⟩
          | ct σ5 h5 =>
            rw [e2] at fin2
            exact fun ρ5 H5 σV5 l5 rp5 => ⟨ρ5, h5, σ5, rp5, fin2.ltr rp5.hp (Ltr.trans rp3 l3 l5)⟩
          | bk σ5 h5 => rw [e2] at fin2; exact fin2.ltr rp3 l3
          | rt u h5 => rw [e2] at fin2; exact fin2.ltr rp3 l3
          | ex u σ5 h5 => rw [e2] at fin2; exact fin2.ltr rp3 l3
          | no => rw [e2] at fin2; exact fin2
      | _ => exact fin2.elim
end
end
end FF
end

section
set_option Elab.async false
set_option linter.all false
set_option maxRecDepth 100000
set_option maxHeartbeats 4000000
/-! FE25: statements, by their build; functions. -/
namespace FF
open PySem PySem.Spec PySem.SeqAt
open PyProof.Rows hiding St
open L2 hiding start It

mutual
def gSl : G → List Nat
  | .name i _ => [i]
  | .tup gs _ _ => gSlL gs
  | .sub _ _ _ => []
def gSlL : GL → List Nat
  | .nil => []
  | .cons g gs => gSl g ++ gSlL gs
end
def notLc : E → Bool
  | .lc .. => false
  | _ => true
def isTupE : E → Bool
  | .tup .. => true
  | _ => false
/-- a target that is no plain local name -/
def farG (c : Ctx) (sc : Scope) : GL → Bool
  | .nil => false
  | .cons (.name i _) gs => decide (sc.names.lookup (c.nm i) = some .cell) || farG c sc gs
  | .cons _ _ => true
/-- no stores in a changed order -/
def swN (c : Ctx) (sc : Scope) (g : G) (e : E) : Bool := match g, e with
  | .tup gs _ _, .tup es _ _ => !(glLen gs == 2 || glLen gs == 3) || elLen es != glLen gs || (toEL c es).all (foldedForSure 8) || farG c sc gs
  | _, _ => true
/-- no comprehension whose list is stored ahead of its block's end -/
def lcN (c : Ctx) (sc : Scope) (g : G) (e : E) : Bool := match e, g with
  | .lc .., .name i _ => decide (sc.names.lookup (c.nm i) = some .cell)
  | _, _ => true
section
variable (c : Ctx) (cs : List Nat) (gs : List (Str × Int))
mutual
def okS : S → Scope → Bool
  | .asg g e _, sc => okE c cs gs e sc && okG c cs gs g sc (gSl g) && lcN c sc g e && swN c sc g e
  | .par i j px py _ _ a b _ _ _, sc => decide (i < c.N.length) && decide (j < c.N.length) && decide (i ≠ j) && decide (sc.names.lookup (c.nm i) = some .local) && decide (sc.names.lookup (c.nm j) = some .local) && decide (px.line = py.line) &&
      okE c cs gs a sc && okE c cs gs b sc && !([toE c a, toE c b].all (foldedForSure 8)) && !([toE c a, toE c b].all (constantsAlone 8))
  | .par3 i j k px py pz _ _ a b d _ _ _, sc => decide (i < c.N.length) && decide (j < c.N.length) && decide (k < c.N.length) && decide (i ≠ j) && decide (i ≠ k) && decide (j ≠ k) && decide (sc.names.lookup (c.nm i) = some .local) && decide (sc.names.lookup (c.nm j) = some .local) && decide (sc.names.lookup (c.nm k) = some .local) &&
      decide (px.line = py.line) && decide (px.line = pz.line) && okE c cs gs a sc && okE c cs gs b sc && okE c cs gs d sc && !([toE c a, toE c b, toE c d].all (foldedForSure 8)) && !([toE c a, toE c b, toE c d].all (constantsAlone 8))
  | .setlc i py own sc' tg it ifs elt q _, sc => decide (i < c.N.length) && decide (sc.names.lookup (c.nm i) = some .local) && (py.line == q.line) && !(sc'.names.any fun (n, k) => n == c.nm i && (k == .local || k == .cell)) && okE c cs gs (.lc own sc' tg it ifs elt q) sc
  | .aug i _ op e _, sc => decide (i < c.N.length) && loc sc (c.nm i) && (decide (op = .add) || decide (op = .sub)) && okE c cs gs e sc
  | .exp e _, sc => okE c cs gs e sc && notLc e
  | .ret e _, sc => okE c cs gs e sc
  | .retn _, _ => true
  | .ifs t a b _, sc => okE c cs gs t sc && okSL a sc && okSL b sc
  | .for g it b _, sc => okI c cs gs it sc && okG c cs gs g sc (gSl g) && (isTupG g || plainI it) && okSL b sc
  | .whl t b _, sc => okE c cs gs t sc && okSL b sc
  | .brk _, _ => true
  | .cnt _, _ => true
  | .pass _, _ => true
  | .nev _, _ => true
def okSL : SL → Scope → Bool
  | .nil, _ => true
  | .cons s ss, sc => okS s sc && okSL ss sc
end
end
theorem nodup_ne {α : Type} {l : List α} {i j : Nat} {x y : α} (nd : l.Nodup) (hi : l[i]? = some x) (hj : l[j]? = some y) (h : i ≠ j) : x ≠ y := fun e => by
  subst e
  obtain ⟨h1, e1⟩ := List.getElem?_eq_some_iff.mp hi
  obtain ⟨h2, e2⟩ := List.getElem?_eq_some_iff.mp hj
  exact h ((List.getElem_inj nd).mp (e1.trans e2.symm))
theorem any_star {l : List Expr} (h : ∀ e ∈ l, isStar e = false) : (l.any fun | .Starred .. => true | _ => false) = false := by
  rw [List.any_eq_false]
  intro e m
  have := h e m
  cases e <;> first | (intro z; cases z; done) | exact Bool.noConfusion (show true = false from this)
theorem sw2 {env : Env} {x y : Str} {px py pt pt2 : Pos} {kt k2 : Nat} {a b : Expr} (hk : env.scope.kind = .function) (hx : env.scope.names.lookup x = some .local) (hy : env.scope.names.lookup y = some .local) (hl : px.line = py.line) (hxy : x ≠ y)
    (h1 : isStar a = false) (h2 : isStar b = false) (hf : [a, b].all (foldedForSure 8) = false) (hc : [a, b].all (constantsAlone 8) = false) :
    swappedStores [.Tuple [.Name x px, .Name y py] kt pt] (.Tuple [a, b] k2 pt2) env = pure (some [x, y]) := by
  have hb : env.blockKind = .function := by unfold Env.blockKind; rw [hk]; rfl
  have kx : env.kindOf x = some .local := hx
  have ky : env.kindOf y = some .local := hy
  have hs : ([a, b].any fun | .Starred .. => true | _ => false) = false := any_star fun e m => by
    rcases List.mem_cons.mp m with rfl | m
    · exact h1
    · rw [List.mem_singleton.mp m]; exact h2
  have hyx : (y == x) = false := beq_eq_false_iff_ne.mpr fun e => hxy e.symm
  unfold swappedStores
  refine (if_neg ?_).trans ((if_neg ?_).trans ((if_neg ?_).trans ((if_neg ?_).trans ((if_neg ?_).trans ?_))))
  · simp [hb]
  · exact fun z => Bool.false_ne_true (hs.symm.trans z)
  · simp [kx, ky, hl, Expr.pos, List.eraseDups_cons, hyx]
  · rw [hf]; exact Bool.false_ne_true
  · rw [hc]; exact Bool.false_ne_true
  · simp [kx, ky, hl, Expr.pos]
theorem sw3 {env : Env} {x y z : Str} {px py pz pt pt2 : Pos} {kt k2 : Nat} {a b c : Expr} (hk : env.scope.kind = .function) (hx : env.scope.names.lookup x = some .local) (hy : env.scope.names.lookup y = some .local) (hz : env.scope.names.lookup z = some .local) (hl : px.line = py.line) (hl2 : px.line = pz.line) (hxy : x ≠ y) (hxz : x ≠ z) (hyz : y ≠ z)
    (h1 : isStar a = false) (h2 : isStar b = false) (h3 : isStar c = false) (hf : [a, b, c].all (foldedForSure 8) = false) (hc : [a, b, c].all (constantsAlone 8) = false) :
    swappedStores [.Tuple [.Name x px, .Name y py, .Name z pz] kt pt] (.Tuple [a, b, c] k2 pt2) env = pure (some [x, y, z]) := by
  have hb : env.blockKind = .function := by unfold Env.blockKind; rw [hk]; rfl
  have kx : env.kindOf x = some .local := hx
  have ky : env.kindOf y = some .local := hy
  have kz : env.kindOf z = some .local := hz
  have hs : ([a, b, c].any fun | .Starred .. => true | _ => false) = false := any_star fun e m => by
    rcases List.mem_cons.mp m with rfl | m
    · exact h1
    · rcases List.mem_cons.mp m with rfl | m
      · exact h2
      · rw [List.mem_singleton.mp m]; exact h3
  have hyx : (y == x) = false := beq_eq_false_iff_ne.mpr fun e => hxy e.symm
  have hzx : (z == x) = false := beq_eq_false_iff_ne.mpr fun e => hxz e.symm
  have hzy : (z == y) = false := beq_eq_false_iff_ne.mpr fun e => hyz e.symm
  have l2 : pz.line = py.line := hl2.symm.trans hl
  unfold swappedStores
  refine (if_neg ?_).trans ((if_neg ?_).trans ((if_neg ?_).trans ((if_neg ?_).trans ((if_neg ?_).trans ?_))))
  · simp [hb]
  · exact fun z => Bool.false_ne_true (hs.symm.trans z)
  · simp [kx, ky, kz, hl, l2, Expr.pos, List.eraseDups_cons, hyx, hzx, hzy]
  · rw [hf]; exact Bool.false_ne_true
  · rw [hc]; exact Bool.false_ne_true
  · simp [kx, ky, kz, hl, l2, Expr.pos]
section
variable {B : Bd} {F : Fx} {c : Ctx} {cs : List Nat} {gs : List (Str × Int)}
structure Hs (X : Cx) (B : Bd) (F : Fx) (c : Ctx) (cs : List Nat) (gs : List (Str × Int)) (sc : Scope) (W : WX) : Prop where
  hx : Hx X B F c cs gs
  hs : Sees X sc
  tk : Takes X W
  po : PassesOwn (model X.prog X.w) X.A X.env X.xe
  kf : X.env.scope.kind = .function
theorem sws_ok {X : Cx} {sc : Scope} (hs : Sees X sc) (g : G) (e : E) (h : lcN c sc g e = true) (l : Nat) : swapsWithSole [toG c g] (toE c e) l X.env = pure false := by
  cases e with
  | lc own sc' tg it ifs elt q =>
    cases g with
    | name i p =>
      have h : sc.names.lookup (c.nm i) = some .cell := of_decide_eq_true h
      have hk : X.env.kindOf (c.nm i) = some .cell := hs.cel _ h
      show swapsWith (.ListComp _ _ _ _) (some (.Name (c.nm i) p)) l X.env = pure false
      unfold swapsWith
      simp only [hk]
      have : (some NameKind.cell == some NameKind.local) = false := by decide
      rw [this]
      simp
    | _ => rfl
  | _ => rfl
theorem swn_ok (e : E) (h : notLc e = true) (l : Nat) (env : Env) : swapsWith (toE c e) none l env = pure false := by
  cases e <;> first | rfl | cases h
theorem filterMap_lt {α β : Type} {f : α → Option β} : ∀ {l : List α} {t : α}, t ∈ l → f t = none → (l.filterMap f).length < l.length
  | [], _, m, _ => by cases m
  | a :: l, t, m, h => by
    have le : (l.filterMap f).length ≤ l.length := List.length_filterMap_le _ _
    rcases List.mem_cons.mp m with e | m
    · subst e
      rw [List.filterMap_cons_none h, List.length_cons]
      omega
    · have ih := filterMap_lt m h
      rw [List.filterMap_cons]
      split
      · rw [List.length_cons]; omega
      · rw [List.length_cons, List.length_cons]; omega
theorem toGL_len2 : ∀ gs : GL, (toGL c gs).length = glLen gs
  | .nil => rfl
  | .cons g gs => by
    show (toG c g :: toGL c gs).length = _
    rw [List.length_cons, toGL_len2 gs, glLen]
theorem star_all (es : EL) : ∀ e ∈ toEL c es, isStar e = false := by
  intro e m
  induction es using EL.rec (motive_1 := fun _ => True) (motive_3 := fun _ => True) (motive_4 := fun _ => True) (motive_5 := fun _ => True) (motive_6 := fun _ => True) with
  | nil => cases m
  | cons a es _ ih =>
    rcases List.mem_cons.mp m with h | m
    · rw [h]; exact toE_star a
    · exact ih m
  | _ => trivial
theorem far_mem {X : Cx} {sc : Scope} (hs : Sees X sc) {f : Expr → Option Str} (h1 : ∀ x p, X.env.kindOf x = some .cell → f (.Name x p) = none) (h2 : ∀ e, (∀ x p, e ≠ .Name x p) → f e = none) : ∀ gs : GL, farG c sc gs = true → ∃ t ∈ toGL c gs, f t = none
  | .nil, h => by cases h
  | .cons (.name i p) gs, h => by
    simp only [farG, Bool.or_eq_true, decide_eq_true_eq] at h
    rcases h with h | h
    · exact ⟨_, List.mem_cons_self, h1 _ _ (hs.cel _ h)⟩
    · obtain ⟨t, m, e⟩ := far_mem hs h1 h2 gs h
      exact ⟨t, List.mem_cons_of_mem _ m, e⟩
  | .cons (.tup _ _ _) gs, h => ⟨_, List.mem_cons_self, h2 _ fun _ _ e => by cases e⟩
  | .cons (.sub _ _ _) gs, h => ⟨_, List.mem_cons_self, h2 _ fun _ _ e => by cases e⟩
theorem sst_ok {X : Cx} {sc : Scope} (hs : Sees X sc) (g : G) (e : E) (h : swN c sc g e = true) : swappedStores [toG c g] (toE c e) X.env = pure none := by
  cases g with
  | tup gs k p =>
    cases e with
    | tup es k2 p2 =>
      have st : ((toEL c es).any fun | .Starred .. => true | _ => false) = false := any_star (star_all es)
      have lg := toGL_len2 (c := c) gs
      have le := toEL_len (c := c) es
      simp only [swN, Bool.or_eq_true] at h
      show swappedStores [.Tuple (toGL c gs) k p] (.Tuple (toEL c es) k2 p2) X.env = pure none
      unfold swappedStores
      by_cases c1 : (!((toGL c gs).length == 2 || (toGL c gs).length == 3) || (toEL c es).length != (toGL c gs).length || X.env.blockKind != .function) = true
      · exact if_pos c1
      refine (if_neg c1).trans ((if_neg fun z => Bool.false_ne_true (st.symm.trans z)).trans ?_)
      simp only [Bool.or_eq_true, not_or] at c1
      rw [lg, le] at c1
      rcases h with ((h | h) | h) | h
      · exact absurd h c1.1.1
      · exact absurd h c1.1.2
      · dsimp only
        rw [if_pos h]
        exact ite_self _
      · refine if_pos ?_
        rw [Bool.or_eq_true]
        refine .inl ?_
        obtain ⟨t, m, e⟩ := far_mem (c := c) hs (f := fun
          | .Name id pos => if X.env.kindOf id == some .local && pos.line == (((toGL c gs).head?.map (·.pos.line)).getD 0) then some id else none
          | _ => none) (fun x p hk => by simp [hk]) (fun e he => by cases e <;> first | rfl | exact absurd rfl (he _ _)) gs h
        have lt := filterMap_lt (f := fun
          | .Name id pos => if X.env.kindOf id == some .local && pos.line == (((toGL c gs).head?.map (·.pos.line)).getD 0) then some id else none
          | _ => none) m e
        exact bne_iff_ne.mpr (Nat.ne_of_lt lt)
    | _ => rfl
  | _ => rfl
mutual
theorem pS : ∀ (s : S) {X : Cx} {sc : Scope} {W : WX}, Hs X B F c cs gs sc W → okS c cs gs s sc = true → PS X (toS c s) (tVS B W (evS F s))
  | .asg g e p, X, sc, W, k, ok => by
    simp only [okS, Bool.and_eq_true, Bool.not_eq_true'] at ok
    obtain ⟨⟨⟨o1, o2⟩, o3⟩, o4⟩ := ok
    exact fs_asg (pE e k.hx k.hs k.tk o1).1 (pG g k.hx k.hs k.tk o2) (sws_ok k.hs g e o3 _) (sst_ok k.hs g e o4) (by rw [assign_of (toG_star g)]; rfl)
  | .par i j px py kt pt a b k2 pt2 p, X, sc, W, k, ok => by
    simp only [okS, Bool.and_eq_true, Bool.not_eq_true', decide_eq_true_eq] at ok
    obtain ⟨⟨⟨⟨⟨⟨⟨⟨⟨o1, o2⟩, o3⟩, o4⟩, o5⟩, o6⟩, o7⟩, o8⟩, o9⟩, o10⟩ := ok
    have n1 := nm_ok k.hx o1
    have n2 := nm_ok k.hx o2
    exact fs_par k.hx.calm k.hx.nd n1 n2 o3 (k.hs.loc _ o4) (k.hs.loc _ o5) (toE_star a) (toE_star b) (pE a k.hx k.hs k.tk o7).1 (pE b k.hx k.hs k.tk o8).1
      (sw2 k.kf (k.hs.loc _ o4) (k.hs.loc _ o5) o6 (nodup_ne k.hx.nd n1 n2 o3) (toE_star a) (toE_star b) o9 o10)
  | .par3 i j l px py pz kt pt a b d k2 pt2 p, X, sc, W, k, ok => by
    simp only [okS, Bool.and_eq_true, Bool.not_eq_true', decide_eq_true_eq] at ok
    obtain ⟨⟨⟨⟨⟨⟨⟨⟨⟨⟨⟨⟨⟨⟨⟨o1, o2⟩, o3⟩, o4⟩, o5⟩, o6⟩, o7⟩, o8⟩, o9⟩, o10⟩, o11⟩, o12⟩, o13⟩, o14⟩, o15⟩, o16⟩ := ok
    have n1 := nm_ok k.hx o1
    have n2 := nm_ok k.hx o2
    have n3 := nm_ok k.hx o3
    exact fs_par3 k.hx.calm k.hx.nd n1 n2 n3 o4 o5 o6 (k.hs.loc _ o7) (k.hs.loc _ o8) (k.hs.loc _ o9) (toE_star a) (toE_star b) (toE_star d) (pE a k.hx k.hs k.tk o12).1 (pE b k.hx k.hs k.tk o13).1 (pE d k.hx k.hs k.tk o14).1
      (sw3 k.kf (k.hs.loc _ o7) (k.hs.loc _ o8) (k.hs.loc _ o9) o10 o11 (nodup_ne k.hx.nd n1 n2 o4) (nodup_ne k.hx.nd n1 n3 o5) (nodup_ne k.hx.nd n2 n3 o6) (toE_star a) (toE_star b) (toE_star d) o15 o16)
  | .setlc i py own sc' tg it ifs elt q p, X, sc, W, k, ok => by
    simp only [okS, okE, Bool.and_eq_true, Bool.not_eq_true', decide_eq_true_eq] at ok
    obtain ⟨⟨⟨⟨o1, o2⟩, o3⟩, o4⟩, ok⟩ := ok
    obtain ⟨⟨⟨⟨⟨⟨p1, p2⟩, p3⟩, p4⟩, p5⟩, p6⟩, p7⟩ := ok
    have sh : plainI it = true ∨ ∃ es k p, toG c tg = .Tuple es k p := by
      rw [Bool.or_eq_true] at p2
      rcases p2 with p2 | p2
      · cases tg with
        | tup gs k p => exact .inr ⟨_, _, _, rfl⟩
        | _ => cases p2
      · exact .inl p2
    have hi := pI it (toG c tg) k.hx k.hs k.tk p1 sh
    have hb := blkC_ok k.hx k.hs p3
    have hg := fun s H C cl fp => pG tg (k.hx.blk s H sc' C cl fp) (Sees.blk s H C cl fp) (takes0 s H sc' _ fp) p4
    have ht := fun s H C cl fp => pTs ifs (k.hx.blk s H sc' C cl fp) (Sees.blk s H C cl fp) (takes0 s H sc' _ fp) p5 p6
    have he := fun s H C cl fp => (pE elt (k.hx.blk s H sc' C cl fp) (Sees.blk s H C cl fp) (takes0 s H sc' _ fp) p7).1
    have key := (fe_lc (wf := F.wf) (pos := q) k.hx.K k.hx.calm k.hx.nd hi hb hg ht he (folded_ok it X.env)).1
    refine ps_vs (ps_setLc k.hx.calm k.hx.nd (nm_ok k.hx o1) (k.hs.loc _ o2) (sw_true k.kf (k.hs.loc _ o2) o3 o4) hi hb hg ht he (folded_ok it X.env)) fun D σV H ⟨ρ, h, σ, rp, fin⟩ => ?_
    refine key σV H _ ⟨ρ, h, σ, rp, fin.bind rp fun v h1 ρ1 H1 x _ l1 rp1 rx fin1 => ?_⟩
    exact fin1 ρ1 H1 _ Ltr.refl ⟨rp1, (rp.ltr l1 rp1).sl.set i rx⟩
  | .aug i py op e p, X, sc, W, k, ok => by
    simp only [okS, Bool.and_eq_true, decide_eq_true_eq, Bool.or_eq_true] at ok
    obtain ⟨⟨⟨o1, o2⟩, o3⟩, o4⟩ := ok
    simp only [loc, Bool.or_eq_true, decide_eq_true_eq] at o2
    refine fs_aug o3 k.hx.nd (nm_ok k.hx o1) ?_ ?_ (pE e k.hx k.hs k.tk o4).1
    · rcases o2 with e | e
      · exact .inl (k.hs.loc _ e)
      · exact .inr (k.hs.cel _ e)
    · rcases o2 with e | e
      · exact .inr (k.hs.loc _ e)
      · exact .inl (k.hs.fnc _ e)
  | .exp e p, X, sc, W, k, ok => by
    simp only [okS, Bool.and_eq_true] at ok
    exact fs_exp (pE e k.hx k.hs k.tk ok.1).1 (swn_ok e ok.2 _ _)
  | .ret e p, X, sc, W, k, ok => fs_ret (pE e k.hx k.hs k.tk ok).1
  | .retn p, X, sc, W, k, ok => fs_retn
  | .ifs t a b p, X, sc, W, k, ok => by
    simp only [okS, Bool.and_eq_true] at ok
    exact fs_if (pE t k.hx k.hs k.tk ok.1.1).2 (pSL a k ok.1.2) (pSL b k ok.2)
  | .for g it b p, X, sc, W, k, ok => by
    simp only [okS, Bool.and_eq_true] at ok
    obtain ⟨⟨⟨o1, o2⟩, o3⟩, o4⟩ := ok
    have sh : plainI it = true ∨ ∃ es k p, toG c g = .Tuple es k p := by
      rw [Bool.or_eq_true] at o3
      rcases o3 with o3 | o3
      · cases g with
        | tup gs k p => exact .inr ⟨_, _, _, rfl⟩
        | _ => cases o3
      · exact .inl o3
    exact fs_for F.wf k.po k.hx.calm (pI it (toG c g) k.hx k.hs k.tk o1 sh) (pG g k.hx k.hs k.tk o2) (pSL b k o4) (folded_ok it X.env)
  | .whl t b p, X, sc, W, k, ok => by
    simp only [okS, Bool.and_eq_true] at ok
    exact fs_whl F.wf k.po (pE t k.hx k.hs k.tk ok.1).2 (pSL b k ok.2)
  | .brk p, X, sc, W, k, ok => fs_brk
  | .cnt p, X, sc, W, k, ok => fs_cnt
  | .pass p, X, sc, W, k, ok => fs_pass
  | .nev st, X, sc, W, k, ok => fs_nev
theorem pSL : ∀ (s : SL) {X : Cx} {sc : Scope} {W : WX}, Hs X B F c cs gs sc W → okSL c cs gs s sc = true → PSs X (toSL c s) (tVS B W (evSL F s))
  | .nil, X, sc, W, k, ok => fs_nil
  | .cons s ss, X, sc, W, k, ok => by
    simp only [okSL, Bool.and_eq_true] at ok
    exact fs_cons (pS s k ok.1) (pSL ss k ok.2)
end
end
end FF
end

section
set_option Elab.async false
set_option linter.all false
set_option maxRecDepth 100000
set_option maxHeartbeats 4000000
/-! FE26: a table of functions keeps its promises. -/
namespace FF
open PySem PySem.Spec PySem.SeqAt
open PyProof.Rows hiding St
open L2 hiding start It

/-- the names of the module that the machine leans on -/
structure Glob (mg : Str → Option Value) (gs : List (Str × Int)) : Prop where
  blt : ∀ b, okBi b = true → mg (biOf b) = none
  rng : mg "range" = none
  enm : mg "enumerate" = none
  zp : mg "zip" = none
  isi : mg "isinstance" = none
  tys : ∀ t, okTy t = true → mg (Str.ofString (tyStr t)) = none
  gi : ∀ x i, gs.contains (x, i) = true → ∃ t, mg x = some (.int i t)
section
variable (P : Program) (w : World) (K : PySem.W.Frag) (mg : Str → Option Value) (base : Heap) (B : Bd) (T : List FD) (wf : Nat) (fns : List Str) (cs : List Nat) (gs : List (Str × Int))
/-- every function of the table at a level -/
def LvOk (n : Nat) : Prop := ∀ (A : Around), Room n A → ∀ f, cs.contains f = true → CallOk P w K mg base A B (fns.getD f ⟨#[]⟩) (callN T wf n f)
/-- a def that is written in the machine's syntax -/
def IrOk (f : Nat) (g : Addr) (fd : FuncData) (ps : List Str) : Prop := ∃ (x : Str) (N : List Str) (params : Arguments) (body : List Stmt) (scope : Scope) (ir : SL),
  T[f]? = some (.ir ps.length N.length ir) ∧ FunD K x x params body scope [] [] g fd ∧ FnScope N ps scope ∧ toSL ⟨N, fns, []⟩ ir = body ∧ okSL ⟨N, fns, []⟩ cs gs ir scope = true
structure DefOk (f : Nat) (g : Addr) (fd : FuncData) (ps : List Str) : Prop where
  at_ : mg (fns.getD f ⟨#[]⟩) = some (.ref g)
  kp : PySem.W.keepIn K (.ref g) = true
  bd : L2.Binds K fd ps []
  how : IrOk K T fns cs gs f g fd ps ∨ ∀ n, LvOk P w K mg base B T wf fns cs n → FnOk P w K mg base (L2.CX P w) (n + 1) g fd ps (fnSp B (callN T wf (n + 1) f))
end
section
variable {P : Program} {w : World} {K : PySem.W.Frag} {mg : Str → Option Value} {base : Heap} {B : Bd} {T : List FD} {wf : Nat} {fns : List Str} {cs : List Nat} {gs : List (Str × Int)}
theorem no_fn {k : Nat} {g : Addr} {fd : FuncData} {ps : List Str} {f : List Dv → Hh → R Dv} (h : ∀ vs h, f vs h = .no) : FnOk P w K mg base (L2.CX P w) k g fd ps (fnSp B f) := by
  refine ⟨fun vs H Q E ⟨ρ, h', ds, _, _, fin⟩ => ?_, fun A outer s H args us vs Q E _ _ _ _ ⟨ρ, h', ds, _, _, fin⟩ => ?_⟩
  · rw [h] at fin
    exact fin.elim
  · rw [h] at fin
    exact fin.elim
theorem sees_def {CX : CXT} {N : List Str} {qual : Str} {scope : Scope} {f : Addr} {cdv : Value} {A : Around} {outer : List Env} {s : Shared} {H : Hp} {E : XK} : Sees (cxOf CX P w K mg base N qual scope f cdv A outer s H E) scope :=
  ⟨fun x h => isVis_ok h, fun x h => h, fun x h => h, fun x h => h, fun x h => h, fun x h => rfl⟩
theorem start_eq {N : List Str} {ρ : List Addr} {H : Hp} {ds : List Dv} {vs : List V} (l : RpL B.K ρ H ds vs) : RpS B.K ρ H (start N.length ds) (L2.start N vs) := by
  have := RpS.start (N.length - vs.length) l
  unfold start L2.start
  rw [l.len]
  exact this
theorem toR_fin {E : XK} {Q : VK} {ρ : List Addr} {H : Hp} {r : RS} (fin : Fin B (fun c d _ H' => E c d H') [] ρ H (Rp B.K) r.toR Q) : FinS B (fun c d _ H' => E c d H') ρ H r { nx := fun _ H' => Q .non H', rt := Q } := by
  cases r with
  | nx σ h => exact fun ρ' H' σV' l rp => fin ρ' H' .non l rp.hp (by simp only [Rp])
  | rt v h => exact fin
  | bk σ h => exact fin.elim
  | ct σ h => exact fin.elim
  | ex x σ h => exact fun ρ' H' σV' c d l rp q => fin ρ' H' c d l rp.hp q
  | no => exact fin.elim
theorem ir_fn (hK : B.K = K) (hw : B.w = w) (hP : B.P = P) (G : Glob mg gs) {n f : Nat} {g : Addr} {fd : FuncData} {ps : List Str} (lv : LvOk P w K mg base B T wf fns cs n) (d : IrOk K T fns cs gs f g fd ps) :
    FnOk P w K mg base (L2.CX P w) (n + 1) g fd ps (fnSp B (callN T wf (n + 1) f)) := by
  obtain ⟨x, N, params, body, scope, ir, eT, F, S, eb, ok⟩ := d
  have ev : ∀ vs h, callN T wf (n + 1) f vs h = if vs.length = ps.length then (evSL ⟨callN T wf n, wf⟩ ir (start N.length vs) h).toR else .no := fun vs h => by
    simp only [callN, eT]
  refine F.ok S (fun vs H Q E ⟨ρ, h, ds, rp, l, fin⟩ => ?_) fun cdv A outer s H vs Q E hr ⟨ρ, h, ds, rp, l, fin⟩ => ?_
  · rw [ev] at fin
    split at fin
    · rename_i e
      rw [← l.len]
      exact e
    · exact fin.elim
  · rw [ev] at fin
    split at fin
    · rename_i e
      let X := cxOf (L2.CX P w) P w K mg base N x scope g cdv A outer s H E
      have hx : Hx X B ⟨callN T wf n, wf⟩ ⟨N, fns, []⟩ cs gs := {
        K := hK.symm, w := hw.symm, P := hP.symm, N := rfl, nd := S.nd, calm := rfl
        room := by
          have := hr.un
          show (A.deeper _).units + 66 < cLine
          omega
        call := fun f hf => lv _ hr f hf
        blt := G.blt, rng := G.rng, enm := G.enm, zp := G.zp, isi := G.isi, tys := G.tys, gi := G.gi }
      have hs : Hs X B ⟨callN T wf n, wf⟩ ⟨N, fns, []⟩ cs gs scope (fun c d _ H' => E c d H') := {
        hx := hx, hs := sees_def
        tk := takes_of (X := X) rfl rfl rfl rfl
        po := passes_of (X := X) rfl
        kf := S.kind }
      refine ⟨_, eb ▸ pSL ir hs ok, ρ, h, start N.length ds, ⟨rp, start_eq l⟩, toR_fin fin⟩
    · exact fin.elim
/-- all of the table, at every level -/
theorem tab_ok (hK : B.K = K) (hw : B.w = w) (hP : B.P = P) (G : Glob mg gs) (D : ∀ f, cs.contains f = true → ∃ g fd ps, DefOk P w K mg base B T wf fns cs gs f g fd ps) : ∀ n f, cs.contains f = true → ∃ g fd ps, mg (fns.getD f ⟨#[]⟩) = some (.ref g) ∧ PySem.W.keepIn K (.ref g) = true ∧ L2.Binds K fd ps [] ∧ FnOk P w K mg base (L2.CX P w) n g fd ps (fnSp B (callN T wf n f))
  | 0, f, hf => by
    obtain ⟨g, fd, ps, d⟩ := D f hf
    exact ⟨g, fd, ps, d.at_, d.kp, d.bd, no_fn fun _ _ => rfl⟩
  | n + 1, f, hf => by
    obtain ⟨g, fd, ps, d⟩ := D f hf
    have lv : LvOk P w K mg base B T wf fns cs n := fun A hr f' hf' => by
      obtain ⟨g, fd, ps, h1, h2, h3, h4⟩ := tab_ok hK hw hP G D n f' hf'
      exact ⟨n, g, fd, ps, h4, hr, h1, h2, h3⟩
    refine ⟨g, fd, ps, d.at_, d.kp, d.bd, ?_⟩
    rcases d.how with ir | ex
    · exact ir_fn hK hw hP G lv ir
    · exact ex n lv
end
end FF
end

section
set_option Elab.async false
set_option linter.all false
set_option maxRecDepth 100000
set_option maxHeartbeats 4000000
/-! FE27: an error's own __init__ that says super().__init__(text) and slf.f = v. -/
namespace FF
open PySem PySem.Spec PySem.W PySem.Calls
open PyProof.Rows hiding St

/-- the text of such an __init__ -/
def initB (f arg slf : Str) (txt : Str) (p0 p1 p2 p3 p4 p5 p6 p7 p8 p9 : Pos) (k : Nat) : List Stmt :=
  [.Expr (.Call (.Attribute (.Call (.Name "super" p0) [] [] p1) "__init__" p2) [.Constant (.str txt) k p3] [] p4) p5,
    .Assign [.Attribute (.Name slf p6) f p7] (.Name arg p8) p9]
/-- what the written part says of it -/
structure InitC (P : Program) (K : PySem.W.Frag) (C fI : Addr) (fd : FuncData) (f arg slf : Str) : Prop where
  oex : L2.OexC K C
  fn : ∃ oc od osl, K.lookup fI = some ⟨oc, od, .func fd, osl⟩
  code : ∃ cda ccl cdd vs ccs file tf, fd.code = .ref cda ∧ codeIn K (.ref cda) fd.qualname = true ∧ K.lookup cda = some ⟨ccl, cdd, .fields vs, ccs⟩ ∧ vs[2]? = some (.str file tf) ∧ ((P.main.file : Str) == file) = true
  cell : ∃ cc cl cld csl, fd.closure = [(("__class__" : Str), cc)] ∧ K.lookup cc = some ⟨cl, cld, .cell (some (.ref C)), csl⟩
  glo : fd.globals = mainGlobals
  blt : fd.builtins = builtinsNs
  body : ∃ txt p0 p1 p2 p3 p4 p5 p6 p7 p8 p9 k, fd.body = .stmts (initB f arg slf txt p0 p1 p2 p3 p4 p5 p6 p7 p8 p9 k) ∧ (p2.endLine == p4.line) = true
  par : ∃ ar, (fd.params.posonlyargs ++ fd.params.args).head? = some ar ∧ ar.arg = slf
  kind : fd.scope.kind = .function
  co : fd.scope.isCoroutine = false
  gen : fd.scope.isGenerator = false
  nocell : ∀ x ∈ fd.scope.names, x.2 ≠ .cell
  ksup : fd.scope.names.lookup ("super" : Str) = some .globalImplicit
  kcls : fd.scope.names.lookup ("__class__" : Str) = some .free
  kself : fd.scope.names.lookup slf = some .local
  karg : fd.scope.names.lookup arg = some .local
  ne : arg ≠ slf
  dself : (slf == ("__debug__" : Str)) = false
  darg : (arg == ("__debug__" : Str)) = false
  mro : mroIn K C (.ref C) = some true
  sup : ks_superIn K C C "__init__" = some (some (.builtin "ValueError.__init__"))
  sub : subIn K (.ref C) (.type "ValueError") = some true
  opq : nsIn K cStatics "thirdparty.any" = some none
  nosup : (P.main.scope.names.lookup ("super" : Str)).isSome = false
  fld : findIn K (.ref C) f = some none

theorem super_call_eq {env : Env} {o : Expr} {txt : Str} {k : Nat} {apos pos p3 : Pos} (hl : (apos.endLine == pos.line) = true) :
    eval (.Call (.Attribute o "__init__" apos) [.Constant (.str txt) k p3] [] pos) env = (do
      let ov ← attributeBase o "__init__" env (eval o env)
      standAt apos.atName
      let (f, first) ← holding [ov] (getMethod ov "__init__" (do return (← importBound o env).getD true))
      callWith pos f first (backTo pos (starEach [.Constant (.str txt) k p3] env)) []) := by
  show (do
    let ov ← attributeBase o "__init__" env (eval o env)
    standAt apos.atName
    methodCall o "__init__" apos pos env ov ([Expr.Constant (.str txt) k p3].length + ([] : List Keyword).length) (backTo pos (starEach [.Constant (.str txt) k p3] env)) (backToKw pos (keywordEach [] env))) = _
  have hf : methodCallForm ([Expr.Constant (.str txt) k p3].length + ([] : List Keyword).length) (backTo pos (starEach [.Constant (.str txt) k p3] env)) (backToKw pos (keywordEach [] env)) = true := rfl
  unfold methodCall calleeOf methodCallPos
  rw [hf]
  simp only [hl, Bool.or_true, if_true, pure_bind]
  rfl
section
variable {prog : Program} {w : World} {A : Around} {R : Result → Shared → Prop} {K : PySem.W.Frag} {mg mb : Str → Option Value} {C fI : Addr} {fd : FuncData} {f arg slf : Str}
theorem init_run {s : Shared} {e t0 : Addr} {u : Value} (T : InitC prog K C fI fd f arg slf) (X : K.In s.heap) (he : s.heap.get? e = some (HandSPX.excO C t0)) (hK : K.lookup e = none) (hlim : s.heap.NoLimit) (hroom : A.depth < recursionLimit)
    (hg : s.heap.Ns mainGlobals mg) (hb : s.heap.Ns builtinsNs mb) (g1 : mg "super" = none) (b1 : mb "super" = some (.type "super")) (hbind : BindsTo s fd ⟨[.ref e, u], []⟩ [(slf, .ref e), (arg, u)])
    (hq : ∀ h' tk' dx, (∀ b o, b ≠ e → s.heap.get? b = some o → h'.get? b = some o) → s.heap.objs.size ≤ dx → (∃ t1, h'.get? e = some { cls := .ref C, dict := some dx, data := .fields #[.ref t1, .none, .none, .none, .bool false, .none] }) →
      h'.Ns1 dx (fun y => if y = f then some u else none) → R (.ok (.ret .none)) { s with heap := h', toks := tk' }) :
    codeAny (model prog w) A (.call (.ref fI) ⟨[.ref e, u], []⟩) R s := by
  obtain ⟨hp, g, d, t, os⟩ := s
  obtain ⟨nm, q, N, bs, bm, sn, sub, ab, col, dd, k0, k1, k2, k3, k5, hC, hbm⟩ := T.oex.cls
  obtain ⟨oc, od, osl, hf⟩ := T.fn
  obtain ⟨cda, ccl, cdd, vs, ccs, file, tf, ecode, hcode, hcdo, hvs, hfile⟩ := T.code
  obtain ⟨cc, cl, cld, csl, eclo, hcell⟩ := T.cell
  obtain ⟨txt, p0, p1, p2, p3, p4, p5, p6, p7, p8, p9, k, ebody, hline⟩ := T.body
  obtain ⟨ar, hpar, ear⟩ := T.par
  have hcl : clsIn K C = some { name := nm, bases := bs, mro := .ref C :: bm, ns := N, qualname := q, hasDict := true, slotNames := sn, subclasses := sub, abstract := ab, collection := col, hasDel := false } := by unfold clsIn; rw [hC] <;> rfl
  refine ks_codeAny_call_defAt hroom (X _ _ hf) rfl hlim (by rw [ecode]; exact codeRec_of X hcode) ebody hbind T.nocell (fun y hy => ?_) (fun h1 hn1 k1 => ?_) T.co T.gen T.kind
  · rcases List.mem_cons.mp hy with rfl | hy
    · exact T.kself
    · rw [List.mem_singleton.mp hy]; exact T.karg
  generalize hL : hp.objs.size = L at hn1
  have hL' : L = hp.objs.size := hL.symm
  generalize henv : callEnv fd L fI = env
  have e1 : env.scope = fd.scope := by rw [← henv]; rfl
  have e2 : env.func = some fI := by rw [← henv]; rfl
  have e3 : env.code = .ref cda := by rw [← henv, ← ecode]; rfl
  have e4 : env.cells = [(("__class__" : Str), cc)] := by rw [← henv, ← eclo]; rfl
  have e5 : env.locals = L := by rw [← henv]; rfl
  have e6 : env.globals = mainGlobals := by rw [← henv, ← T.glo]; rfl
  have e7 : env.builtins = builtinsNs := by rw [← henv, ← T.blt]; rfl
  have kk : env.scope.kind = .function := by rw [e1]; exact T.kind
  have kn : ∀ x, env.kindOf x = fd.scope.names.lookup x := fun x => by
    show env.scope.names.lookup x = _
    rw [e1]
  have k1' : ∀ b o, hp.get? b = some o → h1.get? b = some o := k1
  have X1 : K.In h1 := X.keeps k1'
  have he1 : h1.get? e = some (HandSPX.excO C t0) := k1' _ _ he
  have vself : (fun x => List.lookup x [((arg : Str), u), (slf, Value.ref e)]) slf = some (.ref e) := by
    have : (slf == arg) = false := beq_eq_false_iff_ne.mpr (Ne.symm T.ne)
    simp [List.lookup, this]
  have varg : (fun x => List.lookup x [((arg : Str), u), (slf, Value.ref e)]) arg = some u := by
    simp [List.lookup]
  have hn1 : h1.Ns L (fun x => List.lookup x [((arg : Str), u), (slf, Value.ref e)]) := hn1
  have int : interactive env = false := by simp [interactive, kk]
  have eL : L ≠ e := by
    rw [hL']
    exact Nat.ne_of_gt (Heap.lt_size he)
  refine ks_wpAt_execs_cons (ks_wpAt_Expr_any (ks_wpAt_MethodCall ?_ (super_call_eq hline)) int rfl)
  refine ks_wpAt_super_base (ar := ar) (by rw [kn]; exact T.ksup) (by rw [kn]; exact T.kcls) (by decide) e2 (X1 _ _ hf) rfl hpar e3 (X1 _ _ hcdo) rfl hvs hfile T.nosup ?_
  refine ks_loadName_global kk (by rw [kn]; exact T.ksup) (loadGlobal_builtin (by rw [e6]; exact hg.keeps k1') g1 (by rw [e7]; exact hb.keeps k1') b1 ⟨rfl, ?_⟩)
  refine wpAny_loadName_free kk (by rw [kn]; exact T.kcls) (by rw [e4]; rfl) (v := .ref C) ⟨_, X1 _ _ hcell, rfl⟩ ?_
  rw [ear]
  refine wpAny_loadName_local kk (by rw [kn]; exact T.kself) (by rw [e5]; exact hn1) vself ?_
  refine ks_wpAny_isType_cls (X1 _ _ hC) rfl ⟨rfl, ?_⟩
  refine ks_wpAny_call_super (X1 _ _ hC) rfl he1 rfl (fun c z => by cases z) (looks_mroIn X1 T.mro) fun h2 hso k2 => ?_
  have X2 : K.In h2 := X1.keeps k2
  have he2 := k2 _ _ he1
  have hI : Looks (model prog w) h2 (isInstance (.ref e) (.type "ValueError")) true := (InstAt.type (od := none) ⟨he2, rfl, rfl, trivial⟩).andThen (looks_subIn X2 T.sub)
  have hs1 : alongIn K "__init__" (((Value.ref C :: bm).dropWhile (· != .ref C)).drop 1) = some (some (.builtin "ValueError.__init__")) := by
    have z := T.sup
    unfold ks_superIn at z
    rw [hcl] at z
    exact z
  have hne : e ≠ C := fun z => by
    rw [z] at he1
    rw [X1 _ _ hC] at he1
    cases he1
  refine kxs_getMethod kxs_ValueError hso (looks_opaque X2 T.opq) (l₀ := .ref C :: bm) ?_ rfl X2 hs1 hI hne (by decide) ?_
  · exact fun A Q E s k q => wpAny_bind ((looks_clsIn X2 hcl) A _ E s k (wpAny_pure q))
  generalize hu : h2.objs.size = u2
  have hu' : h2.objs.size = u2 := hu
  have hmw : (h2.push (kxs_mw "ValueError.__init__" e)).get? u2 = some (kxs_mw "ValueError.__init__" e) := by rw [← hu]; exact Heap.get?_push_at rfl rfl
  generalize hh3 : h2.push (kxs_mw "ValueError.__init__" e) = h3 at hmw
  have k3 : ∀ b o, h2.get? b = some o → h3.get? b = some o := fun b o z => by rw [← hh3]; exact Heap.get?_push_of_some _ z
  have X3 : K.In h3 := X2.keeps k3
  have he3 := k3 _ _ he2
  refine kxs_callWith (i := "ValueError.__init__") (x := e) (by rfl) ?_
  show wpAny _ _ (evalArgs (.ref u2) true ((false, eval (.Constant (.str txt) k p3) env) :: []) []) _ _ _
  refine evalArgs_plain (spliced_cons (Constant_str (spliced_nil ⟨hmw, ?_⟩)))
  show wpAny _ _ (call (.ref u2) [.str txt _]) _ _ _
  refine wpAny_call (codeAny_of_tree ?_)
  show wpAny _ _ (callAny (.ref u2) ⟨[.str txt _], []⟩) _ _ _
  simp only [callAny]
  refine wpAny_bind (wpAny_load hmw ?_)
  simp only [kxs_mw, show (Value.type "method-wrapper" == Value.type "method" || Value.type "method-wrapper" == Value.type "builtin_function_or_method" || Value.type "method-wrapper" == Value.type "method-wrapper") = true by decide, if_true]
  refine KFB.if_so (by decide) ?_
  refine wpAny_bind (check_bound_init F.excBase_ValueError.toExcCallFacts (X3 _ _ hC) he3 rfl ?_)
  refine wpAny_bind (wpAny_pure (wpAny_pure ?_))
  refine ⟨plainId_quiet F.excBase_ValueError.init.plain _, codeAny_builtin F.excBase_ValueError.initEntry ?_⟩
  refine exc_init_tree (cls := .ref C) (t0 := t0) (dv := none) (c2 := .none) (c3 := .none) (b4 := .bool false) he3 (by show 1 ≤ sizeLine; decide) fun h4 k4 he4 _ => ?_
  have k14 : ∀ b o, b ≠ e → h1.get? b = some o → h4.get? b = some o := fun b o nb z => k4 b o nb (k3 _ _ (k2 _ _ z))
  have X4 : K.In h4 := fun b o z => by
    have nb : b ≠ e := fun q => by
      rw [q, hK] at z
      cases z
    exact k14 b o nb (X1 b o z)
  have hn4 : h4.Ns L (fun x => List.lookup x [((arg : Str), u), (slf, Value.ref e)]) := hn1.at' fun o z => k14 L o eL z
  have lt4 : L < h4.objs.size := by
    obtain ⟨o, _, _, z, _⟩ := hn4
    exact Heap.lt_size z
  refine ks_wpAt_execs_cons (ks_wpAt_Assign_Attr (PySem.wpAt_of_wpAny ?_) rfl)
  refine wpAny_Name (wpAny_loadName_local (m := fun x => List.lookup x [((arg : Str), u), (slf, Value.ref e)]) kk (by rw [kn]; exact T.karg) ?n1 varg ?_) T.darg
  case n1 => rw [e5]; exact hn4
  refine wpAny_Name (wpAny_loadName_local (m := fun x => List.lookup x [((arg : Str), u), (slf, Value.ref e)]) kk (by rw [kn]; exact T.kself) ?n2 vself ?_) T.dself
  case n2 => rw [e5]; exact hn4
  refine set_plain (od := none) X4 ⟨he4, rfl, rfl, trivial⟩ T.oex.sa ?_
  refine HandSPX.exc_osa X4 he4 hcl (show HandSPX.refsVE (.ref C :: bm) = true from hbm) rfl T.fld fun h5 tk5 dx k5' dn dne hx hn5 => ?_
  refine PySem.wpAt_of_wpAny (wpAny_execs_nil ?_)
  exact hq h5 tk5 dx (fun b o nb z => k5' b o nb (k14 b o nb (k1' b o z))) (Nat.le_trans (Nat.le_of_lt (by rw [← hL'] at *; exact lt4)) dn) ⟨_, hx⟩ hn5
end
end FF
end

section
set_option Elab.async false
set_option linter.all false
set_option maxRecDepth 100000
set_option maxHeartbeats 4000000
/-! FE28: C(v) made, raised; try: .. except X as e: error = e. -/
namespace FF
open PySem PySem.Spec
open PyProof.Rows hiding St
open L2 hiding start It

section
variable {X : Cx} {e : Expr} {ta : TE} {p pos : Pos}
theorem pmk_err1 {x : Str} {C fI : Addr} {fd : FuncData} {f arg slf : Str} (T : InitC X.prog X.K C fI fd f arg slf) (iC : PySem.W.findIn X.K (.ref C) "__init__" = some (some (.ref fI))) (tI : PySem.W.typeIn X.K (.ref fI) = some (.type "function"))
    (hb : ∀ (s : Shared) (a u : Value), BindsTo s fd ⟨[a, u], []⟩ [(slf, a), (arg, u)]) {k : Nat} (hr : Room (k + 1) X.A) (hg : Gl X x) (hm : X.mg x = some (.ref C)) (hs : X.mg "super" = none) (ha : PE X e ta) (hst : isStar e = false)
    (hdb : (x == ("__debug__" : Str)) = false) :
    PMk X (.Call (.Name x p) [e] [] pos) (fun σ H Q => ta σ H fun x H1 => ∃ y, [x] = [y] ∧ ∀ d, H1 d = none → Q (.ref C) (some d) (upd H1 d (.xd [(f, y)]))) := by
  intro pins s σ H Q I h
  obtain ⟨nm, q, N, bs, bm, sn, sub, ab, col, dd, k0, k1, k2, k3, k5, hC, hbm⟩ := T.oex.cls
  refine wpAny_Call_Name_kw (ld_glob I hg hm ?_ hdb)
  have hpa := pa_cons ha pa_nil (star_of hst)
  refine PySem.W.callWith_K (h₀ := X.base) I.ok.mod.kin T.oex.kC (thn (hpa.run pos pins s σ H (fun vs H1 => ∃ y, vs = [y] ∧ ∀ d, H1 d = none → Q (.ref C) (some d) (upd H1 d (.xd [(f, y)]))) I h) fun us s1 ⟨vs, H1, I1, r1, y, ev, q1⟩ => ⟨I1.kIn, ?_⟩) (star_of hst) (by rfl)
  subst ev
  obtain ⟨u, rfl, ry⟩ := vals1 r1
  show wpAny _ _ (call (.ref C) [u]) _ _ _
  obtain ⟨hp, g, dr, tk, os⟩ := s1
  have hsz : hp.objs.size ≤ hp.objs.size + 1 := Nat.le_succ _
  have hn : H1 (hp.objs.size + 1) = none := I1.hok.fresh hsz
  have kk : ∀ b o, hp.get? b = some o → ((hp.push (PySem.W.kdv_tup [u])).push (PySem.HandSPX.excO C hp.objs.size)).get? b = some o := fun b o e => Heap.get?_push_of_some _ (Heap.get?_push_of_some _ e)
  have hget : ((hp.push (PySem.W.kdv_tup [u])).push (PySem.HandSPX.excO C hp.objs.size)).get? (hp.objs.size + 1) = some (PySem.HandSPX.excO C hp.objs.size) := by heap_get
  obtain ⟨mb, hb1, hb2⟩ := I1.mod.blt
  have hK : X.K.lookup (hp.objs.size + 1) = none := by
    cases z : X.K.lookup (hp.objs.size + 1) with
    | none => rfl
    | some o =>
      have this : hp.objs.size + 1 < hp.objs.size := Heap.lt_size (I1.kIn _ _ z)
      omega
  refine wpAny_call (PySem.HandSPX.call_own F.excBase_ValueError (fun Y => PySem.HandSPX.refsVE_contains Y bm hbm) (I1.kIn _ _ hC) (PySem.W.looks_findIn I1.kIn iC) (fun slf => PySem.W.bind_fn I1.kIn slf tI) (by show 1 ≤ sizeLine; decide)
    (init_run (mg := X.mg) (mb := mb) T (I1.kIn.keeps kk) hget hK (I1.nolimit.keeps kk) (hr.make C [u] []).depth (by exact (I1.mod.glob.keeps I1.bk).keeps kk) (by exact (hb1.keeps I1.bk).keeps kk) hs ((hb2 _ (by decide)).trans (by decide +kernel)) (hb _ _ _) fun h' tk' dx k1 hdx hx hns => ?_))
  obtain ⟨t1, hx⟩ := hx
  refine ⟨rfl, ?_⟩
  show MkP X pins σ Q (.ref (hp.objs.size + 1)) _
  obtain ⟨G, g1', g2'⟩ := restrict h' fun b => decide (b ≠ hp.objs.size + 1)
  have gk : ∀ b, b ≠ hp.objs.size + 1 → G.get? b = h'.get? b := fun b hb => g1' b (decide_eq_true hb)
  have ge : G.get? (hp.objs.size + 1) = none := g2' _ (by simp)
  have hdx' : hp.objs.size ≤ dx := by
    have : (Shared.heap ⟨(hp.push (PySem.W.kdv_tup [u])).push (PySem.HandSPX.excO C hp.objs.size), g, dr, tk, os⟩).objs.size ≤ dx := hdx
    have e2 : ((hp.push (PySem.W.kdv_tup [u])).push (PySem.HandSPX.excO C hp.objs.size)).objs.size = hp.objs.size + 1 + 1 := by rw [Heap.size_push, Heap.size_push]
    have this : ((hp.push (PySem.W.kdv_tup [u])).push (PySem.HandSPX.excO C hp.objs.size)).objs.size ≤ dx := this
    omega
  have dxne : dx ≠ hp.objs.size + 1 := by
    have this : ((hp.push (PySem.W.kdv_tup [u])).push (PySem.HandSPX.excO C hp.objs.size)).objs.size ≤ dx := hdx
    rw [Heap.size_push, Heap.size_push] at this
    have this : hp.objs.size + 1 < dx := this
    exact Nat.ne_of_gt this
  have kG : ∀ b o, hp.get? b = some o → G.get? b = some o := fun b o z => by
    have nb : b ≠ hp.objs.size + 1 := by
      have this : b < hp.objs.size := Heap.lt_size z
      exact Nat.ne_of_lt (Nat.lt_succ_of_lt this)
    rw [gk b nb]
    exact k1 b o nb (kk b o z)
  have hd0 : H1 dx = none := I1.hok.fresh hdx'
  have J : Inv X pins σ (upd H1 dx (.xd [(f, y)])) ⟨G, g, dr, tk', os⟩ := I1.laid (t' := tk') (a := dx) (o := .xd [(f, y)]) kG hdx' ⟨_, hns.at fun o z => (gk dx dxne).trans z, relO_put (fs := []) ry fun g => True.intro⟩
  refine ⟨hp.objs.size + 1, _, _, ⟨G, g, dr, tk', os⟩, _, .ref C, some dx, rfl, J, fun b o z => ?_, ge, hx, ⟨rfl, rfl⟩, rfl, rfl, ?_, rfl, I1.bare, raises_own T.oex.exC T.oex.tyC, q1 dx hd0⟩
  · by_cases nb : b = hp.objs.size + 1
    · rw [nb, ge] at z
      cases z
    · exact (gk b nb).symm.trans z
  · rw [upd_ne (Ne.symm dxne)]
    exact hn
end

/-- a caught error, kept: its class, its dict -/
def errO (cls : Value) (d : Option Addr) (a : Addr) : HO := .ext fun h => ∃ (oe : Obj) (vs : Array Value), h.get? a = some oe ∧ Zc cls d oe ∧ oe.data = .fields vs
theorem errO_ok {P : Program} {w : World} {H : Hp} {h : Heap} {a : Addr} {cls : Value} {d : Option Addr} {oe : Obj} {vs : Array Value} (e : h.get? a = some oe) (z : Zc cls d oe) (dd : oe.data = .fields vs) : ObjOk P w H h a (errO cls d a) :=
  ⟨⟨oe, vs, e, z, dd⟩, ⟨oe, e⟩, fun _ _ ⟨o, v, q, r⟩ k => ⟨o, v, k o q, r⟩⟩
section
variable {X : Cx} {pins : List (Addr × Obj)} {σ : L2.St} {H : Hp} {s : Shared}
theorem Inv.track {a : Addr} {o : HO} (I : Inv X pins σ H s) (na : H a = none) (n0 : X.s_0.heap.get? a = none) (nL : a ≠ X.env.locals) (nc : ∀ x c, X.env.cells.lookup x = some c → c ≠ a) (np : ∀ p ∈ X.pn ++ pins, p.1 ≠ a) (new : ObjOk X.prog X.w (upd H a o) s.heap a o) : Inv X pins σ (upd H a o) s where
  ok := I.ok
  os := I.os
  bare := I.bare
  base := ⟨I.base.keep, I.base.slot, fun b ob e n x => by
      rw [upd_ne (fun q => by rw [q, n0] at e; cases e)]
      exact I.base.free b ob e n x, I.base.there,
    fun b xs e => by
      have := I.base.tups b xs e
      rw [upd_ne (ne_of_none this na)]
      exact this,
    fun b ob u e => by
      have := I.base.frzs b ob u e
      rw [upd_ne (ne_of_none this na)]
      exact this,
    fun b ps e => by
      obtain ⟨more, this⟩ := I.base.tbls b ps e
      exact ⟨more, by rw [upd_ne (ne_of_none this na)]; exact this⟩⟩
  loc := I.loc
  cell := I.cell
  free := by rw [upd_ne (Ne.symm nL)]; exact I.free
  freeC := fun x c e => by rw [upd_ne (nc x c e)]; exact I.freeC x c e
  pin := fun p m => by
    obtain ⟨h1, h2, h3⟩ := I.pin p m
    exact ⟨h1, by rw [upd_ne (np p m)]; exact h2, h3⟩
  hok := fun b ob e => by
    by_cases hb : b = a
    · subst hb
      rw [upd_same] at e
      cases e
      exact new
    · rw [upd_ne hb] at e
      exact (I.hok b ob e).stay (fun _ _ _ q => q) (fun c q => by rw [upd_ne (ne_of_none q na)]; exact q) fun c xs q => by rw [upd_ne (ne_of_none q na)]; exact q
  len := I.len
end
/-- what the clause 'except x as n: y = n' wishes of an exception of the body -/
def wKeep (K : PySem.W.Frag) (c : Value) (i j : Nat) (Wout : WX) (D : Ends) : WX := fun cls d σ H =>
  ∃ b, PySem.W.exmOne K cls c = some b ∧ (b = true → ∀ a, H a = none → D.nx (((σ.set i (some (.ref a))).set j (some (.ref a))).set i none) (upd H a (errO cls d a))) ∧ (b = false → Wout cls d σ H)
section
variable {X : Cx} {x n y : Str} {c : Value} {i j : Nat} {body : List Stmt} {np pn' py pa pos pos' : Pos} {tb : WX → TS} {Wout : WX}
theorem ps_try_keep (hs : X.stack = X.env :: X.outer) (hf : X.env.frame = some X.env.locals) (hN : X.N.Nodup) (hi : X.N[i]? = some n) (hln : X.env.kindOf n = some .local) (hj : X.N[j]? = some y) (hly : X.env.scope.names.lookup y = some .local) (hij : i ≠ j)
    (dn : (n == ("__debug__" : Str)) = false) (dc : (n == ("__classdict__" : Str)) = false) (hex : X.ex = []) (hc : Names X x c) (tk : Takes X Wout)
    (hb : ∀ (W : WX) (pn : List (Addr × Obj)) (xe : Value → Shared → Prop), Takes (X.tr pn xe) W → PassesOwn (model X.prog X.w) X.A X.env xe → PSs (X.tr pn xe) body (tb W)) :
    PS X (.Try body [.ExceptHandler (some (.Name x np)) (some n) [.Assign [.Name y py] (.Name n pn') pa] pos'] [] [] pos) (fun D σ H => σ.length = X.N.length ∧ tb (wKeep X.K c i j Wout D) D σ H) := by
  refine ⟨fun pins s σ H D I h => ?_⟩
  obtain ⟨_, h⟩ := h
  have ok := I.ok
  have hfr : X.A.frames = some (X.env :: X.outer) := by rw [ok.frames, hs]
  have hloc : Loc X.env.scope n := .inl hln
  refine wpAny_Try_except ?_
  refine wpAny_mono ((hb (wKeep X.K c i j Wout D) (X.pn ++ pins) (fun e s₁ => wpAny (model X.prog X.w) X.A (noteFrame e X.env) (fun _ s₂ => wpAny (model X.prog X.w) X.A (setFlight e none) (fun _ s₃ =>
    wpAny (model X.prog X.w) X.A (handleBy e X.env [.ExceptHandler (some (.Name x np)) (some n) [.Assign [.Name y py] (.Name n pn') pa] pos']) (SP X pins D) X.xe s₃) X.xe s₂) X.xe s₁) (fun u s' xx => ?_) PassesOwn.looking).run [] s σ H D (I.toTry _) h) (fun f s1 hsp => ?_) (fun e s1 he => he)
  · -- the catch
    obtain ⟨a, B, sI, pins', σ', H', cls, d, rfl, J', nb, up, sky, na, os, ag, b, hb1, hyes, hno⟩ := xx
    have J : Inv X pins σ' H' sI := J'.ofTry ok
    have sky' : Sky B (X.env :: X.outer) a (Zc cls d) X.env.locals s'.heap := by rw [← hs]; exact sky
    show wpAny (model X.prog X.w) X.A (noteFrame (.ref a) X.env) _ _ _
    refine Sky.land Zc.steady hfr hf sky' fun h3 fl3 up3 => ?_
    have J3 : Inv X pins σ' H' { s' with heap := h3 } := J.landed nb fl3.1 (up.trans up3) os ag
    obtain ⟨oe3, vs3, he3, hz3, hd3⟩ := fl3.there
    have notFr : ∀ {h : Heap} {o : Obj} {vs : Array Value}, h.FunFrames B (X.env :: X.outer) → h.get? a = some o → o.data = .fields vs → a ∉ frs (X.env :: X.outer) := fun {h o vs} ff e dd hm => by
      obtain ⟨_, o', e', hnf⟩ := ff.mem hm
      rw [e] at e'; cases e'
      exact hnf _ dd
    have nfr := notFr fl3.2.2.1 he3 hd3
    have nfrS : a ∉ frs X.stack := by rw [hs]; exact nfr
    have nB : B.get? a = none := fl3.2.1
    have nI : sI.heap.get? a = none := by
      cases z : sI.heap.get? a with
      | none => rfl
      | some o =>
        rw [nb a o z nfrS] at nB
        cases nB
    have nL : a ≠ X.env.locals := fun z => nfr (List.mem_filterMap.mpr ⟨X.env, List.mem_cons_self, by rw [hf, z]⟩)
    have nF : a ∉ X.fs := fun hm => by
      obtain ⟨e, he, q⟩ := List.mem_filterMap.mp hm
      exact nfr (List.mem_filterMap.mpr ⟨e, List.mem_cons_of_mem _ he, q⟩)
    have n0 : X.s_0.heap.get? a = none := by
      cases z : X.s_0.heap.get? a with
      | none => rfl
      | some o =>
        obtain ⟨o', q⟩ := J.base.there a o z (by rw [hex]; simp)
        rw [nI] at q
        cases q
    have nc : ∀ z c, X.env.cells.lookup z = some c → c ≠ a := fun z c e q => by
      obtain ⟨v, _, e2, _⟩ := J.cell z c e
      rw [q, nI] at e2
      cases e2
    have np' : ∀ p ∈ X.pn ++ pins, p.1 ≠ a := fun p m q => by
      have := (J.pin p m).1
      rw [q, nI] at this
      cases this
    have S3 := J3.suite he3 hd3 na nL nF
    refine wpAny_handleBy_cons (codeAny_handlers_test ?_) (by intro q; cases q)
    have LT : PySem.W.Looks (model X.prog X.w) h3 (typeOf (.ref a)) cls := fun A Q E s k q => wpAny_typeOf_ref (k _ _ he3) (by rw [hz3.1]; exact q)
    have LM := PySem.W.exm_one (M := model X.prog X.w) (J3.kIn) LT hb1
    have test : ∀ {Q : Value → Shared → Prop} {E : Value → Shared → Prop}, Q c { s' with heap := h3 } → wpAny (model X.prog X.w) (X.A.mark (some (.ref a))) (eval (.Name x np) X.env) Q E { s' with heap := h3 } := fun {Q E} q => by
      obtain ⟨hg, hdbg, hm | ⟨hm, hv, hnn⟩⟩ := hc
      · exact ld_glob (X := X.suite a ((a, oe3) :: (X.pn ++ pins))) S3 hg hm q hdbg
      · exact ld_blt (X := X.suite a ((a, oe3) :: (X.pn ++ pins))) S3 hg hm hv q hnn hdbg
    refine test (LM.here ?_)
    cases b with
    | true =>
      refine codeAny_handlers_suite_as ?_
      refine HandSPX.lands_againZ fl3 fun h4 fl4 up4 => ?_
      have J4 : Inv X pins σ' H' { s' with heap := h4 } := J.landed nb fl4.1 ((up.trans up3).trans up4) os ag
      obtain ⟨oe4, vs4, he4, hz4, hd4⟩ := fl4.there
      have S4 := J4.suite he4 hd4 na nL nF
      refine store_ok (X := X.suite a ((a, oe4) :: (X.pn ++ pins))) (v := .ref a) S4 hN hi hloc rfl (fun s5 S5 => ?_) (.inr hln)
      have hps : PSs (X.suite a ((a, oe4) :: (X.pn ++ pins))) [.Assign [.Name y py] (.Name n pn') pa] (tSeq (tAsg (tVar i) (gName j)) tNext) :=
        pss_cons (ps_set (X := X.suite a ((a, oe4) :: (X.pn ++ pins))) hN hj (.inl hly) (pe_var (X := X.suite a ((a, oe4) :: (X.pn ++ pins))) hi (.inl hln) dn dc) rfl (.inr hly)) pss_nil
      have il : i < σ'.length := by
        rw [J.len]
        exact (List.getElem?_eq_some_iff.mp hi).1
      refine wpAny_mono (hps.run [] s5 _ H' { nx := fun σ6 H6 => σ6 = (σ'.set i (some (.ref a))).set j (some (.ref a)) ∧ H6 = H', rt := fun _ _ => False } S5 ⟨_, List.getElem?_set_self il, rfl, rfl⟩) (fun f s6 hsp => ?_) (fun _ _ z => False.elim z)
      cases f with
      | next =>
        obtain ⟨σ6, H6, S6, e6, e7⟩ := hsp
        rw [e6, e7] at S6
        have pa6 := S6.pin (a, oe4) (List.mem_append_left _ List.mem_cons_self)
        have S6' : L2.Inv X ((a, oe4) :: pins) ((σ'.set i (some (.ref a))).set j (some (.ref a))) H' s6 := ⟨ok, S6.os, S6.bare, S6.base, S6.loc, S6.cell, S6.free, S6.freeC, fun p hp => S6.pin p (List.mem_append_left _ (by
          rcases List.mem_append.mp hp with m | m
          · exact List.mem_cons_of_mem _ (List.mem_append_left _ m)
          · rcases List.mem_cons.mp m with m | m
            · rw [m]; exact List.mem_cons_self
            · exact List.mem_cons_of_mem _ (List.mem_append_right _ m))), S6.hok, S6.len⟩
        refine gone_ok S6' hN hi hln fun s7 J7 => ?_
        have pa7 := J7.pin (a, oe4) (List.mem_append_right _ List.mem_cons_self)
        have J8 : L2.Inv X pins (((σ'.set i (some (.ref a))).set j (some (.ref a))).set i none) H' s7 := ⟨J7.ok, J7.os, J7.bare, J7.base, J7.loc, J7.cell, J7.free, J7.freeC, fun p hp => J7.pin p (by
          rcases List.mem_append.mp hp with m | m
          · exact List.mem_append_left _ m
          · exact List.mem_append_right _ (List.mem_cons_of_mem _ m)), J7.hok, J7.len⟩
        exact ⟨_, _, Inv.track J8 na n0 nL nc np' (errO_ok pa7.1 hz4 hd4), hyes rfl a na⟩
      | brk => obtain ⟨_, _, _, q6⟩ := hsp; exact q6.elim
      | cont => obtain ⟨_, _, _, q6⟩ := hsp; exact q6.elim
      | ret u => obtain ⟨_, _, _, _, _, q6⟩ := hsp; exact q6.elim
    | false =>
      show wpAny _ X.A (handleBy (.ref a) X.env []) _ _ _
      refine wpAny_handleBy_nil ?_
      obtain ⟨k1, k2, k3, oe, vs, T, oT, ts', he, hz, hd, h1, hr⟩ := id fl3
      unfold PySem.passOn
      refine wpAny_bind (wpAny_field he hd h1 ?_)
      rw [if_neg (show ¬ ((Value.ref T == Value.none) = true) from by simp)]
      have fin : wpAny (model X.prog X.w) X.A (setFlight (.ref a) X.env.frame) (fun _ s4 => wpAny (model X.prog X.w) X.A (throw (.ref a) : Sem Flow) (SP X pins D) X.xe s4) X.xe { s' with heap := h3 } := by
        rw [hf]
        refine HandSPX.setFlight_upZ fl3 fun h4 hh4 up4 => wpAny_throw (tk _ _ ?_)
        exact ⟨a, B, sI, pins, σ', H', cls, d, rfl, J, nb, (up.trans up3).trans up4, .inr (.inr (by rw [hs]; exact hh4)), na, os, ag, hno rfl⟩
      first
        | exact wpAny_bind (wpAny_pure (wpAny_bind fin))
        | exact wpAny_bind fin
  · cases f with
    | next =>
      obtain ⟨σ', H', J', q⟩ := hsp
      exact wpAny_execs_nil ⟨σ', H', J'.ofTry ok, q⟩
    | brk =>
      obtain ⟨σ', H', J', q⟩ := hsp
      exact ⟨σ', H', J'.ofTry ok, q⟩
    | cont =>
      obtain ⟨σ', H', J', q⟩ := hsp
      exact ⟨σ', H', J'.ofTry ok, q⟩
    | ret u =>
      obtain ⟨v, σ', H', J', r, q⟩ := hsp
      exact ⟨v, σ', H', J'.ofTry ok, r, q⟩
end
end FF
end

section
set_option Elab.async false
set_option linter.all false
set_option maxRecDepth 100000
set_option maxHeartbeats 4000000
/-! FE29: isinstance and a field of a kept error; a refusal, told. -/
namespace FF
open PySem PySem.Spec
open PyProof.Rows hiding St
open L2 hiding start It

section
variable {X : Cx} {D : Addr}
theorem err_at {pins : List (Addr × Obj)} {σ : L2.St} {H : Hp} {s : Shared} {a : Addr} {d : Option Addr} (I : L2.Inv X pins σ H s) (ha : H a = some (errO (.ref D) d a)) (hd : ∀ d', d = some d' → ∃ fs, H d' = some (.xd fs)) : ∃ oe od, PySem.W.InstAt s.heap a oe D od ∧ (∀ dd fs, d = some dd → H dd = some (.xd fs) → ∃ (o : Obj) (mA : Str → Option Value), od = some o ∧ (∀ name, PySem.W.lookIn name o = some (mA name)) ∧ ∀ f, RelO (fs.lookup f) (mA f)) := by
  have x : ObjOk X.prog X.w H s.heap a (.ext fun h => ∃ (oe : Obj) (vs : Array Value), h.get? a = some oe ∧ Zc (.ref D) d oe ∧ oe.data = .fields vs) := I.hok a _ ha
  obtain ⟨⟨oe, vs, e1, e2, e3⟩, _⟩ := x
  have nc : PySem.W.notCls oe = true := by
    unfold PySem.W.notCls
    rw [e3]
  cases d with
  | none => exact ⟨oe, none, ⟨e1, e2.1, nc, by rw [e2.2]; exact trivial⟩, fun _ _ q => by cases q⟩
  | some dd =>
    obtain ⟨fs, hx⟩ := hd dd rfl
    have hx' : ObjOk X.prog X.w H s.heap dd (.xd fs) := I.hok dd _ hx
    obtain ⟨mA, hns, hr⟩ := hx'
    obtain ⟨od, ho, hl⟩ := lookIn_ns hns
    refine ⟨oe, some od, ⟨e1, e2.1, nc, by rw [e2.2]; exact ho⟩, fun dd' fs' q hx2 => ?_⟩
    cases q
    rw [hx] at hx2
    cases hx2
    exact ⟨od, mA, rfl, hl, hr⟩
theorem call_isErr (C : ExcC X.K D) : CallR X (.builtin "isinstance") (fun xs H Q => ∃ (a : Addr) (d : Option Addr) (c : V) (cv : Value) (b : Bool), xs = [.ref a, c] ∧ H a = some (errO (.ref D) d a) ∧ (∀ d', d = some d' → ∃ fs, H d' = some (.xd fs)) ∧ (∀ u, RelV c u → u = cv) ∧ PySem.W.kitOne X.K (.ref D) cv = some b ∧ Q (.bl b) H) := by
  intro pins s σ H xs us Q I r h
  obtain ⟨a, d, c, cv, b, rfl, ha, hd, hcv, e, q⟩ := h
  obtain ⟨u1, u2, rfl, r1, r2⟩ := vals2 r
  have ec := hcv _ r2
  subst ec
  cases (show u1 = Value.ref a from r1)
  obtain ⟨oe, od, J, _⟩ := err_at I ha hd
  have hcl : (PySem.W.clsIn X.K D).isSome = true := by
    obtain ⟨cd, hc, _⟩ := PySem.W.any_some C.hd
    rw [hc]
    rfl
  exact PySem.W.kia_one (PySem.W.kitx_exc (od := od) hcl C.hg C.hk C.hs C.ha C.hn C.ht C.hm) I.kIn J e (fun z => nomatch z) fun tk => ⟨.bl b, H, I.kept (t' := tk) fun _ _ z => z, rfl, q⟩
theorem pe_errf {e : Expr} {te : TE} {pos : Pos} {n : Str} (T : XfC X.K D) (hno : PySem.W.findIn X.K (.ref D) n = some none) (he : PE X e te) (hb : attributeBase e n X.env (eval e X.env) = eval e X.env) :
    PE X (.Attribute e n pos) (fun σ H Q => te σ H fun x H1 => ∃ (a dd : Addr) (fs : List (Str × V)) (v : V), x = .ref a ∧ H1 a = some (errO (.ref D) (some dd) a) ∧ H1 dd = some (.xd fs) ∧ fs.lookup n = some v ∧ Q v H1) := by
  refine ⟨fun pins s σ H Q I h => ?_⟩
  refine attr_of hb (thn (he.run pins s σ H _ I h) fun u s1 hh => ?_)
  obtain ⟨x, H1, I1, rx, a, dd, fs, v, ex, ha, hd, l, q⟩ := hh
  subst ex
  obtain rfl : u = Value.ref a := rx
  obtain ⟨oe, od, J, more⟩ := err_at I1 ha fun d' e => ⟨fs, by cases e; exact hd⟩
  obtain ⟨o, mA, rfl, hl, hr⟩ := more dd fs rfl hd
  obtain ⟨u, hu, ru⟩ := RelO.some_of (v := v) (o := mA n) (by rw [← l]; exact hr n)
  exact HandSPX.exc_get I1.kIn J T.ga T.gg T.exC (PySem.W.findObj_own T.hdC hno rfl (by rw [hl, hu])) (handed_of ru) ⟨v, H1, I1.tok _, ru, q⟩
end

/-! ### the function that refuses -/
section
variable {P : Program} {w : World} {K : PySem.W.Frag} {mg : Str → Option Value} {base : Heap}
/-- what a call with a number above the limit lets out -/
def spR (C : Addr) (f : Str) (lim : Int) : Sp := fun vs H _ E => ∃ n, vs = [.int n] ∧ lim < n ∧ ∀ d, H d = none → E (.ref C) (some d) (upd H d (.xd [(f, .int lim)]))
def refB (cnt mx err : Str) (rest : List Stmt) (p1 p2 p3 p4 p5 p6 p7 p8 : Pos) : List Stmt :=
  .If (.Compare (.Name cnt p1) [.Gt] [.Name mx p2] p3) [.Raise (some (.Call (.Name err p4) [.Name mx p5] [] p6)) none p7] [] p8 :: rest
theorem refuses {x : Str} {params : Arguments} {scope : Scope} {g : Addr} {fd : FuncData} {N : List Str} {cnt mx err f arg slf : Str} {lim : Int} {rest : List Stmt} {p1 p2 p3 p4 p5 p6 p7 p8 : Pos} {C fI : Addr} {fdI : FuncData} {k : Nat}
    (F : FunD K x x params (refB cnt mx err rest p1 p2 p3 p4 p5 p6 p7 p8) scope [] [] g fd) (S : FnScope N [cnt] scope) (hc : N[0]? = some cnt) (vc : isVis scope cnt = true) (pc : plainNm cnt = true) (gm : gl scope mx = true) (ge : gl scope err = true)
    (mm : ∃ t, mg mx = some (.int lim t)) (me : mg err = some (.ref C)) (ms : mg "super" = none)
    (T : InitC P K C fI fdI f arg slf) (iC : PySem.W.findIn K (.ref C) "__init__" = some (some (.ref fI))) (tI : PySem.W.typeIn K (.ref fI) = some (.type "function")) (hb : ∀ (s : Shared) (a u : Value), BindsTo s fdI ⟨[a, u], []⟩ [(slf, a), (arg, u)]) :
    FnOk P w K mg base (L2.CX P w) (k + 2) g fd [cnt] (spR C f lim) := by
  refine F.ok S (fun vs H Q E ⟨n, e, _⟩ => by rw [e]; rfl) fun cdv A outer s H vs Q E hr ⟨n, ev, hn, hE⟩ => ?_
  subst ev
  let X := cxOf (L2.CX P w) P w K mg base N x scope g cdv A outer s H E
  have hs : Sees X scope := sees_def
  simp only [plainNm, Bool.and_eq_true, decide_eq_true_eq] at pc
  obtain ⟨g1, g2⟩ := gl_ok hs gm
  obtain ⟨g3, g4⟩ := gl_ok hs ge
  obtain ⟨t, hm⟩ := mm
  have pcn : PE X (.Name cnt p1) (tVar 0) := pe_var hc (hs.vis _ vc) (beq_eq_false_iff_ne.mpr pc.1) (beq_eq_false_iff_ne.mpr pc.2)
  have pmx : ∀ p, PE X (.Name mx p) (tC (.int lim)) := fun p => pe_glob g1 hm ⟨t, rfl⟩ g2
  have hcmp : PT X (.Compare (.Name cnt p1) [.Gt] [.Name mx p2] p3) _ := pt_cmpR op_gt pcn (pmx p2) rfl
  have tk : Takes X (fun c d _ H' => E c d H') := takes_of (X := X) rfl rfl rfl rfl
  have hraise := ps_raise (pos := p7) rfl tk (pmk_err1 (X := X) (pos := p6) (p := p4) T iC tI hb hr g3 me ms (pmx p5) rfl g4)
  refine ⟨_, pss_cons (ps_if hcmp (pss_cons hraise pss_nil) pss_nil) (pss_never (sts := rest)), ?_⟩
  refine ⟨.int n, rfl, n, lim, rfl, rfl, true, congrArg V.bl (decide_eq_true hn), ?_⟩
  refine Eq.mpr (if_pos rfl) ?_
  exact ⟨.int lim, rfl, fun d hd => hE d hd⟩
/-- the text of the law's function that tells of a refusal -/
def tellB (cnt error e fn base err oth f : Str) (lim : Int) (q : Nat → Pos) (k1 k2 : Nat) : List Stmt :=
  [.Assign [.Name error (q 0)] (.Constant .none k1 (q 1)) (q 2),
    .Try [.Expr (.Call (.Name fn (q 3)) [.Name cnt (q 4)] [] (q 5)) (q 6)] [.ExceptHandler (some (.Name base (q 7))) (some e) [.Assign [.Name error (q 8)] (.Name e (q 9)) (q 10)] (q 11)] [] [] (q 12),
    .Return (some (.BoolOp .And [.Call (.Name "isinstance" (q 13)) [.Name error (q 14), .Name err (q 15)] [] (q 16), .UnaryOp .Not (.Call (.Name "isinstance" (q 17)) [.Name error (q 18), .Name oth (q 19)] [] (q 20)) (q 21),
      .Compare (.Attribute (.Name error (q 22)) f (q 23)) [.Eq] [.Constant (.int lim) k2 (q 24)] (q 25)] (q 26))) (q 27)]
theorem tells {B : Bd} (hK : B.K = K) {x : Str} {params : Arguments} {scope : Scope} {g gf : Addr} {fd fdf : FuncData} {cnt error e fn bs err oth f : Str} {lim : Int} {q : Nat → Pos} {k1 k2 : Nat} {C Cb Co : Addr} {k : Nat} {psf : List Str}
    (F : FunD K x x params (tellB cnt error e fn bs err oth f lim q k1 k2) scope [] [] g fd) (S : FnScope [cnt, error, e] [cnt] scope)
    (lc : scope.names.lookup cnt = some .local) (le : scope.names.lookup error = some .local) (ll : scope.names.lookup e = some .local) (p1 : plainNm cnt = true) (p2 : plainNm error = true) (p3 : plainNm e = true)
    (g1 : gl scope fn = true) (g2 : gl scope bs = true) (g3 : gl scope err = true) (g4 : gl scope oth = true) (g5 : gl scope "isinstance" = true)
    (mf : mg fn = some (.ref gf)) (kf : PySem.W.keepIn K (.ref gf) = true) (bf : L2.Binds K fdf psf []) (Ff : FnOk P w K mg base (L2.CX P w) k gf fdf psf (spR C f lim))
    (mb : mg bs = some (.ref Cb)) (me : mg err = some (.ref C)) (mo : mg oth = some (.ref Co)) (mi : mg "isinstance" = none)
    (xb : PySem.W.exmOne K (.ref C) (.ref Cb) = some true) (eC : ExcC K C) (xC : XfC K C) (xf : PySem.W.findIn K (.ref C) f = some none) (iy : PySem.W.kitOne K (.ref C) (.ref C) = some true) (ino : PySem.W.kitOne K (.ref C) (.ref Co) = some false) :
    FnOk P w K mg base (L2.CX P w) (k + 1) g fd [cnt] (fnSp B fun vs h => match vs with
      | [.int n] => if lim < n then .ok (.bl true) h else .no
      | _ => .no) := by
  refine F.ok S (fun vs H Q E ⟨ρ, h, ds, rp, l, fin⟩ => ?_) fun cdv A outer s H vs Q E hr ⟨ρ, h, ds, rp, l, fin⟩ => ?_
  · match ds, l, fin with
    | [.int n], l, fin => rw [← l.len]; rfl
    | [], l, fin => exact fin.elim
    | [.non], l, fin => exact fin.elim
    | [.bl _], l, fin => exact fin.elim
    | [.str _], l, fin => exact fin.elim
    | [.tup _], l, fin => exact fin.elim
    | [.ref _], l, fin => exact fin.elim
    | [.exn _ _], l, fin => exact fin.elim
    | a :: _ :: _, l, fin => cases a <;> exact fin.elim
  · obtain ⟨n, rfl, hn, hQ⟩ : ∃ n, vs = [.int n] ∧ lim < n ∧ ∀ ρ' H' x, Ltr ρ H ρ' H' → B.H ρ' H' h → Rp B.K ρ' H' (.bl true) x → Q x H' := by
      match ds, l, fin with
      | [.int n], l, fin =>
        obtain ⟨v, rfl, rv⟩ := rpl1 l
        simp only [Rp] at rv
        subst rv
        simp only at fin
        split at fin
        · rename_i hn
          exact ⟨n, rfl, hn, fin⟩
        · exact fin.elim
      | [], l, fin => exact fin.elim
      | [.non], l, fin => exact fin.elim
      | [.bl _], l, fin => exact fin.elim
      | [.str _], l, fin => exact fin.elim
      | [.tup _], l, fin => exact fin.elim
      | [.ref _], l, fin => exact fin.elim
      | [.exn _ _], l, fin => exact fin.elim
      | a :: _ :: _, l, fin => cases a <;> exact fin.elim
    let X := cxOf (L2.CX P w) P w K mg base [cnt, error, e] x scope g cdv A outer s H E
    have hs : Sees X scope := sees_def
    have tk : Takes X (fun c d _ H' => E c d H') := takes_of (X := X) rfl rfl rfl rfl
    simp only [plainNm, Bool.and_eq_true, decide_eq_true_eq] at p1 p2 p3
    have hbody : ∀ (W : WX) (pn : List (Addr × Obj)) (xe : Value → Shared → Prop), Takes (X.tr pn xe) W → PassesOwn (model X.prog X.w) X.A X.env xe → PSs (X.tr pn xe) [.Expr (.Call (.Name fn (q 3)) [.Name cnt (q 4)] [] (q 5)) (q 6)] (tSeq (tDrop (tCallSD (spR C f lim) [] (fun σ c d H' => W c d σ H') (tCons (tVar 0) tNil))) tNext) := fun W pn xe tk' _ => by
      have pv : PE (X.tr pn xe) (.Name cnt (q 4)) (tVar 0) := pe_var (X := X.tr pn xe) rfl (.inl lc) (beq_eq_false_iff_ne.mpr p1.1) (beq_eq_false_iff_ne.mpr p1.2)
      exact pss_cons (ps_expr (pe_callSD (X := X.tr pn xe) Ff hr (gl_ok hs g1).1 mf kf bf .nil (fun σ => passAt tk' σ) (pa_cons pv pa_nil) (gl_ok hs g1).2) rfl) pss_nil
    have htry := ps_try_keep (X := X) (n := e) (y := error) (i := 2) (j := 1) (np := q 7) (pn' := q 9) (py := q 8) (pa := q 10) (pos' := q 11) (pos := q 12) rfl rfl S.nd rfl ll rfl le (by decide) (beq_eq_false_iff_ne.mpr p3.1) (beq_eq_false_iff_ne.mpr p3.2) rfl ⟨(gl_ok hs g2).1, (gl_ok hs g2).2, .inl mb⟩ tk hbody
    have pv : ∀ p, PE X (.Name error p) (tVar 1) := fun p => pe_var (X := X) rfl (.inl le) (beq_eq_false_iff_ne.mpr p2.1) (beq_eq_false_iff_ne.mpr p2.2)
    have pis : ∀ (c : Str) (D : Addr) (a b c' d' : Pos), gl scope c = true → mg c = some (.ref D) → PE X (.Call (.Name "isinstance" a) [.Name error b, .Name c c'] [] d') (tCB _ (tCons (tVar 1) (tCons (tC (.ref D)) tNil))) := fun c D a b c' d' gc mc =>
      pe_callB (call_isErr (X := X) eC) (gl_ok hs g5).1 mi boot_isinstance (pa_cons (pv b) (pa_cons (pe_glob (gl_ok hs gc).1 mc rfl (gl_ok hs gc).2) pa_nil)) (by decide) (by decide)
    have pfl : PE X (.Attribute (.Name error (q 22)) f (q 23)) _ := pe_errf (X := X) xC xf (pv (q 22)) rfl
    have pcm := pe_cmpR (X := X) (pos := q 25) op_eq pfl (pe_int (i := lim) (j := k2) (pos := q 24)) rfl
    have pand := pe_and (pos := q 26) (pis err C (q 13) (q 14) (q 15) (q 16) g3 me) (pe_and (pos := q 26) (pe_not (pos := q 21) (pis oth Co (q 17) (q 18) (q 19) (q 20) g4 mo)) (pe_one (pos := q 26) (op := .And) pcm))
    refine ⟨_, pss_cons (ps_set (i := 1) S.nd rfl (.inl le) pe_non rfl (.inr le)) (pss_cons htry (pss_cons (ps_ret (pos := q 27) pand) pss_nil)), ?_⟩
    have l0 : (L2.start [cnt, error, e] [V.int n])[0]? = some (some (.int n)) := rfl
    refine ⟨rfl, .int n, rfl, n, rfl, hn, fun d hd => ?_⟩
    refine ⟨true, xb, fun _ a ha => ?_, fun z => by cases z⟩
    have hda : d ≠ a := fun z => by
      rw [z, upd_same] at ha
      cases ha
    have h3a : upd (upd H d (.xd [(f, .int lim)])) a (errO (.ref C) (some d) a) a = some (errO (.ref C) (some d) a) := upd_same
    have h3d : upd (upd H d (.xd [(f, .int lim)])) a (errO (.ref C) (some d) a) d = some (.xd [(f, .int lim)]) := by rw [upd_ne hda, upd_same]
    generalize hH3 : upd (upd H d (.xd [(f, .int lim)])) a (errO (.ref C) (some d) a) = H3 at h3a h3d ⊢
    have xs : ∀ d', some d = some d' → ∃ fs, H3 d' = some (.xd fs) := fun d' z => ⟨_, by cases z; exact h3d⟩
    refine ⟨.ref a, rfl, ⟨a, some d, .ref C, .ref C, true, rfl, h3a, xs, fun u z => z, iy, ?_⟩⟩
    refine ⟨true, rfl, ?_⟩
    refine Eq.mpr (if_pos rfl) ?_
    refine ⟨.ref a, rfl, ⟨a, some d, .ref Co, .ref Co, false, rfl, h3a, xs, fun u z => z, ino, ?_⟩⟩
    refine ⟨false, rfl, true, rfl, ?_⟩
    refine Eq.mpr (if_pos rfl) ?_
    refine ⟨.ref a, rfl, a, d, _, .int lim, rfl, h3a, h3d, by simp [List.lookup], ?_⟩
    refine ⟨rfl, ?_⟩
    show Q (.bl (decide (V.int lim = V.int lim))) H3
    rw [decide_eq_true rfl, ← hH3]
    have rp1 := rp.newT (o := .xd [(f, .int lim)]) hd
    exact hQ ρ _ _ (Ltr.trans rp1 (Ltr.newT hd) (Ltr.newT ha)) (rp1.newT ha) (by simp only [Rp])
end
end FF
end

section
set_option Elab.async false
set_option linter.all false
set_option maxRecDepth 100000
set_option maxHeartbeats 4000000
/-! FE30: the head's looks at an error class. -/
namespace FF
open PySem PySem.Spec PySem.W
open PyProof.Rows hiding St
open L2 hiding start It

def slotB (sl : Array (Option Value)) : Bool := match sl.toList with
  | [_, _, _, _, some (.builtin nw), _] => decide (nw = "ValueError.__new__")
  | _ => false
theorem slotB_ok {sl : Array (Option Value)} (h : slotB sl = true) : ∃ k0 k1 k2 k3 k5, sl = #[k0, k1, k2, k3, some (.builtin "ValueError.__new__"), k5] := by
  unfold slotB at h
  split at h
  · rename_i k0 k1 k2 k3 nw k5 e
    have h := of_decide_eq_true h
    subst h
    exact ⟨k0, k1, k2, k3, k5, by rw [← Array.toArray_toList (xs := sl), e]⟩
  · cases h
def oexB (K : PySem.W.Frag) (C : Addr) : Bool := (match K.lookup C with
  | some ⟨.type t, _, .cls ⟨_, _, .ref C' :: bm, _, _, hd, _, _, _, _, del⟩, sl⟩ => decide (t = "type") && decide (C' = C) && hd && !del && HandSPX.refsVE bm && slotB sl
  | _ => false) && decide (findIn K (.ref C) "__setattr__" = some (some (.builtin "object.__setattr__"))) && decide (subIn K (.ref C) (.type "BaseException") = some true) && decide (typeIn K (.ref C) = some (.type "type")) && keepIn K (.ref C)
theorem oexB_ok {K : PySem.W.Frag} {C : Addr} (h : oexB K C = true) : OexC K C := by
  unfold oexB at h
  simp only [Bool.and_eq_true, decide_eq_true_eq] at h
  obtain ⟨⟨⟨⟨h1, h2⟩, h3⟩, h4⟩, h5⟩ := h
  refine ⟨?_, h2, h3, h4, h5⟩
  split at h1
  · rename_i q
    simp only [Bool.and_eq_true, decide_eq_true_eq, Bool.not_eq_true'] at h1
    obtain ⟨⟨⟨⟨⟨e1, e2⟩, e3⟩, e4⟩, e5⟩, e6⟩ := h1
    obtain ⟨k0, k1, k2, k3, k5, e6⟩ := slotB_ok e6
    subst e1 e2 e3 e4 e6
    exact ⟨_, _, _, _, _, _, _, _, _, _, _, _, _, _, _, q, e5⟩
  · cases h1
def mObs (K : PySem.W.Frag) (p : Str × Str) : Option (Arguments × FuncBody × Scope) := match K.lookup (He.fAd K (p.1, some p.2)) with
  | some ⟨_, _, .func fd, _⟩ => some (fd.params, fd.body, fd.scope)
  | _ => none
def initCB (P : Program) (K : PySem.W.Frag) (x f : Str) : Bool :=
  oexB K (He.ga K x) && (match K.lookup (He.fAd K (x, some "__init__")) with
  | some ⟨_, _, .func fd, _⟩ => (match fd.code with
    | .ref cda => codeIn K (.ref cda) fd.qualname && (match K.lookup cda with
      | some ⟨_, _, .fields vs, _⟩ => (match (vs[2]? : Option Value) with
        | some (Value.str file _) => (P.main.file : Str) == file
        | _ => false)
      | _ => false)
    | _ => false) && (match fd.closure with
    | [(n, cc)] => decide (n = ("__class__" : Str)) && (match K.lookup cc with
      | some ⟨_, _, .cell (some (.ref C)), _⟩ => decide (C = He.ga K x)
      | _ => false)
    | _ => false) && decide (fd.globals = mainGlobals) && decide (fd.builtins = builtinsNs) && decide (fd.defaults = .none)
  | _ => false) && decide (mroIn K (He.ga K x) (.ref (He.ga K x)) = some true) && decide (ks_superIn K (He.ga K x) (He.ga K x) "__init__" = some (some (.builtin "ValueError.__init__"))) && decide (subIn K (.ref (He.ga K x)) (.type "ValueError") = some true) &&
  decide (nsIn K cStatics "thirdparty.any" = some none) && decide (findIn K (.ref (He.ga K x)) f = some none) && decide (findIn K (.ref (He.ga K x)) "__init__" = some (some (.ref (He.fAd K (x, some "__init__"))))) && decide (typeIn K (.ref (He.fAd K (x, some "__init__"))) = some (.type "function"))
theorem init_ok {P : Program} {K : PySem.W.Frag} {x f arg slf : Str} {params : Arguments} {scope : Scope} {txt : Str} {p0 p1 p2 p3 p4 p5 p6 p7 p8 p9 : Pos} {k : Nat} {ar : Arg} (h : initCB P K x f = true)
    (m : mObs K (x, "__init__") = some (params, .stmts (initB f arg slf txt p0 p1 p2 p3 p4 p5 p6 p7 p8 p9 k), scope)) (hl : (p2.endLine == p4.line) = true) (hp : (params.posonlyargs ++ params.args).head? = some ar) (ha : ar.arg = slf)
    (h1 : scope.kind = .function) (h2 : scope.isCoroutine = false) (h3 : scope.isGenerator = false) (h4 : ∀ x ∈ scope.names, x.2 ≠ .cell) (h5 : scope.names.lookup ("super" : Str) = some .globalImplicit) (h6 : scope.names.lookup ("__class__" : Str) = some .free)
    (h7 : scope.names.lookup slf = some .local) (h8 : scope.names.lookup arg = some .local) (h9 : arg ≠ slf) (h10 : (slf == ("__debug__" : Str)) = false) (h11 : (arg == ("__debug__" : Str)) = false) (h12 : (P.main.scope.names.lookup ("super" : Str)).isSome = false)
    (hb : ∀ (nm qn : Str) (body : FuncBody) (cl : List (Str × Addr)) (kV doc pm : Value) (an : Option Addr) (cd ct : Value) (a u : Value), bindArgs ⟨nm, qn, params, body, scope, mainGlobals, cl, .none, kV, doc, pm, an, cd, ct, builtinsNs⟩ ⟨[a, u], []⟩ = pure [(slf, a), (arg, u)]) :
    ∃ fd, InitC P K (He.ga K x) (He.fAd K (x, some "__init__")) fd f arg slf ∧ findIn K (.ref (He.ga K x)) "__init__" = some (some (.ref (He.fAd K (x, some "__init__")))) ∧ typeIn K (.ref (He.fAd K (x, some "__init__"))) = some (.type "function") ∧
      ∀ (s : Shared) (a u : Value), BindsTo s fd ⟨[a, u], []⟩ [(slf, a), (arg, u)] := by
  unfold initCB at h
  simp only [Bool.and_eq_true, decide_eq_true_eq] at h
  obtain ⟨⟨⟨⟨⟨⟨⟨⟨c1, c2⟩, c3⟩, c4⟩, c5⟩, c6⟩, c7⟩, c8⟩, c9⟩ := h
  unfold mObs at m
  cases q : K.lookup (He.fAd K (x, some "__init__")) with
  | none => rw [q] at c2; cases c2
  | some o =>
    rw [q] at c2
    have q0 := q
    simp only [q] at m
    obtain ⟨oc, od, dt, osl⟩ := o
    cases dt with
    | func fd =>
      simp only [Bool.and_eq_true, decide_eq_true_eq] at c2
      obtain ⟨⟨⟨⟨d1, d2⟩, d3⟩, d4⟩, d5⟩ := c2
      simp only [Option.some.injEq, Prod.mk.injEq] at m
      obtain ⟨m1, m2, m3⟩ := m
      refine ⟨fd, ⟨oexB_ok c1, ⟨oc, od, osl, q0⟩, ?_, ?_, d3, d4, ⟨txt, p0, p1, p2, p3, p4, p5, p6, p7, p8, p9, k, m2, hl⟩, ⟨ar, by rw [m1]; exact hp, ha⟩, by rw [m3]; exact h1, by rw [m3]; exact h2, by rw [m3]; exact h3, by rw [m3]; exact h4, by rw [m3]; exact h5, by rw [m3]; exact h6, by rw [m3]; exact h7, by rw [m3]; exact h8, h9, h10, h11, c3, c4, c5, c6, h12, c7⟩, c8, c9, ?_⟩
      · cases e : fd.code with
        | ref cda =>
          rw [e] at d1
          simp only [Bool.and_eq_true] at d1
          obtain ⟨d6, d7⟩ := d1
          split at d7
          · rename_i o2 cl cd vs sl q2
            split at d7
            · rename_i v file tf q3
              exact ⟨cda, cl, cd, vs, sl, file, tf, rfl, d6, q2, q3, d7⟩
            · cases d7
          · cases d7
        | _ => rw [e] at d1; cases d1
      · split at d2
        · rename_i n cc e
          simp only [Bool.and_eq_true, decide_eq_true_eq] at d2
          obtain ⟨d6, d7⟩ := d2
          subst d6
          split at d7
          · rename_i o2 cl cd C sl q2
            have d7 := of_decide_eq_true d7
            subst d7
            exact ⟨cc, cl, cd, sl, e, q2⟩
          · cases d7
        · cases d2
      · intro s a u
        obtain ⟨nm, qn, pr, bd, sc, gl, cl, df, kV, doc, pm, an, cd, ct, bl⟩ := fd
        simp only at d3 d4 d5 m1 m3
        subst d3 d4 d5 m1 m3
        exact BindsTo.of_eq (hb _ _ _ _ _ _ _ _ _ _ _ _)
    | _ => cases c2
/-! ### the Hook -/
abbrev AlM : Type := He.AlD × Bool × List (Option (Arguments × FuncBody × Scope))
def asM (g : Addr → Option Obj) (n : Nat) : List Addr := cStatics :: He.asD g n
def obsM (fa : List He.Fa) (fn : List He.DefD) (ex : PySem.W.Frag → Bool) (ms : List (Str × Str)) (K : PySem.W.Frag) : AlM := (He.obsD fa fn K, ex K, ms.map fun m => mObs K m)
def valM (fn : List He.DefD) (mv : List (Option (Arguments × FuncBody × Scope))) : AlM := (He.valD fn, true, mv)
def SaysM (fa : List He.Fa) (fn : List He.DefD) (ex : PySem.W.Frag → Bool) (ms : List (Str × Str)) (mv : List (Option (Arguments × FuncBody × Scope))) (K : PySem.W.Frag) : Prop := obsM fa fn ex ms K = valM fn mv
def obsMG (n : Nat) (fa : List He.Fa) (fn : List He.DefD) (ex : PySem.W.Frag → Bool) (ms : List (Str × Str)) (g : Addr → Option Obj) : AlM := obsM fa fn ex ms (He.frG g (asM g n))
def hookM (n : Nat) (fa : List He.Fa) (fn : List He.DefD) (ex : PySem.W.Frag → Bool) (ms : List (Str × Str)) (mv : List (Option (Arguments × FuncBody × Scope))) : PySem.W.Hook where
  α := AlM
  obs := fun s => obsMG n fa fn ex ms s.heap.get?
  val := fun _ => valM fn mv
  says := fun _ h => ∃ K : PySem.W.Frag, K.In h ∧ SaysM fa fn ex ms mv K
  of := fun _ _ e => ⟨_, He.frG_in, e⟩
  keeps := fun _ _ _ ⟨K, hK, c⟩ k => ⟨K, PySem.W.Frag.In.keeps hK k, c⟩
theorem obsMG_eq {n : Nat} {fa : List He.Fa} {fn : List He.DefD} {ex : PySem.W.Frag → Bool} {ms : List (Str × Str)} {mv : List (Option (Arguments × FuncBody × Scope))} {g : Addr → Option Obj} {s : Shared} (h : ∀ a, g a = s.heap.get? a) : obsMG n fa fn ex ms g = (hookM n fa fn ex ms mv).obs s := by
  have e : g = s.heap.get? := funext h
  rw [e] <;> rfl
theorem SaysM.d {fa : List He.Fa} {fn : List He.DefD} {ex : PySem.W.Frag → Bool} {ms : List (Str × Str)} {mv : List (Option (Arguments × FuncBody × Scope))} {K : PySem.W.Frag} (c : SaysM fa fn ex ms mv K) : He.SaysD fa fn K ∧ ex K = true ∧ (ms.map fun m => mObs K m) = mv :=
  ⟨congrArg (fun z : AlM => z.1) c, congrArg (fun z : AlM => z.2.1) c, congrArg (fun z : AlM => z.2.2) c⟩
end FF
end

section
open PySem FF L2
set_option maxRecDepth 100000
set_option maxHeartbeats 4000000
namespace Lw
def topS (i : Nat) : Stmt := PySem.Challenge.pw_flagfloors_k90_whole_frames.main.body.getD i (.Pass ⟨0, 0, 0, 0⟩)
def fnN : List Str := ["reached", "renumbered", "walk", "least", "exchanges", "frames", "_law_begun", "_law_draw", "_law_of", "_law_put", "_law_frame", "_law_round", "_law_is_number", "_law_is_form", "_law_is_pattern", "_law_walk", "_law_listed", "_law_least", "_law_ways", "_law_frames", "_law_is_refused", "law"]
def N_reached : List Str := ["value", "flag", "found", "line", "change"]
abbrev st_reached : Stmt := topS 5
def ir_reached : SL := (.cons (.setlc 2 ⟨17,4,17,9⟩ [("flag", 1)] ⟨.function, [(".0", .local), ("flag", .local)], false, false, []⟩ (.name 1 ⟨17,23,17,27⟩) (.seq (.ix (.var 0 ⟨17,31,17,36⟩) (.int (0) 0 ⟨17,37,17,38⟩) ⟨17,31,17,39⟩)) .nil (.bl false 0 ⟨17,13,17,18⟩) ⟨17,12,17,40⟩ ⟨17,4,17,40⟩)
    (.cons (.asg (.sub (.var 2 ⟨18,4,18,9⟩) (.int (0) 0 ⟨18,10,18,11⟩) ⟨18,4,18,12⟩) (.bl true 0 ⟨18,15,18,19⟩) ⟨18,4,18,19⟩)
    (.cons (.asg (.name 3 ⟨19,4,19,8⟩) (.lst (.cons (.int (0) 0 ⟨19,12,19,13⟩) .nil) ⟨19,11,19,14⟩) ⟨19,4,19,14⟩)
    (.cons (.whl (.cmp .ne (.var 3 ⟨20,10,20,14⟩) (.lst .nil ⟨20,18,20,20⟩) ⟨20,10,20,20⟩) (.cons (.asg (.name 1 ⟨21,8,21,12⟩) (.bm .pop (.var 3 ⟨21,15,21,19⟩) .nil ⟨21,15,21,23⟩ ⟨21,15,21,25⟩) ⟨21,8,21,25⟩)
    (.cons (.for (.name 4 ⟨22,12,22,18⟩) (.seq (.sl (.var 0 ⟨22,22,22,27⟩) .none (.some (.int (3) 0 ⟨22,29,22,30⟩)) ⟨22,22,22,31⟩ ⟨22,28,22,30⟩)) (.cons (.ifs (.not (.ix (.var 2 ⟨23,19,23,24⟩) (.ix (.var 4 ⟨23,25,23,31⟩) (.var 1 ⟨23,32,23,36⟩) ⟨23,25,23,37⟩) ⟨23,19,23,38⟩) ⟨23,15,23,38⟩) (.cons (.asg (.sub (.var 2 ⟨24,16,24,21⟩) (.ix (.var 4 ⟨24,22,24,28⟩) (.var 1 ⟨24,29,24,33⟩) ⟨24,22,24,34⟩) ⟨24,16,24,35⟩) (.bl true 0 ⟨24,38,24,42⟩) ⟨24,16,24,42⟩)
    (.cons (.exp (.bm .append (.var 3 ⟨25,16,25,20⟩) (.cons (.ix (.var 4 ⟨25,28,25,34⟩) (.var 1 ⟨25,35,25,39⟩) ⟨25,28,25,40⟩) .nil) ⟨25,16,25,27⟩ ⟨25,16,25,41⟩) ⟨25,16,25,41⟩)
    .nil)) .nil ⟨23,12,25,41⟩)
    .nil) ⟨22,8,25,41⟩)
    .nil)) ⟨20,4,25,41⟩)
    (.cons (.ret (.var 2 ⟨26,11,26,16⟩) ⟨26,4,26,16⟩)
    .nil)))))
def N_renumbered : List Str := ["pattern", "listing", "flag", "number", "place", "changes", "p", "q", "change"]
abbrev st_renumbered : Stmt := topS 7
def ir_renumbered : SL := (.cons (.asg (.name 3 ⟨29,4,29,10⟩) (.lc [("flag", 2)] ⟨.function, [(".0", .local), ("flag", .local)], false, false, []⟩ (.name 2 ⟨29,20,29,24⟩) (.seq (.var 1 ⟨29,28,29,35⟩)) .nil (.int (0) 0 ⟨29,14,29,15⟩) ⟨29,13,29,36⟩) ⟨29,4,29,36⟩)
    (.cons (.for (.tup (.cons (.name 4 ⟨30,8,30,13⟩) (.cons (.name 2 ⟨30,15,30,19⟩) .nil)) 0 ⟨30,8,30,19⟩) (.enum (.var 1 ⟨30,33,30,40⟩) ⟨30,23,30,32⟩ ⟨30,23,30,41⟩) (.cons (.asg (.sub (.var 3 ⟨31,8,31,14⟩) (.var 2 ⟨31,15,31,19⟩) ⟨31,8,31,20⟩) (.var 4 ⟨31,23,31,28⟩) ⟨31,8,31,28⟩)
    .nil) ⟨30,4,31,28⟩)
    (.cons (.setlc 5 ⟨32,4,32,11⟩ [("change", 8)] ⟨.function, [(".0", .local), ("change", .cell), ("tuple", .globalImplicit), ("listing", .free), ("number", .free)], false, false, []⟩ (.name 8 ⟨32,69,32,75⟩) (.seq (.sl (.var 0 ⟨32,79,32,86⟩) .none (.some (.int (3) 0 ⟨32,88,32,89⟩)) ⟨32,79,32,90⟩ ⟨32,87,32,89⟩)) .nil (.bi .tuple (.cons (.lc [("flag", 2)] ⟨.function, [(".0", .local), ("flag", .local), ("change", .free), ("number", .free)], false, false, []⟩ (.name 2 ⟨32,47,32,51⟩) (.seq (.var 1 ⟨32,55,32,62⟩)) .nil (.ix (.var 3 ⟨32,22,32,28⟩) (.ix (.var 8 ⟨32,29,32,35⟩) (.var 2 ⟨32,36,32,40⟩) ⟨32,29,32,41⟩) ⟨32,22,32,42⟩) ⟨32,21,32,63⟩) .nil) ⟨32,15,32,20⟩ ⟨32,15,32,64⟩) ⟨32,14,32,91⟩ ⟨32,4,32,91⟩)
    (.cons (.asg (.name 6 ⟨33,4,33,5⟩) (.bi .tuple (.cons (.lc [("flag", 2)] ⟨.function, [(".0", .local), ("flag", .local), ("pattern", .free)], false, false, []⟩ (.name 2 ⟨33,36,33,40⟩) (.seq (.var 1 ⟨33,44,33,51⟩)) .nil (.ix (.ix (.var 0 ⟨33,15,33,22⟩) (.int (3) 0 ⟨33,23,33,24⟩) ⟨33,15,33,25⟩) (.var 2 ⟨33,26,33,30⟩) ⟨33,15,33,31⟩) ⟨33,14,33,52⟩) .nil) ⟨33,8,33,13⟩ ⟨33,8,33,53⟩) ⟨33,4,33,53⟩)
    (.cons (.asg (.name 7 ⟨34,4,34,5⟩) (.bi .tuple (.cons (.lc [("flag", 2)] ⟨.function, [(".0", .local), ("flag", .local), ("pattern", .free)], false, false, []⟩ (.name 2 ⟨34,36,34,40⟩) (.seq (.var 1 ⟨34,44,34,51⟩)) .nil (.ix (.ix (.var 0 ⟨34,15,34,22⟩) (.int (4) 0 ⟨34,23,34,24⟩) ⟨34,15,34,25⟩) (.var 2 ⟨34,26,34,30⟩) ⟨34,15,34,31⟩) ⟨34,14,34,52⟩) .nil) ⟨34,8,34,13⟩ ⟨34,8,34,53⟩) ⟨34,4,34,53⟩)
    (.cons (.ret (.tup (.cons (.ix (.var 5 ⟨35,12,35,19⟩) (.int (0) 0 ⟨35,20,35,21⟩) ⟨35,12,35,22⟩) (.cons (.ix (.var 5 ⟨35,24,35,31⟩) (.int (1) 0 ⟨35,32,35,33⟩) ⟨35,24,35,34⟩) (.cons (.ix (.var 5 ⟨35,36,35,43⟩) (.int (2) 0 ⟨35,44,35,45⟩) ⟨35,36,35,46⟩) (.cons (.var 6 ⟨35,48,35,49⟩) (.cons (.var 7 ⟨35,51,35,52⟩) .nil))))) 0 ⟨35,11,35,53⟩) ⟨35,4,35,53⟩)
    .nil))))))
def N_walk : List Str := ["pattern", "flag", "listing", "place", "seen", "change", "target"]
abbrev st_walk : Stmt := topS 8
def ir_walk : SL := (.cons (.par 2 3 ⟨37,4,37,11⟩ ⟨37,13,37,18⟩ 0 ⟨37,4,37,18⟩ (.lst (.cons (.var 1 ⟨37,23,37,27⟩) .nil) ⟨37,22,37,28⟩) (.int (0) 0 ⟨37,30,37,31⟩) 0 ⟨37,21,37,32⟩ ⟨37,4,37,32⟩)
    (.cons (.asg (.name 4 ⟨38,4,38,8⟩) (.bi .set0 .nil ⟨38,11,38,14⟩ ⟨38,11,38,16⟩) ⟨38,4,38,16⟩)
    (.cons (.exp (.bm .add (.var 4 ⟨39,4,39,8⟩) (.cons (.var 1 ⟨39,13,39,17⟩) .nil) ⟨39,4,39,12⟩ ⟨39,4,39,18⟩) ⟨39,4,39,18⟩)
    (.cons (.whl (.cmp .lt (.var 3 ⟨40,10,40,15⟩) (.bi .len (.cons (.var 2 ⟨40,22,40,29⟩) .nil) ⟨40,18,40,21⟩ ⟨40,18,40,30⟩) ⟨40,10,40,30⟩) (.cons (.for (.name 5 ⟨41,12,41,18⟩) (.seq (.sl (.var 0 ⟨41,22,41,29⟩) .none (.some (.int (3) 0 ⟨41,31,41,32⟩)) ⟨41,22,41,33⟩ ⟨41,30,41,32⟩)) (.cons (.asg (.name 6 ⟨42,12,42,18⟩) (.ix (.var 5 ⟨42,21,42,27⟩) (.ix (.var 2 ⟨42,28,42,35⟩) (.var 3 ⟨42,36,42,41⟩) ⟨42,28,42,42⟩) ⟨42,21,42,43⟩) ⟨42,12,42,43⟩)
    (.cons (.ifs (.cmp .nmem (.var 6 ⟨43,15,43,21⟩) (.var 4 ⟨43,29,43,33⟩) ⟨43,15,43,33⟩) (.cons (.exp (.bm .add (.var 4 ⟨44,16,44,20⟩) (.cons (.var 6 ⟨44,25,44,31⟩) .nil) ⟨44,16,44,24⟩ ⟨44,16,44,32⟩) ⟨44,16,44,32⟩)
    (.cons (.exp (.bm .append (.var 2 ⟨45,16,45,23⟩) (.cons (.var 6 ⟨45,31,45,37⟩) .nil) ⟨45,16,45,30⟩ ⟨45,16,45,38⟩) ⟨45,16,45,38⟩)
    .nil)) .nil ⟨43,12,45,38⟩)
    .nil)) ⟨41,8,45,38⟩)
    (.cons (.aug 3 ⟨46,8,46,13⟩ .add (.int (1) 0 ⟨46,17,46,18⟩) ⟨46,8,46,18⟩)
    .nil)) ⟨40,4,46,18⟩)
    (.cons (.ret (.bi .tuple (.cons (.var 2 ⟨47,17,47,24⟩) .nil) ⟨47,11,47,16⟩ ⟨47,11,47,25⟩) ⟨47,4,47,25⟩)
    .nil)))))
def N_least : List Str := ["pattern", "best", "flag", "found"]
abbrev st_least : Stmt := topS 9
def ir_least : SL := (.cons (.asg (.name 1 ⟨49,4,49,8⟩) (.call 1 (.cons (.var 0 ⟨49,22,49,29⟩) (.cons (.call 2 (.cons (.var 0 ⟨49,36,49,43⟩) (.cons (.int (0) 0 ⟨49,45,49,46⟩) .nil)) ⟨49,31,49,35⟩ ⟨49,31,49,47⟩) .nil)) ⟨49,11,49,21⟩ ⟨49,11,49,48⟩) ⟨49,4,49,48⟩)
    (.cons (.for (.name 2 ⟨50,8,50,12⟩) (.rng2 (.int (1) 0 ⟨50,22,50,23⟩) (.bi .len (.cons (.ix (.var 0 ⟨50,29,50,36⟩) (.int (0) 0 ⟨50,37,50,38⟩) ⟨50,29,50,39⟩) .nil) ⟨50,25,50,28⟩ ⟨50,25,50,40⟩) ⟨50,16,50,21⟩ ⟨50,16,50,41⟩) (.cons (.asg (.name 3 ⟨51,8,51,13⟩) (.call 1 (.cons (.var 0 ⟨51,27,51,34⟩) (.cons (.call 2 (.cons (.var 0 ⟨51,41,51,48⟩) (.cons (.var 2 ⟨51,50,51,54⟩) .nil)) ⟨51,36,51,40⟩ ⟨51,36,51,55⟩) .nil)) ⟨51,16,51,26⟩ ⟨51,16,51,56⟩) ⟨51,8,51,56⟩)
    (.cons (.ifs (.cmp .lt (.var 3 ⟨52,11,52,16⟩) (.var 1 ⟨52,19,52,23⟩) ⟨52,11,52,23⟩) (.cons (.asg (.name 1 ⟨53,12,53,16⟩) (.var 3 ⟨53,19,53,24⟩) ⟨53,12,53,24⟩)
    .nil) .nil ⟨52,8,53,24⟩)
    .nil)) ⟨50,4,53,24⟩)
    (.cons (.ret (.var 1 ⟨54,11,54,15⟩) ⟨54,4,54,15⟩)
    .nil)))
def N_exchanges : List Str := ["count", "found", "flag", "longer", "entries", "other"]
abbrev st_exchanges : Stmt := topS 12
def ir_exchanges : SL := (.cons (.asg (.name 1 ⟨58,4,58,9⟩) (.lst (.cons (.tup .nil 0 ⟨58,13,58,15⟩) .nil) ⟨58,12,58,16⟩) ⟨58,4,58,16⟩)
    (.cons (.for (.name 2 ⟨59,8,59,12⟩) (.rng1 (.var 0 ⟨59,22,59,27⟩) ⟨59,16,59,21⟩ ⟨59,16,59,28⟩) (.cons (.asg (.name 3 ⟨60,8,60,14⟩) (.lst .nil ⟨60,17,60,19⟩) ⟨60,8,60,19⟩)
    (.cons (.for (.name 4 ⟨61,12,61,19⟩) (.seq (.var 1 ⟨61,23,61,28⟩)) (.cons (.exp (.bm .append (.var 3 ⟨62,12,62,18⟩) (.cons (.bin .add (.var 4 ⟨62,26,62,33⟩) (.tup (.cons (.var 2 ⟨62,37,62,41⟩) .nil) 0 ⟨62,36,62,43⟩) ⟨62,26,62,43⟩) .nil) ⟨62,12,62,25⟩ ⟨62,12,62,44⟩) ⟨62,12,62,44⟩)
    (.cons (.for (.name 5 ⟨63,16,63,21⟩) (.rng1 (.var 2 ⟨63,31,63,35⟩) ⟨63,25,63,30⟩ ⟨63,25,63,36⟩) (.cons (.ifs (.cmp .eq (.ix (.var 4 ⟨64,19,64,26⟩) (.var 5 ⟨64,27,64,32⟩) ⟨64,19,64,33⟩) (.var 5 ⟨64,37,64,42⟩) ⟨64,19,64,42⟩) (.cons (.exp (.bm .append (.var 3 ⟨65,20,65,26⟩) (.cons (.bin .add (.bin .add (.bin .add (.sl (.var 4 ⟨65,34,65,41⟩) .none (.some (.var 5 ⟨65,43,65,48⟩)) ⟨65,34,65,49⟩ ⟨65,42,65,48⟩) (.tup (.cons (.var 2 ⟨65,53,65,57⟩) .nil) 0 ⟨65,52,65,59⟩) ⟨65,34,65,59⟩) (.sl (.var 4 ⟨65,62,65,69⟩) (.some (.bin .add (.var 5 ⟨65,70,65,75⟩) (.int (1) 0 ⟨65,78,65,79⟩) ⟨65,70,65,79⟩)) .none ⟨65,62,65,81⟩ ⟨65,70,65,80⟩) ⟨65,34,65,81⟩) (.tup (.cons (.var 5 ⟨65,85,65,90⟩) .nil) 0 ⟨65,84,65,92⟩) ⟨65,34,65,92⟩) .nil) ⟨65,20,65,33⟩ ⟨65,20,65,93⟩) ⟨65,20,65,93⟩)
    .nil) .nil ⟨64,16,65,93⟩)
    .nil) ⟨63,12,65,93⟩)
    .nil)) ⟨61,8,65,93⟩)
    (.cons (.asg (.name 1 ⟨66,8,66,13⟩) (.var 3 ⟨66,16,66,22⟩) ⟨66,8,66,22⟩)
    .nil))) ⟨59,4,66,22⟩)
    (.cons (.ret (.var 1 ⟨67,11,67,16⟩) ⟨67,4,67,16⟩)
    .nil)))
def N_frames : List Str := ["count", "ways", "ones", "found", "s0", "s2", "s1", "flag"]
abbrev st_frames : Stmt := topS 13
def ir_frames : SL := (.cons (.ifs (.cmp .gt (.var 0 ⟨69,7,69,12⟩) (.gint "MOST_FRAME" (4) ⟨69,15,69,25⟩) ⟨69,7,69,25⟩) (.cons (.nev (PySem.Stmt.Raise (exc := (some (PySem.Expr.Call (func := (PySem.Expr.Name "TooMany" ⟨70, 14, 70, 21⟩)) (args := [(PySem.Expr.Name "MOST_FRAME" ⟨70, 22, 70, 32⟩)]) (keywords := []) (pos := ⟨70, 14, 70, 33⟩)))) (cause := none) (pos := ⟨70, 8, 70, 33⟩)))
    .nil) .nil ⟨69,4,70,33⟩)
    (.cons (.par 1 2 ⟨71,4,71,8⟩ ⟨71,10,71,14⟩ 0 ⟨71,4,71,14⟩ (.call 4 (.cons (.var 0 ⟨71,28,71,33⟩) .nil) ⟨71,18,71,27⟩ ⟨71,18,71,34⟩) (.bin .mul (.tup (.cons (.int (1) 0 ⟨71,37,71,38⟩) .nil) 0 ⟨71,36,71,40⟩) (.var 0 ⟨71,43,71,48⟩) ⟨71,36,71,48⟩) 0 ⟨71,17,71,49⟩ ⟨71,4,71,49⟩)
    (.cons (.asg (.name 3 ⟨72,4,72,9⟩) (.dnew true ⟨72,12,72,14⟩) ⟨72,4,72,14⟩)
    (.cons (.for (.name 4 ⟨73,8,73,10⟩) (.seq (.var 1 ⟨73,14,73,18⟩)) (.cons (.for (.name 5 ⟨74,12,74,14⟩) (.seq (.var 1 ⟨74,18,74,22⟩)) (.cons (.ifs (.bi .any (.cons (.lc [("flag", 7)] ⟨.function, [(".0", .local), ("flag", .local), ("s0", .free), ("s2", .free)], false, false, []⟩ (.name 7 ⟨75,53,75,57⟩) (.rng1 (.var 0 ⟨75,67,75,72⟩) ⟨75,61,75,66⟩ ⟨75,61,75,73⟩) .nil (.cmp .ne (.ix (.var 4 ⟨75,20,75,22⟩) (.ix (.var 5 ⟨75,23,75,25⟩) (.var 7 ⟨75,26,75,30⟩) ⟨75,23,75,31⟩) ⟨75,20,75,32⟩) (.ix (.var 5 ⟨75,36,75,38⟩) (.ix (.var 4 ⟨75,39,75,41⟩) (.var 7 ⟨75,42,75,46⟩) ⟨75,39,75,47⟩) ⟨75,36,75,48⟩) ⟨75,20,75,48⟩) ⟨75,19,75,74⟩) .nil) ⟨75,15,75,18⟩ ⟨75,15,75,75⟩) (.cons (.cnt ⟨76,16,76,24⟩)
    .nil) .nil ⟨75,12,76,24⟩)
    (.cons (.for (.name 6 ⟨77,16,77,18⟩) (.seq (.var 1 ⟨77,22,77,26⟩)) (.cons (.ifs (.bi .all (.cons (.call 0 (.cons (.tup (.cons (.var 4 ⟨78,32,78,34⟩) (.cons (.var 6 ⟨78,36,78,38⟩) (.cons (.var 5 ⟨78,40,78,42⟩) .nil))) 0 ⟨78,31,78,43⟩) .nil) ⟨78,23,78,30⟩ ⟨78,23,78,44⟩) .nil) ⟨78,19,78,22⟩ ⟨78,19,78,45⟩) (.cons (.asg (.sub (.var 3 ⟨79,20,79,25⟩) (.sl (.call 3 (.cons (.tup (.cons (.var 4 ⟨79,33,79,35⟩) (.cons (.var 6 ⟨79,37,79,39⟩) (.cons (.var 5 ⟨79,41,79,43⟩) (.cons (.var 2 ⟨79,45,79,49⟩) (.cons (.var 2 ⟨79,51,79,55⟩) .nil))))) 0 ⟨79,32,79,56⟩) .nil) ⟨79,26,79,31⟩ ⟨79,26,79,57⟩) .none (.some (.int (3) 0 ⟨79,59,79,60⟩)) ⟨79,26,79,61⟩ ⟨79,58,79,60⟩) ⟨79,20,79,62⟩) (.bl true 0 ⟨79,65,79,69⟩) ⟨79,20,79,69⟩)
    .nil) .nil ⟨78,16,79,69⟩)
    .nil) ⟨77,12,79,69⟩)
    .nil)) ⟨74,8,79,69⟩)
    .nil) ⟨73,4,79,69⟩)
    (.cons (.ret (.bi .tuple (.cons (.bi .sorted (.cons (.var 3 ⟨80,24,80,29⟩) .nil) ⟨80,17,80,23⟩ ⟨80,17,80,30⟩) .nil) ⟨80,11,80,16⟩ ⟨80,11,80,31⟩) ⟨80,4,80,31⟩)
    .nil)))))
def N__law_begun : List Str := ["script", "k", "cells", "cell", "great", "seed"]
abbrev st__law_begun : Stmt := topS 15
def ir__law_begun : SL := (.cons (.asg (.name 2 ⟨83,4,83,9⟩) (.bin .add (.sl (.var 0 ⟨83,12,83,18⟩) (.some (.var 1 ⟨83,19,83,20⟩)) .none ⟨83,12,83,22⟩ ⟨83,19,83,21⟩) (.sl (.var 0 ⟨83,25,83,31⟩) .none (.some (.var 1 ⟨83,33,83,34⟩)) ⟨83,25,83,35⟩ ⟨83,32,83,34⟩) ⟨83,12,83,35⟩) ⟨83,4,83,35⟩)
    (.cons (.setlc 4 ⟨84,4,84,9⟩ [("cell", 3)] ⟨.function, [(".0", .local), ("cell", .local)], false, false, []⟩ (.name 3 ⟨84,22,84,26⟩) (.seq (.var 2 ⟨84,30,84,35⟩)) (.cons (.cmp .ge (.var 3 ⟨84,39,84,43⟩) (.bin .pow (.int (10) 0 ⟨84,47,84,49⟩) (.int (18) 0 ⟨84,53,84,55⟩) ⟨84,47,84,55⟩) ⟨84,39,84,55⟩) .nil) (.var 3 ⟨84,13,84,17⟩) ⟨84,12,84,56⟩ ⟨84,4,84,56⟩)
    (.cons (.asg (.name 5 ⟨85,4,85,8⟩) (.bin .add (.int (71) 0 ⟨85,11,85,13⟩) (.var 1 ⟨85,16,85,17⟩) ⟨85,11,85,17⟩) ⟨85,4,85,17⟩)
    (.cons (.for (.name 3 ⟨86,8,86,12⟩) (.seq (.var 2 ⟨86,16,86,21⟩)) (.cons (.asg (.name 5 ⟨87,8,87,12⟩) (.bin .mod (.bi .int (.cons (.bin .add (.bin .mul (.var 5 ⟨87,19,87,23⟩) (.int (48271) 0 ⟨87,26,87,31⟩) ⟨87,19,87,31⟩) (.var 3 ⟨87,34,87,38⟩) ⟨87,19,87,38⟩) .nil) ⟨87,15,87,18⟩ ⟨87,15,87,39⟩) (.int (2147483647) 0 ⟨87,42,87,52⟩) ⟨87,15,87,52⟩) ⟨87,8,87,52⟩)
    .nil) ⟨86,4,87,52⟩)
    (.cons (.ret (.disp (.cons (.str "left" 0 ⟨88,12,88,18⟩) (.cons (.str "seed" 0 ⟨88,52,88,58⟩) (.cons (.str "cells" 0 ⟨88,66,88,73⟩) (.cons (.str "spot" 0 ⟨88,98,88,104⟩) .nil)))) (.cons (.ife (.cmp .ne (.var 4 ⟨88,32,88,37⟩) (.lst .nil ⟨88,41,88,43⟩) ⟨88,32,88,43⟩) (.ix (.var 4 ⟨88,20,88,25⟩) (.int (0) 0 ⟨88,26,88,27⟩) ⟨88,20,88,28⟩) (.int (0) 0 ⟨88,49,88,50⟩) ⟨88,20,88,50⟩) (.cons (.var 5 ⟨88,60,88,64⟩) (.cons (.bin .add (.var 2 ⟨88,75,88,80⟩) (.lst (.cons (.bin .add (.bin .mul (.int (53) 0 ⟨88,84,88,86⟩) (.var 1 ⟨88,89,88,90⟩) ⟨88,84,88,90⟩) (.int (11) 0 ⟨88,93,88,95⟩) ⟨88,84,88,95⟩) .nil) ⟨88,83,88,96⟩) ⟨88,75,88,96⟩) (.cons (.int (0) 0 ⟨88,106,88,107⟩) .nil)))) ⟨88,11,88,108⟩) ⟨88,4,88,108⟩)
    .nil)))))
def N__law_draw : List Str := ["m", "below", "found", "spot", "cells", "extra", "cell", "blend"]
abbrev st__law_draw : Stmt := topS 16
def ir__law_draw : SL := (.cons (.ifs (.cmp .gt (.ix (.var 0 ⟨90,7,90,8⟩) (.str "left" 0 ⟨90,9,90,15⟩) ⟨90,7,90,16⟩) (.int (0) 0 ⟨90,19,90,20⟩) ⟨90,7,90,20⟩) (.cons (.asg (.name 2 ⟨91,8,91,13⟩) (.bin .mod (.bi .int (.cons (.ix (.var 0 ⟨91,20,91,21⟩) (.str "left" 0 ⟨91,22,91,28⟩) ⟨91,20,91,29⟩) .nil) ⟨91,16,91,19⟩ ⟨91,16,91,30⟩) (.var 1 ⟨91,33,91,38⟩) ⟨91,16,91,38⟩) ⟨91,8,91,38⟩)
    (.cons (.asg (.sub (.var 0 ⟨92,8,92,9⟩) (.str "left" 0 ⟨92,10,92,16⟩) ⟨92,8,92,17⟩) (.bin .fdiv (.ix (.var 0 ⟨92,20,92,21⟩) (.str "left" 0 ⟨92,22,92,28⟩) ⟨92,20,92,29⟩) (.var 1 ⟨92,33,92,38⟩) ⟨92,20,92,38⟩) ⟨92,8,92,38⟩)
    (.cons (.ret (.var 2 ⟨93,15,93,20⟩) ⟨93,8,93,20⟩)
    .nil))) .nil ⟨90,4,93,20⟩)
    (.cons (.asg (.name 3 ⟨94,4,94,8⟩) (.ix (.var 0 ⟨94,11,94,12⟩) (.str "spot" 0 ⟨94,13,94,19⟩) ⟨94,11,94,20⟩) ⟨94,4,94,20⟩)
    (.cons (.asg (.sub (.var 0 ⟨95,4,95,5⟩) (.str "spot" 0 ⟨95,6,95,12⟩) ⟨95,4,95,13⟩) (.bin .add (.var 3 ⟨95,16,95,20⟩) (.int (1) 0 ⟨95,23,95,24⟩) ⟨95,16,95,24⟩) ⟨95,4,95,24⟩)
    (.cons (.par 4 5 ⟨96,4,96,9⟩ ⟨96,11,96,16⟩ 0 ⟨96,4,96,16⟩ (.ix (.var 0 ⟨96,20,96,21⟩) (.str "cells" 0 ⟨96,22,96,29⟩) ⟨96,20,96,30⟩) (.bin .add (.ix (.var 0 ⟨96,32,96,33⟩) (.str "seed" 0 ⟨96,34,96,40⟩) ⟨96,32,96,41⟩) (.bin .mul (.bin .mul (.int (40503) 0 ⟨96,44,96,49⟩) (.var 3 ⟨96,52,96,56⟩) ⟨96,44,96,56⟩) (.var 3 ⟨96,59,96,63⟩) ⟨96,44,96,63⟩) ⟨96,32,96,63⟩) 0 ⟨96,19,96,64⟩ ⟨96,4,96,64⟩)
    (.cons (.asg (.name 6 ⟨97,4,97,8⟩) (.ix (.var 4 ⟨97,11,97,16⟩) (.bin .mod (.bi .int (.cons (.var 3 ⟨97,21,97,25⟩) .nil) ⟨97,17,97,20⟩ ⟨97,17,97,26⟩) (.bi .len (.cons (.var 4 ⟨97,33,97,38⟩) .nil) ⟨97,29,97,32⟩ ⟨97,29,97,39⟩) ⟨97,17,97,39⟩) ⟨97,11,97,40⟩) ⟨97,4,97,40⟩)
    (.cons (.asg (.name 7 ⟨98,4,98,9⟩) (.bin .mod (.bi .int (.cons (.bin .add (.bin .mul (.var 6 ⟨98,16,98,20⟩) (.bin .add (.bin .mul (.int (2) 0 ⟨98,24,98,25⟩) (.var 3 ⟨98,28,98,32⟩) ⟨98,24,98,32⟩) (.int (3) 0 ⟨98,35,98,36⟩) ⟨98,24,98,36⟩) ⟨98,16,98,37⟩) (.var 5 ⟨98,40,98,45⟩) ⟨98,16,98,45⟩) .nil) ⟨98,12,98,15⟩ ⟨98,12,98,46⟩) (.int (2147483647) 0 ⟨98,49,98,59⟩) ⟨98,12,98,59⟩) ⟨98,4,98,59⟩)
    (.cons (.asg (.name 7 ⟨99,4,99,9⟩) (.bin .mod (.bi .int (.cons (.bin .add (.bin .add (.bin .mul (.var 7 ⟨99,16,99,21⟩) (.var 7 ⟨99,24,99,29⟩) ⟨99,16,99,29⟩) (.bin .mul (.int (69621) 0 ⟨99,32,99,37⟩) (.var 3 ⟨99,40,99,44⟩) ⟨99,32,99,44⟩) ⟨99,16,99,44⟩) (.ix (.var 0 ⟨99,47,99,48⟩) (.str "seed" 0 ⟨99,49,99,55⟩) ⟨99,47,99,56⟩) ⟨99,16,99,56⟩) .nil) ⟨99,12,99,15⟩ ⟨99,12,99,57⟩) (.int (2147483629) 0 ⟨99,60,99,70⟩) ⟨99,12,99,70⟩) ⟨99,4,99,70⟩)
    (.cons (.ret (.bin .mod (.bin .fdiv (.bin .mod (.bi .int (.cons (.bin .add (.bin .mul (.var 7 ⟨100,15,100,20⟩) (.int (48271) 0 ⟨100,23,100,28⟩) ⟨100,15,100,28⟩) (.var 3 ⟨100,31,100,35⟩) ⟨100,15,100,35⟩) .nil) ⟨100,11,100,14⟩ ⟨100,11,100,36⟩) (.int (2147483647) 0 ⟨100,39,100,49⟩) ⟨100,11,100,49⟩) (.int (11) 0 ⟨100,53,100,55⟩) ⟨100,11,100,55⟩) (.var 1 ⟨100,58,100,63⟩) ⟨100,11,100,63⟩) ⟨100,4,100,63⟩)
    .nil))))))))
def N__law_of : List Str := ["m", "some"]
abbrev st__law_of : Stmt := topS 17
def ir__law_of : SL := (.cons (.ret (.ix (.var 1 ⟨102,11,102,15⟩) (.call 7 (.cons (.var 0 ⟨102,26,102,27⟩) (.cons (.bi .len (.cons (.var 1 ⟨102,33,102,37⟩) .nil) ⟨102,29,102,32⟩ ⟨102,29,102,38⟩) .nil)) ⟨102,16,102,25⟩ ⟨102,16,102,39⟩) ⟨102,11,102,40⟩) ⟨102,4,102,40⟩)
    .nil)
def N__law_put : List Str := ["rows", "word", "base", "first", "third", "entry", "k"]
abbrev st__law_put : Stmt := topS 18
def ir__law_put : SL := (.cons (.asg (.name 2 ⟨104,4,104,8⟩) (.bi .len (.cons (.ix (.var 0 ⟨104,15,104,19⟩) (.int (0) 0 ⟨104,20,104,21⟩) ⟨104,15,104,22⟩) .nil) ⟨104,11,104,14⟩ ⟨104,11,104,23⟩) ⟨104,4,104,23⟩)
    (.cons (.asg (.name 3 ⟨105,4,105,9⟩) (.ix (.disp (.cons (.str "four" 0 ⟨105,13,105,19⟩) (.cons (.str "zero" 0 ⟨105,35,105,41⟩) (.cons (.str "two" 0 ⟨105,51,105,56⟩) (.cons (.str "both" 0 ⟨105,66,105,72⟩) (.cons (.str "one" 0 ⟨105,82,105,87⟩) .nil))))) (.cons (.lst (.cons (.int (1) 0 ⟨105,22,105,23⟩) (.cons (.int (0) 0 ⟨105,25,105,26⟩) (.cons (.int (3) 0 ⟨105,28,105,29⟩) (.cons (.int (2) 0 ⟨105,31,105,32⟩) .nil)))) ⟨105,21,105,33⟩) (.cons (.lst (.cons (.int (1) 0 ⟨105,44,105,45⟩) (.cons (.int (0) 0 ⟨105,47,105,48⟩) .nil)) ⟨105,43,105,49⟩) (.cons (.lst (.cons (.int (0) 0 ⟨105,59,105,60⟩) (.cons (.int (1) 0 ⟨105,62,105,63⟩) .nil)) ⟨105,58,105,64⟩) (.cons (.lst (.cons (.int (1) 0 ⟨105,75,105,76⟩) (.cons (.int (0) 0 ⟨105,78,105,79⟩) .nil)) ⟨105,74,105,80⟩) (.cons (.lst (.cons (.int (0) 0 ⟨105,90,105,91⟩) .nil) ⟨105,89,105,92⟩) .nil))))) ⟨105,12,105,93⟩) (.var 1 ⟨105,94,105,98⟩) ⟨105,12,105,99⟩) ⟨105,4,105,99⟩)
    (.cons (.asg (.name 4 ⟨106,4,106,9⟩) (.ix (.disp (.cons (.str "four" 0 ⟨106,13,106,19⟩) (.cons (.str "zero" 0 ⟨106,35,106,41⟩) (.cons (.str "two" 0 ⟨106,51,106,56⟩) (.cons (.str "both" 0 ⟨106,66,106,72⟩) (.cons (.str "one" 0 ⟨106,82,106,87⟩) .nil))))) (.cons (.lst (.cons (.int (2) 0 ⟨106,22,106,23⟩) (.cons (.int (3) 0 ⟨106,25,106,26⟩) (.cons (.int (0) 0 ⟨106,28,106,29⟩) (.cons (.int (1) 0 ⟨106,31,106,32⟩) .nil)))) ⟨106,21,106,33⟩) (.cons (.lst (.cons (.int (0) 0 ⟨106,44,106,45⟩) (.cons (.int (1) 0 ⟨106,47,106,48⟩) .nil)) ⟨106,43,106,49⟩) (.cons (.lst (.cons (.int (1) 0 ⟨106,59,106,60⟩) (.cons (.int (0) 0 ⟨106,62,106,63⟩) .nil)) ⟨106,58,106,64⟩) (.cons (.lst (.cons (.int (1) 0 ⟨106,75,106,76⟩) (.cons (.int (0) 0 ⟨106,78,106,79⟩) .nil)) ⟨106,74,106,80⟩) (.cons (.lst (.cons (.int (0) 0 ⟨106,90,106,91⟩) .nil) ⟨106,89,106,92⟩) .nil))))) ⟨106,12,106,93⟩) (.var 1 ⟨106,94,106,98⟩) ⟨106,12,106,99⟩) ⟨106,4,106,99⟩)
    (.cons (.exp (.bm .extend (.ix (.var 0 ⟨107,4,107,8⟩) (.int (0) 0 ⟨107,9,107,10⟩) ⟨107,4,107,11⟩) (.cons (.lc [("entry", 5)] ⟨.function, [(".0", .local), ("entry", .local), ("base", .free)], false, false, []⟩ (.name 5 ⟨107,37,107,42⟩) (.seq (.var 3 ⟨107,46,107,51⟩)) .nil (.bin .add (.var 2 ⟨107,20,107,24⟩) (.var 5 ⟨107,27,107,32⟩) ⟨107,20,107,32⟩) ⟨107,19,107,52⟩) .nil) ⟨107,4,107,18⟩ ⟨107,4,107,53⟩) ⟨107,4,107,53⟩)
    (.cons (.exp (.bm .extend (.ix (.var 0 ⟨108,4,108,8⟩) (.int (1) 0 ⟨108,9,108,10⟩) ⟨108,4,108,11⟩) (.cons (.lc [("k", 6)] ⟨.function, [(".0", .local), ("k", .local), ("base", .free)], false, false, []⟩ (.name 6 ⟨108,33,108,34⟩) (.rng1 (.bi .len (.cons (.var 3 ⟨108,48,108,53⟩) .nil) ⟨108,44,108,47⟩ ⟨108,44,108,54⟩) ⟨108,38,108,43⟩ ⟨108,38,108,55⟩) .nil (.bin .add (.var 2 ⟨108,20,108,24⟩) (.var 6 ⟨108,27,108,28⟩) ⟨108,20,108,28⟩) ⟨108,19,108,56⟩) .nil) ⟨108,4,108,18⟩ ⟨108,4,108,57⟩) ⟨108,4,108,57⟩)
    (.cons (.exp (.bm .extend (.ix (.var 0 ⟨109,4,109,8⟩) (.int (2) 0 ⟨109,9,109,10⟩) ⟨109,4,109,11⟩) (.cons (.lc [("entry", 5)] ⟨.function, [(".0", .local), ("entry", .local), ("base", .free)], false, false, []⟩ (.name 5 ⟨109,37,109,42⟩) (.seq (.var 4 ⟨109,46,109,51⟩)) .nil (.bin .add (.var 2 ⟨109,20,109,24⟩) (.var 5 ⟨109,27,109,32⟩) ⟨109,20,109,32⟩) ⟨109,19,109,52⟩) .nil) ⟨109,4,109,18⟩ ⟨109,4,109,53⟩) ⟨109,4,109,53⟩)
    (.cons (.ret (.bi .len (.cons (.var 3 ⟨110,15,110,20⟩) .nil) ⟨110,11,110,14⟩ ⟨110,11,110,21⟩) ⟨110,4,110,21⟩)
    .nil)))))))
def N__law_frame : List Str := ["m", "most", "rows", "free", "turn", "word", "size", "base", "link", "other", "flag", "k"]
abbrev st__law_frame : Stmt := topS 19
def ir__law_frame : SL := (.cons (.par 2 3 ⟨112,4,112,8⟩ ⟨112,10,112,14⟩ 0 ⟨112,4,112,14⟩ (.lst (.cons (.lst .nil ⟨112,19,112,21⟩) (.cons (.lst .nil ⟨112,23,112,25⟩) (.cons (.lst .nil ⟨112,27,112,29⟩) .nil))) ⟨112,18,112,30⟩) (.lst .nil ⟨112,32,112,34⟩) 0 ⟨112,17,112,35⟩ ⟨112,4,112,35⟩)
    (.cons (.for (.name 4 ⟨113,8,113,12⟩) (.rng1 (.bin .add (.int (1) 0 ⟨113,22,113,23⟩) (.call 7 (.cons (.var 0 ⟨113,36,113,37⟩) (.cons (.int (6) 0 ⟨113,39,113,40⟩) .nil)) ⟨113,26,113,35⟩ ⟨113,26,113,41⟩) ⟨113,22,113,41⟩) ⟨113,16,113,21⟩ ⟨113,16,113,42⟩) (.cons (.asg (.name 5 ⟨114,8,114,12⟩) (.call 8 (.cons (.var 0 ⟨114,23,114,24⟩) (.cons (.lst (.cons (.str "four" 0 ⟨114,27,114,33⟩) (.cons (.str "zero" 0 ⟨114,35,114,41⟩) (.cons (.str "two" 0 ⟨114,43,114,48⟩) (.cons (.str "both" 0 ⟨114,50,114,56⟩) (.cons (.str "one" 0 ⟨114,58,114,63⟩) .nil))))) ⟨114,26,114,64⟩) .nil)) ⟨114,15,114,22⟩ ⟨114,15,114,65⟩) ⟨114,8,114,65⟩)
    (.cons (.asg (.name 6 ⟨115,8,115,12⟩) (.ix (.disp (.cons (.str "four" 0 ⟨115,16,115,22⟩) (.cons (.str "zero" 0 ⟨115,27,115,33⟩) (.cons (.str "two" 0 ⟨115,38,115,43⟩) (.cons (.str "both" 0 ⟨115,48,115,54⟩) (.cons (.str "one" 0 ⟨115,59,115,64⟩) .nil))))) (.cons (.int (4) 0 ⟨115,24,115,25⟩) (.cons (.int (2) 0 ⟨115,35,115,36⟩) (.cons (.int (2) 0 ⟨115,45,115,46⟩) (.cons (.int (2) 0 ⟨115,56,115,57⟩) (.cons (.int (1) 0 ⟨115,66,115,67⟩) .nil))))) ⟨115,15,115,68⟩) (.var 5 ⟨115,69,115,73⟩) ⟨115,15,115,74⟩) ⟨115,8,115,74⟩)
    (.cons (.asg (.name 7 ⟨116,8,116,12⟩) (.bi .len (.cons (.ix (.var 2 ⟨116,19,116,23⟩) (.int (0) 0 ⟨116,24,116,25⟩) ⟨116,19,116,26⟩) .nil) ⟨116,15,116,18⟩ ⟨116,15,116,27⟩) ⟨116,8,116,27⟩)
    (.cons (.ifs (.or (.cons (.cmp .gt (.bin .add (.var 7 ⟨117,11,117,15⟩) (.var 6 ⟨117,18,117,22⟩) ⟨117,11,117,22⟩) (.var 1 ⟨117,25,117,29⟩) ⟨117,11,117,29⟩) (.cons (.and (.cons (.cmp .gt (.var 7 ⟨117,34,117,38⟩) (.int (0) 0 ⟨117,41,117,42⟩) ⟨117,34,117,42⟩) (.cons (.cmp .eq (.var 3 ⟨117,47,117,51⟩) (.lst .nil ⟨117,55,117,57⟩) ⟨117,47,117,57⟩) .nil)) ⟨117,34,117,57⟩) .nil)) ⟨117,11,117,58⟩) (.cons (.cnt ⟨118,12,118,20⟩)
    .nil) .nil ⟨117,8,118,20⟩)
    (.cons (.exp (.call 9 (.cons (.var 2 ⟨119,17,119,21⟩) (.cons (.var 5 ⟨119,23,119,27⟩) .nil)) ⟨119,8,119,16⟩ ⟨119,8,119,28⟩) ⟨119,8,119,28⟩)
    (.cons (.ifs (.cmp .gt (.var 7 ⟨120,11,120,15⟩) (.int (0) 0 ⟨120,18,120,19⟩) ⟨120,11,120,19⟩) (.cons (.asg (.name 8 ⟨121,12,121,16⟩) (.call 8 (.cons (.var 0 ⟨121,27,121,28⟩) (.cons (.var 3 ⟨121,30,121,34⟩) .nil)) ⟨121,19,121,26⟩ ⟨121,19,121,35⟩) ⟨121,12,121,35⟩)
    (.cons (.asg (.sub (.ix (.var 2 ⟨122,12,122,16⟩) (.int (1) 0 ⟨122,17,122,18⟩) ⟨122,12,122,19⟩) (.var 8 ⟨122,20,122,24⟩) ⟨122,12,122,25⟩) (.var 7 ⟨122,28,122,32⟩) ⟨122,12,122,32⟩)
    (.cons (.asg (.sub (.ix (.var 2 ⟨123,12,123,16⟩) (.int (1) 0 ⟨123,17,123,18⟩) ⟨123,12,123,19⟩) (.var 7 ⟨123,20,123,24⟩) ⟨123,12,123,25⟩) (.var 8 ⟨123,28,123,32⟩) ⟨123,12,123,32⟩)
    (.cons (.setlc 3 ⟨124,12,124,16⟩ [("flag", 10)] ⟨.function, [(".0", .local), ("flag", .local), ("link", .free)], false, false, []⟩ (.name 10 ⟨124,29,124,33⟩) (.seq (.var 3 ⟨124,37,124,41⟩)) (.cons (.cmp .ne (.var 10 ⟨124,45,124,49⟩) (.var 8 ⟨124,53,124,57⟩) ⟨124,45,124,57⟩) .nil) (.var 10 ⟨124,20,124,24⟩) ⟨124,19,124,58⟩ ⟨124,12,124,58⟩)
    (.cons (.exp (.bm .extend (.var 3 ⟨125,12,125,16⟩) (.cons (.lc [("k", 11)] ⟨.function, [(".0", .local), ("k", .local), ("base", .free)], false, false, []⟩ (.name 11 ⟨125,38,125,39⟩) (.rng2 (.int (1) 0 ⟨125,49,125,50⟩) (.var 6 ⟨125,52,125,56⟩) ⟨125,43,125,48⟩ ⟨125,43,125,57⟩) .nil (.bin .add (.var 7 ⟨125,25,125,29⟩) (.var 11 ⟨125,32,125,33⟩) ⟨125,25,125,33⟩) ⟨125,24,125,58⟩) .nil) ⟨125,12,125,23⟩ ⟨125,12,125,59⟩) ⟨125,12,125,59⟩)
    .nil))))) (.cons (.setlc 3 ⟨127,12,127,16⟩ [("k", 11)] ⟨.function, [(".0", .local), ("k", .local)], false, false, []⟩ (.name 11 ⟨127,26,127,27⟩) (.rng1 (.var 6 ⟨127,37,127,41⟩) ⟨127,31,127,36⟩ ⟨127,31,127,42⟩) .nil (.var 11 ⟨127,20,127,21⟩) ⟨127,19,127,43⟩ ⟨127,12,127,43⟩)
    .nil) ⟨120,8,127,43⟩)
    .nil)))))) ⟨113,4,127,43⟩)
    (.cons (.ifs (.cmp .eq (.ix (.var 2 ⟨128,7,128,11⟩) (.int (0) 0 ⟨128,12,128,13⟩) ⟨128,7,128,14⟩) (.lst .nil ⟨128,18,128,20⟩) ⟨128,7,128,20⟩) (.cons (.exp (.call 9 (.cons (.var 2 ⟨129,17,129,21⟩) (.cons (.str "one" 0 ⟨129,23,129,28⟩) .nil)) ⟨129,8,129,16⟩ ⟨129,8,129,29⟩) ⟨129,8,129,29⟩)
    (.cons (.ret (.var 2 ⟨130,15,130,19⟩) ⟨130,8,130,19⟩)
    .nil)) .nil ⟨128,4,130,19⟩)
    (.cons (.for (.name 4 ⟨131,8,131,12⟩) (.rng1 (.bi .len (.cons (.var 3 ⟨131,26,131,30⟩) .nil) ⟨131,22,131,25⟩ ⟨131,22,131,31⟩) ⟨131,16,131,21⟩ ⟨131,16,131,32⟩) (.cons (.ifs (.and (.cons (.cmp .gt (.bi .len (.cons (.var 3 ⟨132,15,132,19⟩) .nil) ⟨132,11,132,14⟩ ⟨132,11,132,20⟩) (.int (1) 0 ⟨132,23,132,24⟩) ⟨132,11,132,24⟩) (.cons (.cmp .gt (.call 7 (.cons (.var 0 ⟨132,39,132,40⟩) (.cons (.int (3) 0 ⟨132,42,132,43⟩) .nil)) ⟨132,29,132,38⟩ ⟨132,29,132,44⟩) (.int (0) 0 ⟨132,47,132,48⟩) ⟨132,29,132,48⟩) .nil)) ⟨132,11,132,48⟩) (.cons (.asg (.name 9 ⟨133,12,133,17⟩) (.call 8 (.cons (.var 0 ⟨133,28,133,29⟩) (.cons (.sl (.var 3 ⟨133,31,133,35⟩) (.some (.int (1) 0 ⟨133,36,133,37⟩)) .none ⟨133,31,133,39⟩ ⟨133,36,133,38⟩) .nil)) ⟨133,20,133,27⟩ ⟨133,20,133,40⟩) ⟨133,12,133,40⟩)
    (.cons (.asg (.sub (.ix (.var 2 ⟨134,12,134,16⟩) (.int (1) 0 ⟨134,17,134,18⟩) ⟨134,12,134,19⟩) (.ix (.var 3 ⟨134,20,134,24⟩) (.int (0) 0 ⟨134,25,134,26⟩) ⟨134,20,134,27⟩) ⟨134,12,134,28⟩) (.var 9 ⟨134,31,134,36⟩) ⟨134,12,134,36⟩)
    (.cons (.asg (.sub (.ix (.var 2 ⟨135,12,135,16⟩) (.int (1) 0 ⟨135,17,135,18⟩) ⟨135,12,135,19⟩) (.var 9 ⟨135,20,135,25⟩) ⟨135,12,135,26⟩) (.ix (.var 3 ⟨135,29,135,33⟩) (.int (0) 0 ⟨135,34,135,35⟩) ⟨135,29,135,36⟩) ⟨135,12,135,36⟩)
    (.cons (.setlc 3 ⟨136,12,136,16⟩ [("flag", 10)] ⟨.function, [(".0", .local), ("flag", .local), ("other", .free)], false, false, []⟩ (.name 10 ⟨136,29,136,33⟩) (.seq (.sl (.var 3 ⟨136,37,136,41⟩) (.some (.int (1) 0 ⟨136,42,136,43⟩)) .none ⟨136,37,136,45⟩ ⟨136,42,136,44⟩)) (.cons (.cmp .ne (.var 10 ⟨136,49,136,53⟩) (.var 9 ⟨136,57,136,62⟩) ⟨136,49,136,62⟩) .nil) (.var 10 ⟨136,20,136,24⟩) ⟨136,19,136,63⟩ ⟨136,12,136,63⟩)
    .nil)))) (.cons (.asg (.name 3 ⟨138,12,138,16⟩) (.sl (.var 3 ⟨138,19,138,23⟩) (.some (.int (1) 0 ⟨138,24,138,25⟩)) .none ⟨138,19,138,27⟩ ⟨138,24,138,26⟩) ⟨138,12,138,27⟩)
    .nil) ⟨132,8,138,27⟩)
    .nil) ⟨131,4,138,27⟩)
    (.cons (.ret (.var 2 ⟨139,11,139,15⟩) ⟨139,4,139,15⟩)
    .nil)))))
def N__law_round : List Str := ["one", "other", "flag", "place", "count", "k"]
abbrev st__law_round : Stmt := topS 20
def ir__law_round : SL := (.cons (.par 3 4 ⟨141,4,141,9⟩ ⟨141,11,141,16⟩ 0 ⟨141,4,141,16⟩ (.ix (.var 1 ⟨141,20,141,25⟩) (.ix (.var 0 ⟨141,26,141,29⟩) (.var 2 ⟨141,30,141,34⟩) ⟨141,26,141,35⟩) ⟨141,20,141,36⟩) (.int (1) 0 ⟨141,38,141,39⟩) 0 ⟨141,19,141,40⟩ ⟨141,4,141,40⟩)
    (.cons (.for (.name 5 ⟨142,8,142,9⟩) (.rng1 (.bi .len (.cons (.var 0 ⟨142,23,142,26⟩) .nil) ⟨142,19,142,22⟩ ⟨142,19,142,27⟩) ⟨142,13,142,18⟩ ⟨142,13,142,28⟩) (.cons (.ifs (.cmp .eq (.var 3 ⟨143,11,143,16⟩) (.var 2 ⟨143,20,143,24⟩) ⟨143,11,143,24⟩) (.cons (.ret (.var 4 ⟨144,19,144,24⟩) ⟨144,12,144,24⟩)
    .nil) .nil ⟨143,8,144,24⟩)
    (.cons (.asg (.name 3 ⟨145,8,145,13⟩) (.ix (.var 1 ⟨145,16,145,21⟩) (.ix (.var 0 ⟨145,22,145,25⟩) (.var 3 ⟨145,26,145,31⟩) ⟨145,22,145,32⟩) ⟨145,16,145,33⟩) ⟨145,8,145,33⟩)
    (.cons (.asg (.name 4 ⟨146,8,146,13⟩) (.bin .add (.var 4 ⟨146,16,146,21⟩) (.int (1) 0 ⟨146,24,146,25⟩) ⟨146,16,146,25⟩) ⟨146,8,146,25⟩)
    .nil))) ⟨142,4,146,25⟩)
    (.cons (.ret (.var 4 ⟨147,11,147,16⟩) ⟨147,4,147,16⟩)
    .nil)))
def N__law_is_number : List Str := ["value"]
abbrev st__law_is_number : Stmt := topS 21
def ir__law_is_number : SL := (.cons (.ret (.and (.cons (.isi (.var 0 ⟨149,22,149,27⟩) .int ⟨149,11,149,21⟩ ⟨149,29,149,32⟩ ⟨149,11,149,33⟩) (.cons (.not (.isi (.var 0 ⟨149,54,149,59⟩) .bool ⟨149,43,149,53⟩ ⟨149,61,149,65⟩ ⟨149,43,149,66⟩) ⟨149,39,149,66⟩) .nil)) ⟨149,11,149,67⟩) ⟨149,4,149,67⟩)
    .nil)
def N__law_is_form : List Str := ["value", "row", "one"]
abbrev st__law_is_form : Stmt := topS 22
def ir__law_is_form : SL := (.cons (.ifs (.or (.cons (.not (.isi (.var 0 ⟨151,22,151,27⟩) .tuple ⟨151,11,151,21⟩ ⟨151,29,151,34⟩ ⟨151,11,151,35⟩) ⟨151,7,151,35⟩) (.cons (.cmp .ne (.bi .len (.cons (.var 0 ⟨151,43,151,48⟩) .nil) ⟨151,39,151,42⟩ ⟨151,39,151,49⟩) (.int (5) 0 ⟨151,53,151,54⟩) ⟨151,39,151,54⟩) .nil)) ⟨151,7,151,54⟩) (.cons (.ret (.bl false 0 ⟨152,15,152,20⟩) ⟨152,8,152,20⟩)
    .nil) .nil ⟨151,4,152,20⟩)
    (.cons (.for (.name 1 ⟨153,8,153,11⟩) (.seq (.var 0 ⟨153,15,153,20⟩)) (.cons (.ifs (.or (.cons (.not (.isi (.var 1 ⟨154,26,154,29⟩) .tuple ⟨154,15,154,25⟩ ⟨154,31,154,36⟩ ⟨154,15,154,37⟩) ⟨154,11,154,37⟩) (.cons (.not (.chain .le .le (.int (1) 0 ⟨154,45,154,46⟩) (.bi .len (.cons (.var 1 ⟨154,54,154,57⟩) .nil) ⟨154,50,154,53⟩ ⟨154,50,154,58⟩) (.int (240) 0 ⟨154,62,154,65⟩) ⟨154,45,154,65⟩) ⟨154,41,154,65⟩) .nil)) ⟨154,11,154,65⟩) (.cons (.ret (.bl false 0 ⟨155,19,155,24⟩) ⟨155,12,155,24⟩)
    .nil) .nil ⟨154,8,155,24⟩)
    .nil) ⟨153,4,155,24⟩)
    (.cons (.for (.name 1 ⟨156,8,156,11⟩) (.seq (.var 0 ⟨156,15,156,20⟩)) (.cons (.ifs (.or (.cons (.cmp .ne (.bi .len (.cons (.var 1 ⟨157,15,157,18⟩) .nil) ⟨157,11,157,14⟩ ⟨157,11,157,19⟩) (.bi .len (.cons (.ix (.var 0 ⟨157,27,157,32⟩) (.int (0) 0 ⟨157,33,157,34⟩) ⟨157,27,157,35⟩) .nil) ⟨157,23,157,26⟩ ⟨157,23,157,36⟩) ⟨157,11,157,36⟩) (.cons (.cmp .ne (.lc [("one", 2)] ⟨.function, [(".0", .local), ("one", .local), ("_law_is_number", .globalImplicit)], false, false, []⟩ (.name 2 ⟨157,49,157,52⟩) (.seq (.var 1 ⟨157,56,157,59⟩)) (.cons (.not (.call 12 (.cons (.var 2 ⟨157,82,157,85⟩) .nil) ⟨157,67,157,81⟩ ⟨157,67,157,86⟩) ⟨157,63,157,86⟩) .nil) (.var 2 ⟨157,41,157,44⟩) ⟨157,40,157,87⟩) (.lst .nil ⟨157,91,157,93⟩) ⟨157,40,157,93⟩) .nil)) ⟨157,11,157,93⟩) (.cons (.ret (.bl false 0 ⟨158,19,158,24⟩) ⟨158,12,158,24⟩)
    .nil) .nil ⟨157,8,158,24⟩)
    .nil) ⟨156,4,158,24⟩)
    (.cons (.ret (.bl true 0 ⟨159,11,159,15⟩) ⟨159,4,159,15⟩)
    .nil))))
def N__law_is_pattern : List Str := ["value", "s0", "s1", "s2", "p", "q", "flags", "s", "flag", "one", "other", "row"]
abbrev st__law_is_pattern : Stmt := topS 23
def ir__law_is_pattern : SL := (.cons (.ifs (.not (.call 13 (.cons (.var 0 ⟨161,24,161,29⟩) .nil) ⟨161,11,161,23⟩ ⟨161,11,161,30⟩) ⟨161,7,161,30⟩) (.cons (.ret (.bl false 0 ⟨162,15,162,20⟩) ⟨162,8,162,20⟩)
    .nil) .nil ⟨161,4,162,20⟩)
    (.cons (.asg (.tup (.cons (.name 1 ⟨163,4,163,6⟩) (.cons (.name 2 ⟨163,8,163,10⟩) (.cons (.name 3 ⟨163,12,163,14⟩) (.cons (.name 4 ⟨163,16,163,17⟩) (.cons (.name 5 ⟨163,19,163,20⟩) .nil))))) 0 ⟨163,4,163,20⟩) (.var 0 ⟨163,23,163,28⟩) ⟨163,4,163,28⟩)
    (.cons (.asg (.name 6 ⟨164,4,164,9⟩) (.lrg (.cons (.bi .len (.cons (.var 1 ⟨164,27,164,29⟩) .nil) ⟨164,23,164,26⟩ ⟨164,23,164,30⟩) .nil) ⟨164,12,164,16⟩ ⟨164,17,164,22⟩ ⟨164,17,164,31⟩ ⟨164,12,164,32⟩) ⟨164,4,164,32⟩)
    (.cons (.for (.name 7 ⟨165,8,165,9⟩) (.seq (.lst (.cons (.var 1 ⟨165,14,165,16⟩) (.cons (.var 2 ⟨165,18,165,20⟩) (.cons (.var 3 ⟨165,22,165,24⟩) .nil))) ⟨165,13,165,25⟩)) (.cons (.for (.name 8 ⟨166,12,166,16⟩) (.seq (.var 6 ⟨166,20,166,25⟩)) (.cons (.ifs (.or (.cons (.not (.chain .le .lt (.int (0) 0 ⟨167,19,167,20⟩) (.ix (.var 7 ⟨167,24,167,25⟩) (.var 8 ⟨167,26,167,30⟩) ⟨167,24,167,31⟩) (.bi .len (.cons (.var 7 ⟨167,38,167,39⟩) .nil) ⟨167,34,167,37⟩ ⟨167,34,167,40⟩) ⟨167,19,167,40⟩) ⟨167,15,167,40⟩) (.cons (.cmp .ne (.ix (.var 7 ⟨167,44,167,45⟩) (.ix (.var 7 ⟨167,46,167,47⟩) (.var 8 ⟨167,48,167,52⟩) ⟨167,46,167,53⟩) ⟨167,44,167,54⟩) (.var 8 ⟨167,58,167,62⟩) ⟨167,44,167,62⟩) .nil)) ⟨167,15,167,62⟩) (.cons (.ret (.bl false 0 ⟨168,23,168,28⟩) ⟨168,16,168,28⟩)
    .nil) .nil ⟨167,12,168,28⟩)
    .nil) ⟨166,8,168,28⟩)
    .nil) ⟨165,4,168,28⟩)
    (.cons (.ifs (.cmp .ne (.lc [("flag", 8)] ⟨.function, [(".0", .local), ("flag", .local), ("s0", .free), ("s2", .free)], false, false, []⟩ (.name 8 ⟨169,17,169,21⟩) (.seq (.var 6 ⟨169,25,169,30⟩)) (.cons (.cmp .ne (.ix (.var 1 ⟨169,34,169,36⟩) (.ix (.var 3 ⟨169,37,169,39⟩) (.var 8 ⟨169,40,169,44⟩) ⟨169,37,169,45⟩) ⟨169,34,169,46⟩) (.ix (.var 3 ⟨169,50,169,52⟩) (.ix (.var 1 ⟨169,53,169,55⟩) (.var 8 ⟨169,56,169,60⟩) ⟨169,53,169,61⟩) ⟨169,50,169,62⟩) ⟨169,34,169,62⟩) .nil) (.var 8 ⟨169,8,169,12⟩) ⟨169,7,169,63⟩) (.lst .nil ⟨169,67,169,69⟩) ⟨169,7,169,69⟩) (.cons (.ret (.bl false 0 ⟨170,15,170,20⟩) ⟨170,8,170,20⟩)
    .nil) .nil ⟨169,4,170,20⟩)
    (.cons (.for (.tup (.cons (.name 9 ⟨171,8,171,11⟩) (.cons (.name 10 ⟨171,13,171,18⟩) (.cons (.name 11 ⟨171,20,171,23⟩) .nil))) 0 ⟨171,8,171,23⟩) (.seq (.lst (.cons (.tup (.cons (.var 1 ⟨171,29,171,31⟩) (.cons (.var 2 ⟨171,33,171,35⟩) (.cons (.var 4 ⟨171,37,171,38⟩) .nil))) 0 ⟨171,28,171,39⟩) (.cons (.tup (.cons (.var 2 ⟨171,42,171,44⟩) (.cons (.var 3 ⟨171,46,171,48⟩) (.cons (.var 5 ⟨171,50,171,51⟩) .nil))) 0 ⟨171,41,171,52⟩) .nil)) ⟨171,27,171,53⟩)) (.cons (.for (.name 8 ⟨172,12,172,16⟩) (.seq (.var 6 ⟨172,20,172,25⟩)) (.cons (.ifs (.or (.cons (.not (.chain .le .le (.int (1) 0 ⟨173,19,173,20⟩) (.ix (.var 11 ⟨173,24,173,27⟩) (.var 8 ⟨173,28,173,32⟩) ⟨173,24,173,33⟩) (.int (9999) 0 ⟨173,37,173,41⟩) ⟨173,19,173,41⟩) ⟨173,15,173,41⟩) (.cons (.cmp .ne (.ix (.var 11 ⟨173,45,173,48⟩) (.ix (.var 9 ⟨173,49,173,52⟩) (.var 8 ⟨173,53,173,57⟩) ⟨173,49,173,58⟩) ⟨173,45,173,59⟩) (.ix (.var 11 ⟨173,63,173,66⟩) (.var 8 ⟨173,67,173,71⟩) ⟨173,63,173,72⟩) ⟨173,45,173,72⟩) (.cons (.cmp .ne (.ix (.var 11 ⟨173,76,173,79⟩) (.ix (.var 10 ⟨173,80,173,85⟩) (.var 8 ⟨173,86,173,90⟩) ⟨173,80,173,91⟩) ⟨173,76,173,92⟩) (.ix (.var 11 ⟨173,96,173,99⟩) (.var 8 ⟨173,100,173,104⟩) ⟨173,96,173,105⟩) ⟨173,76,173,105⟩) .nil))) ⟨173,15,173,105⟩) (.cons (.ret (.bl false 0 ⟨174,23,174,28⟩) ⟨174,16,174,28⟩)
    .nil) .nil ⟨173,12,174,28⟩)
    (.cons (.ifs (.cmp .ne (.bin .mod (.bi .int (.cons (.ix (.var 11 ⟨175,19,175,22⟩) (.var 8 ⟨175,23,175,27⟩) ⟨175,19,175,28⟩) .nil) ⟨175,15,175,18⟩ ⟨175,15,175,29⟩) (.call 11 (.cons (.var 9 ⟨175,43,175,46⟩) (.cons (.var 10 ⟨175,48,175,53⟩) (.cons (.var 8 ⟨175,55,175,59⟩) .nil))) ⟨175,32,175,42⟩ ⟨175,32,175,60⟩) ⟨175,15,175,60⟩) (.int (0) 0 ⟨175,64,175,65⟩) ⟨175,15,175,65⟩) (.cons (.ret (.bl false 0 ⟨176,23,176,28⟩) ⟨176,16,176,28⟩)
    .nil) .nil ⟨175,12,176,28⟩)
    .nil)) ⟨172,8,176,28⟩)
    .nil) ⟨171,4,176,28⟩)
    (.cons (.ret (.cmp .eq (.bi .len (.cons (.call 15 (.cons (.var 0 ⟨177,25,177,30⟩) (.cons (.int (0) 0 ⟨177,32,177,33⟩) .nil)) ⟨177,15,177,24⟩ ⟨177,15,177,34⟩) .nil) ⟨177,11,177,14⟩ ⟨177,11,177,35⟩) (.bi .len (.cons (.var 1 ⟨177,43,177,45⟩) .nil) ⟨177,39,177,42⟩ ⟨177,39,177,46⟩) ⟨177,11,177,46⟩) ⟨177,4,177,46⟩)
    .nil)))))))
def N__law_walk : List Str := ["value", "flag", "found", "seen", "k", "s", "far", "one"]
abbrev st__law_walk : Stmt := topS 24
def ir__law_walk : SL := (.cons (.par 2 3 ⟨179,4,179,9⟩ ⟨179,11,179,15⟩ 0 ⟨179,4,179,15⟩ (.lst (.cons (.var 1 ⟨179,20,179,24⟩) .nil) ⟨179,19,179,25⟩) (.lc [("one", 7)] ⟨.function, [(".0", .local), ("one", .local), ("flag", .free)], false, false, []⟩ (.name 7 ⟨179,44,179,47⟩) (.rng1 (.bi .len (.cons (.ix (.var 0 ⟨179,61,179,66⟩) (.int (0) 0 ⟨179,67,179,68⟩) ⟨179,61,179,69⟩) .nil) ⟨179,57,179,60⟩ ⟨179,57,179,70⟩) ⟨179,51,179,56⟩ ⟨179,51,179,71⟩) .nil (.cmp .eq (.var 7 ⟨179,28,179,31⟩) (.var 1 ⟨179,35,179,39⟩) ⟨179,28,179,39⟩) ⟨179,27,179,72⟩) 0 ⟨179,18,179,73⟩ ⟨179,4,179,73⟩)
    (.cons (.for (.name 4 ⟨180,8,180,9⟩) (.rng1 (.bi .len (.cons (.ix (.var 0 ⟨180,23,180,28⟩) (.int (0) 0 ⟨180,29,180,30⟩) ⟨180,23,180,31⟩) .nil) ⟨180,19,180,22⟩ ⟨180,19,180,32⟩) ⟨180,13,180,18⟩ ⟨180,13,180,33⟩) (.cons (.ifs (.cmp .lt (.var 4 ⟨181,11,181,12⟩) (.bi .len (.cons (.var 2 ⟨181,19,181,24⟩) .nil) ⟨181,15,181,18⟩ ⟨181,15,181,25⟩) ⟨181,11,181,25⟩) (.cons (.for (.name 5 ⟨182,16,182,17⟩) (.seq (.sl (.var 0 ⟨182,21,182,26⟩) .none (.some (.int (3) 0 ⟨182,28,182,29⟩)) ⟨182,21,182,30⟩ ⟨182,27,182,29⟩)) (.cons (.asg (.name 6 ⟨183,16,183,19⟩) (.ix (.var 5 ⟨183,22,183,23⟩) (.ix (.var 2 ⟨183,24,183,29⟩) (.var 4 ⟨183,30,183,31⟩) ⟨183,24,183,32⟩) ⟨183,22,183,33⟩) ⟨183,16,183,33⟩)
    (.cons (.ifs (.not (.ix (.var 3 ⟨184,23,184,27⟩) (.var 6 ⟨184,28,184,31⟩) ⟨184,23,184,32⟩) ⟨184,19,184,32⟩) (.cons (.asg (.sub (.var 3 ⟨185,20,185,24⟩) (.var 6 ⟨185,25,185,28⟩) ⟨185,20,185,29⟩) (.bl true 0 ⟨185,32,185,36⟩) ⟨185,20,185,36⟩)
    (.cons (.exp (.bm .append (.var 2 ⟨186,20,186,25⟩) (.cons (.var 6 ⟨186,33,186,36⟩) .nil) ⟨186,20,186,32⟩ ⟨186,20,186,37⟩) ⟨186,20,186,37⟩)
    .nil)) .nil ⟨184,16,186,37⟩)
    .nil)) ⟨182,12,186,37⟩)
    .nil) .nil ⟨181,8,186,37⟩)
    .nil) ⟨180,4,186,37⟩)
    (.cons (.ret (.var 2 ⟨187,11,187,16⟩) ⟨187,4,187,16⟩)
    .nil)))
def N__law_listed : List Str := ["value", "listing", "places", "k", "rows", "p", "q", "flag", "s"]
abbrev st__law_listed : Stmt := topS 25
def ir__law_listed : SL := (.cons (.asg (.name 2 ⟨189,4,189,10⟩) (.lc [("flag", 7)] ⟨.function, [(".0", .local), ("flag", .local)], false, false, []⟩ (.name 7 ⟨189,20,189,24⟩) (.seq (.var 1 ⟨189,28,189,35⟩)) .nil (.int (0) 0 ⟨189,14,189,15⟩) ⟨189,13,189,36⟩) ⟨189,4,189,36⟩)
    (.cons (.for (.name 3 ⟨190,8,190,9⟩) (.rng1 (.bi .len (.cons (.var 1 ⟨190,23,190,30⟩) .nil) ⟨190,19,190,22⟩ ⟨190,19,190,31⟩) ⟨190,13,190,18⟩ ⟨190,13,190,32⟩) (.cons (.asg (.sub (.var 2 ⟨191,8,191,14⟩) (.ix (.var 1 ⟨191,15,191,22⟩) (.var 3 ⟨191,23,191,24⟩) ⟨191,15,191,25⟩) ⟨191,8,191,26⟩) (.var 3 ⟨191,29,191,30⟩) ⟨191,8,191,30⟩)
    .nil) ⟨190,4,191,30⟩)
    (.cons (.setlc 4 ⟨192,4,192,8⟩ [("s", 8)] ⟨.function, [(".0", .local), ("s", .cell), ("tuple", .globalImplicit), ("listing", .free), ("places", .free)], false, false, []⟩ (.name 8 ⟨192,61,192,62⟩) (.seq (.sl (.var 0 ⟨192,66,192,71⟩) .none (.some (.int (3) 0 ⟨192,73,192,74⟩)) ⟨192,66,192,75⟩ ⟨192,72,192,74⟩)) .nil (.bi .tuple (.cons (.lc [("flag", 7)] ⟨.function, [(".0", .local), ("flag", .local), ("places", .free), ("s", .free)], false, false, []⟩ (.name 7 ⟨192,39,192,43⟩) (.seq (.var 1 ⟨192,47,192,54⟩)) .nil (.ix (.var 2 ⟨192,19,192,25⟩) (.ix (.var 8 ⟨192,26,192,27⟩) (.var 7 ⟨192,28,192,32⟩) ⟨192,26,192,33⟩) ⟨192,19,192,34⟩) ⟨192,18,192,55⟩) .nil) ⟨192,12,192,17⟩ ⟨192,12,192,56⟩) ⟨192,11,192,76⟩ ⟨192,4,192,76⟩)
    (.cons (.par 5 6 ⟨193,4,193,5⟩ ⟨193,7,193,8⟩ 0 ⟨193,4,193,8⟩ (.bi .tuple (.cons (.lc [("flag", 7)] ⟨.function, [(".0", .local), ("flag", .local), ("value", .free)], false, false, []⟩ (.name 7 ⟨193,38,193,42⟩) (.seq (.var 1 ⟨193,46,193,53⟩)) .nil (.ix (.ix (.var 0 ⟨193,19,193,24⟩) (.int (3) 0 ⟨193,25,193,26⟩) ⟨193,19,193,27⟩) (.var 7 ⟨193,28,193,32⟩) ⟨193,19,193,33⟩) ⟨193,18,193,54⟩) .nil) ⟨193,12,193,17⟩ ⟨193,12,193,55⟩) (.bi .tuple (.cons (.lc [("flag", 7)] ⟨.function, [(".0", .local), ("flag", .local), ("value", .free)], false, false, []⟩ (.name 7 ⟨193,83,193,87⟩) (.seq (.var 1 ⟨193,91,193,98⟩)) .nil (.ix (.ix (.var 0 ⟨193,64,193,69⟩) (.int (4) 0 ⟨193,70,193,71⟩) ⟨193,64,193,72⟩) (.var 7 ⟨193,73,193,77⟩) ⟨193,64,193,78⟩) ⟨193,63,193,99⟩) .nil) ⟨193,57,193,62⟩ ⟨193,57,193,100⟩) 0 ⟨193,11,193,101⟩ ⟨193,4,193,101⟩)
    (.cons (.ret (.tup (.cons (.ix (.var 4 ⟨194,12,194,16⟩) (.int (0) 0 ⟨194,17,194,18⟩) ⟨194,12,194,19⟩) (.cons (.ix (.var 4 ⟨194,21,194,25⟩) (.int (1) 0 ⟨194,26,194,27⟩) ⟨194,21,194,28⟩) (.cons (.ix (.var 4 ⟨194,30,194,34⟩) (.int (2) 0 ⟨194,35,194,36⟩) ⟨194,30,194,37⟩) (.cons (.var 5 ⟨194,39,194,40⟩) (.cons (.var 6 ⟨194,42,194,43⟩) .nil))))) 0 ⟨194,11,194,44⟩) ⟨194,4,194,44⟩)
    .nil)))))
def N__law_least : List Str := ["value", "flag"]
abbrev st__law_least : Stmt := topS 26
def ir__law_least : SL := (.cons (.ret (.bi .min (.cons (.lc [("flag", 1)] ⟨.function, [(".0", .local), ("flag", .local), ("_law_listed", .globalImplicit), ("_law_walk", .globalImplicit), ("value", .free)], false, false, []⟩ (.name 1 ⟨196,63,196,67⟩) (.rng1 (.bi .len (.cons (.ix (.var 0 ⟨196,81,196,86⟩) (.int (0) 0 ⟨196,87,196,88⟩) ⟨196,81,196,89⟩) .nil) ⟨196,77,196,80⟩ ⟨196,77,196,90⟩) ⟨196,71,196,76⟩ ⟨196,71,196,91⟩) .nil (.call 16 (.cons (.var 0 ⟨196,28,196,33⟩) (.cons (.call 15 (.cons (.var 0 ⟨196,45,196,50⟩) (.cons (.var 1 ⟨196,52,196,56⟩) .nil)) ⟨196,35,196,44⟩ ⟨196,35,196,57⟩) .nil)) ⟨196,16,196,27⟩ ⟨196,16,196,58⟩) ⟨196,15,196,92⟩) .nil) ⟨196,11,196,14⟩ ⟨196,11,196,93⟩) ⟨196,4,196,93⟩)
    .nil)
def N__law_ways : List Str := ["count", "found", "code", "row", "rest", "place"]
abbrev st__law_ways : Stmt := topS 27
def ir__law_ways : SL := (.cons (.asg (.name 1 ⟨198,4,198,9⟩) (.lst .nil ⟨198,12,198,14⟩) ⟨198,4,198,14⟩)
    (.cons (.for (.name 2 ⟨199,8,199,12⟩) (.rng1 (.ix (.lst (.cons (.int (0) 0 ⟨199,23,199,24⟩) (.cons (.int (1) 0 ⟨199,26,199,27⟩) (.cons (.int (4) 0 ⟨199,29,199,30⟩) (.cons (.int (27) 0 ⟨199,32,199,34⟩) .nil)))) ⟨199,22,199,35⟩) (.var 0 ⟨199,36,199,41⟩) ⟨199,22,199,42⟩) ⟨199,16,199,21⟩ ⟨199,16,199,43⟩) (.cons (.asg (.tup (.cons (.name 3 ⟨200,8,200,11⟩) (.cons (.name 4 ⟨200,13,200,17⟩) .nil)) 0 ⟨200,8,200,17⟩) (.tup (.cons (.lst .nil ⟨200,21,200,23⟩) (.cons (.var 2 ⟨200,25,200,29⟩) .nil)) 0 ⟨200,20,200,30⟩) ⟨200,8,200,30⟩)
    (.cons (.for (.name 5 ⟨201,12,201,17⟩) (.rng1 (.var 0 ⟨201,27,201,32⟩) ⟨201,21,201,26⟩ ⟨201,21,201,33⟩) (.cons (.exp (.bm .append (.var 3 ⟨202,12,202,15⟩) (.cons (.bin .mod (.bi .int (.cons (.var 4 ⟨202,27,202,31⟩) .nil) ⟨202,23,202,26⟩ ⟨202,23,202,32⟩) (.var 0 ⟨202,35,202,40⟩) ⟨202,23,202,40⟩) .nil) ⟨202,12,202,22⟩ ⟨202,12,202,41⟩) ⟨202,12,202,41⟩)
    (.cons (.asg (.name 4 ⟨203,12,203,16⟩) (.bin .fdiv (.var 4 ⟨203,19,203,23⟩) (.var 0 ⟨203,27,203,32⟩) ⟨203,19,203,32⟩) ⟨203,12,203,32⟩)
    .nil)) ⟨201,8,203,32⟩)
    (.cons (.ifs (.cmp .eq (.lc [("place", 5)] ⟨.function, [(".0", .local), ("place", .local), ("row", .free)], false, false, []⟩ (.name 5 ⟨204,22,204,27⟩) (.rng1 (.var 0 ⟨204,37,204,42⟩) ⟨204,31,204,36⟩ ⟨204,31,204,43⟩) (.cons (.cmp .ne (.ix (.var 3 ⟨204,47,204,50⟩) (.ix (.var 3 ⟨204,51,204,54⟩) (.var 5 ⟨204,55,204,60⟩) ⟨204,51,204,61⟩) ⟨204,47,204,62⟩) (.var 5 ⟨204,66,204,71⟩) ⟨204,47,204,71⟩) .nil) (.var 5 ⟨204,12,204,17⟩) ⟨204,11,204,72⟩) (.lst .nil ⟨204,76,204,78⟩) ⟨204,11,204,78⟩) (.cons (.exp (.bm .append (.var 1 ⟨205,12,205,17⟩) (.cons (.bi .tuple (.cons (.var 3 ⟨205,31,205,34⟩) .nil) ⟨205,25,205,30⟩ ⟨205,25,205,35⟩) .nil) ⟨205,12,205,24⟩ ⟨205,12,205,36⟩) ⟨205,12,205,36⟩)
    .nil) .nil ⟨204,8,205,36⟩)
    .nil))) ⟨199,4,205,36⟩)
    (.cons (.ret (.var 1 ⟨206,11,206,16⟩) ⟨206,4,206,16⟩)
    .nil)))
def N__law_frames : List Str := ["count", "ways", "found", "ones", "s0", "s2", "s1", "value", "least_one", "flag"]
abbrev st__law_frames : Stmt := topS 28
def ir__law_frames : SL := (.cons (.par3 1 2 3 ⟨208,4,208,8⟩ ⟨208,10,208,15⟩ ⟨208,17,208,21⟩ 0 ⟨208,4,208,21⟩ (.call 18 (.cons (.var 0 ⟨208,35,208,40⟩) .nil) ⟨208,25,208,34⟩ ⟨208,25,208,41⟩) (.lst .nil ⟨208,43,208,45⟩) (.bin .mul (.tup (.cons (.int (1) 0 ⟨208,48,208,49⟩) .nil) 0 ⟨208,47,208,51⟩) (.var 0 ⟨208,54,208,59⟩) ⟨208,47,208,59⟩) 0 ⟨208,24,208,60⟩ ⟨208,4,208,60⟩)
    (.cons (.for (.name 4 ⟨209,8,209,10⟩) (.seq (.var 1 ⟨209,14,209,18⟩)) (.cons (.for (.name 5 ⟨210,12,210,14⟩) (.seq (.var 1 ⟨210,18,210,22⟩)) (.cons (.ifs (.cmp .ne (.lc [("flag", 9)] ⟨.function, [(".0", .local), ("flag", .local), ("s0", .free), ("s2", .free)], false, false, []⟩ (.name 9 ⟨211,25,211,29⟩) (.rng1 (.var 0 ⟨211,39,211,44⟩) ⟨211,33,211,38⟩ ⟨211,33,211,45⟩) (.cons (.cmp .ne (.ix (.var 4 ⟨211,49,211,51⟩) (.ix (.var 5 ⟨211,52,211,54⟩) (.var 9 ⟨211,55,211,59⟩) ⟨211,52,211,60⟩) ⟨211,49,211,61⟩) (.ix (.var 5 ⟨211,65,211,67⟩) (.ix (.var 4 ⟨211,68,211,70⟩) (.var 9 ⟨211,71,211,75⟩) ⟨211,68,211,76⟩) ⟨211,65,211,77⟩) ⟨211,49,211,77⟩) .nil) (.var 9 ⟨211,16,211,20⟩) ⟨211,15,211,78⟩) (.lst .nil ⟨211,82,211,84⟩) ⟨211,15,211,84⟩) (.cons (.cnt ⟨212,16,212,24⟩)
    .nil) .nil ⟨211,12,212,24⟩)
    (.cons (.for (.name 6 ⟨213,16,213,18⟩) (.seq (.var 1 ⟨213,22,213,26⟩)) (.cons (.asg (.name 7 ⟨214,16,214,21⟩) (.tup (.cons (.var 4 ⟨214,25,214,27⟩) (.cons (.var 6 ⟨214,29,214,31⟩) (.cons (.var 5 ⟨214,33,214,35⟩) (.cons (.var 3 ⟨214,37,214,41⟩) (.cons (.var 3 ⟨214,43,214,47⟩) .nil))))) 0 ⟨214,24,214,48⟩) ⟨214,16,214,48⟩)
    (.cons (.ifs (.cmp .eq (.bi .len (.cons (.call 15 (.cons (.var 7 ⟨215,33,215,38⟩) (.cons (.int (0) 0 ⟨215,40,215,41⟩) .nil)) ⟨215,23,215,32⟩ ⟨215,23,215,42⟩) .nil) ⟨215,19,215,22⟩ ⟨215,19,215,43⟩) (.var 0 ⟨215,47,215,52⟩) ⟨215,19,215,52⟩) (.cons (.asg (.name 8 ⟨216,20,216,29⟩) (.sl (.call 17 (.cons (.var 7 ⟨216,43,216,48⟩) .nil) ⟨216,32,216,42⟩ ⟨216,32,216,49⟩) .none (.some (.int (3) 0 ⟨216,51,216,52⟩)) ⟨216,32,216,53⟩ ⟨216,50,216,52⟩) ⟨216,20,216,53⟩)
    (.cons (.ifs (.cmp .nmem (.var 8 ⟨217,23,217,32⟩) (.var 2 ⟨217,40,217,45⟩) ⟨217,23,217,45⟩) (.cons (.exp (.bm .append (.var 2 ⟨218,24,218,29⟩) (.cons (.var 8 ⟨218,37,218,46⟩) .nil) ⟨218,24,218,36⟩ ⟨218,24,218,47⟩) ⟨218,24,218,47⟩)
    .nil) .nil ⟨217,20,218,47⟩)
    .nil)) .nil ⟨215,16,218,47⟩)
    .nil)) ⟨213,12,218,47⟩)
    .nil)) ⟨210,8,218,47⟩)
    .nil) ⟨209,4,218,47⟩)
    (.cons (.ret (.bi .tuple (.cons (.bi .sorted (.cons (.var 2 ⟨219,24,219,29⟩) .nil) ⟨219,17,219,23⟩ ⟨219,17,219,30⟩) .nil) ⟨219,11,219,16⟩ ⟨219,11,219,31⟩) ⟨219,4,219,31⟩)
    .nil)))
def N__law_is_refused : List Str := ["count", "error", "e"]
abbrev st__law_is_refused : Stmt := topS 29
def N_law : List Str := ["script", "m", "count", "told", "one", "s0", "s1", "s2", "p", "q", "turn", "rows", "ones", "value", "k", "flag"]
abbrev st_law : Stmt := topS 30
def ir_law : SL := (.cons (.asg (.name 1 ⟨228,4,228,5⟩) (.call 6 (.cons (.var 0 ⟨228,19,228,25⟩) (.cons (.int (0) 0 ⟨228,27,228,28⟩) .nil)) ⟨228,8,228,18⟩ ⟨228,8,228,29⟩) ⟨228,4,228,29⟩)
    (.cons (.asg (.name 2 ⟨229,4,229,9⟩) (.bin .add (.int (1) 0 ⟨229,12,229,13⟩) (.call 7 (.cons (.var 1 ⟨229,26,229,27⟩) (.cons (.int (3) 0 ⟨229,29,229,30⟩) .nil)) ⟨229,16,229,25⟩ ⟨229,16,229,31⟩) ⟨229,12,229,31⟩) ⟨229,4,229,31⟩)
    (.cons (.ifs (.or (.cons (.cmp .ne (.call 5 (.cons (.var 2 ⟨230,14,230,19⟩) .nil) ⟨230,7,230,13⟩ ⟨230,7,230,20⟩) (.call 19 (.cons (.var 2 ⟨230,36,230,41⟩) .nil) ⟨230,24,230,35⟩ ⟨230,24,230,42⟩) ⟨230,7,230,42⟩) (.cons (.not (.call 20 (.cons (.bin .add (.int (5) 0 ⟨230,66,230,67⟩) (.call 7 (.cons (.var 1 ⟨230,80,230,81⟩) (.cons (.int (300) 0 ⟨230,83,230,86⟩) .nil)) ⟨230,70,230,79⟩ ⟨230,70,230,87⟩) ⟨230,66,230,87⟩) .nil) ⟨230,50,230,65⟩ ⟨230,50,230,88⟩) ⟨230,46,230,88⟩) .nil)) ⟨230,7,230,88⟩) (.cons (.ret (.bl false 0 ⟨231,15,231,20⟩) ⟨231,8,231,20⟩)
    .nil) .nil ⟨230,4,231,20⟩)
    (.cons (.ifs (.cmp .eq (.bin .mod (.bi .int (.cons (.bi .len (.cons (.var 0 ⟨232,15,232,21⟩) .nil) ⟨232,11,232,14⟩ ⟨232,11,232,22⟩) .nil) ⟨232,7,232,10⟩ ⟨232,7,232,23⟩) (.int (4) 0 ⟨232,26,232,27⟩) ⟨232,7,232,27⟩) (.int (1) 0 ⟨232,31,232,32⟩) ⟨232,7,232,32⟩) (.cons (.asg (.name 3 ⟨233,8,233,12⟩) (.call 5 (.cons (.int (4) 0 ⟨233,22,233,23⟩) .nil) ⟨233,15,233,21⟩ ⟨233,15,233,24⟩) ⟨233,8,233,24⟩)
    (.cons (.ifs (.or (.cons (.not (.isi (.var 3 ⟨234,26,234,30⟩) .tuple ⟨234,15,234,25⟩ ⟨234,32,234,37⟩ ⟨234,15,234,38⟩) ⟨234,11,234,38⟩) (.cons (.cmp .ne (.lc [("k", 14)] ⟨.function, [(".0", .local), ("k", .local), ("told", .free)], false, false, []⟩ (.name 14 ⟨234,49,234,50⟩) (.rng2 (.int (1) 0 ⟨234,60,234,61⟩) (.bi .len (.cons (.var 3 ⟨234,67,234,71⟩) .nil) ⟨234,63,234,66⟩ ⟨234,63,234,72⟩) ⟨234,54,234,59⟩ ⟨234,54,234,73⟩) (.cons (.cmp .le (.ix (.var 3 ⟨234,77,234,81⟩) (.var 14 ⟨234,82,234,83⟩) ⟨234,77,234,84⟩) (.ix (.var 3 ⟨234,88,234,92⟩) (.bin .sub (.var 14 ⟨234,93,234,94⟩) (.int (1) 0 ⟨234,97,234,98⟩) ⟨234,93,234,98⟩) ⟨234,88,234,99⟩) ⟨234,77,234,99⟩) .nil) (.var 14 ⟨234,43,234,44⟩) ⟨234,42,234,100⟩) (.lst .nil ⟨234,104,234,106⟩) ⟨234,42,234,106⟩) .nil)) ⟨234,11,234,106⟩) (.cons (.ret (.bl false 0 ⟨235,19,235,24⟩) ⟨235,12,235,24⟩)
    .nil) .nil ⟨234,8,235,24⟩)
    (.cons (.for (.name 4 ⟨236,12,236,15⟩) (.seq (.var 3 ⟨236,19,236,23⟩)) (.cons (.asg (.tup (.cons (.name 5 ⟨237,12,237,14⟩) (.cons (.name 6 ⟨237,16,237,18⟩) (.cons (.name 7 ⟨237,20,237,22⟩) .nil))) 0 ⟨237,12,237,22⟩) (.var 4 ⟨237,25,237,28⟩) ⟨237,12,237,28⟩)
    (.cons (.asg (.name 8 ⟨238,12,238,13⟩) (.bi .tuple (.cons (.lc [("flag", 15)] ⟨.function, [(".0", .local), ("flag", .local), ("_law_round", .globalImplicit), ("s0", .free), ("s1", .free)], false, false, []⟩ (.name 15 ⟨238,52,238,56⟩) (.rng1 (.int (4) 0 ⟨238,66,238,67⟩) ⟨238,60,238,65⟩ ⟨238,60,238,68⟩) .nil (.call 11 (.cons (.var 5 ⟨238,34,238,36⟩) (.cons (.var 6 ⟨238,38,238,40⟩) (.cons (.var 15 ⟨238,42,238,46⟩) .nil))) ⟨238,23,238,33⟩ ⟨238,23,238,47⟩) ⟨238,22,238,69⟩) .nil) ⟨238,16,238,21⟩ ⟨238,16,238,70⟩) ⟨238,12,238,70⟩)
    (.cons (.asg (.name 9 ⟨239,12,239,13⟩) (.bi .tuple (.cons (.lc [("flag", 15)] ⟨.function, [(".0", .local), ("flag", .local), ("_law_round", .globalImplicit), ("s1", .free), ("s2", .free)], false, false, []⟩ (.name 15 ⟨239,52,239,56⟩) (.rng1 (.int (4) 0 ⟨239,66,239,67⟩) ⟨239,60,239,65⟩ ⟨239,60,239,68⟩) .nil (.call 11 (.cons (.var 6 ⟨239,34,239,36⟩) (.cons (.var 7 ⟨239,38,239,40⟩) (.cons (.var 15 ⟨239,42,239,46⟩) .nil))) ⟨239,23,239,33⟩ ⟨239,23,239,47⟩) ⟨239,22,239,69⟩) .nil) ⟨239,16,239,21⟩ ⟨239,16,239,70⟩) ⟨239,12,239,70⟩)
    (.cons (.ifs (.not (.call 14 (.cons (.tup (.cons (.var 5 ⟨240,36,240,38⟩) (.cons (.var 6 ⟨240,40,240,42⟩) (.cons (.var 7 ⟨240,44,240,46⟩) (.cons (.var 8 ⟨240,48,240,49⟩) (.cons (.var 9 ⟨240,51,240,52⟩) .nil))))) 0 ⟨240,35,240,53⟩) .nil) ⟨240,19,240,34⟩ ⟨240,19,240,54⟩) ⟨240,15,240,54⟩) (.cons (.ret (.bl false 0 ⟨241,23,241,28⟩) ⟨241,16,241,28⟩)
    .nil) .nil ⟨240,12,241,28⟩)
    .nil)))) ⟨236,8,241,28⟩)
    (.cons (.for (.name 10 ⟨242,12,242,16⟩) (.rng1 (.int (6) 0 ⟨242,26,242,27⟩) ⟨242,20,242,25⟩ ⟨242,20,242,28⟩) (.cons (.asg (.name 11 ⟨243,12,243,16⟩) (.call 10 (.cons (.var 1 ⟨243,30,243,31⟩) (.cons (.int (4) 0 ⟨243,33,243,34⟩) .nil)) ⟨243,19,243,29⟩ ⟨243,19,243,35⟩) ⟨243,12,243,35⟩)
    (.cons (.asg (.name 12 ⟨244,12,244,16⟩) (.bin .mul (.tup (.cons (.int (1) 0 ⟨244,20,244,21⟩) .nil) 0 ⟨244,19,244,23⟩) (.bi .len (.cons (.ix (.var 11 ⟨244,30,244,34⟩) (.int (0) 0 ⟨244,35,244,36⟩) ⟨244,30,244,37⟩) .nil) ⟨244,26,244,29⟩ ⟨244,26,244,38⟩) ⟨244,19,244,38⟩) ⟨244,12,244,38⟩)
    (.cons (.asg (.name 13 ⟨245,12,245,17⟩) (.tup (.cons (.bi .tuple (.cons (.ix (.var 11 ⟨245,27,245,31⟩) (.int (0) 0 ⟨245,32,245,33⟩) ⟨245,27,245,34⟩) .nil) ⟨245,21,245,26⟩ ⟨245,21,245,35⟩) (.cons (.bi .tuple (.cons (.ix (.var 11 ⟨245,43,245,47⟩) (.int (1) 0 ⟨245,48,245,49⟩) ⟨245,43,245,50⟩) .nil) ⟨245,37,245,42⟩ ⟨245,37,245,51⟩) (.cons (.bi .tuple (.cons (.ix (.var 11 ⟨245,59,245,63⟩) (.int (2) 0 ⟨245,64,245,65⟩) ⟨245,59,245,66⟩) .nil) ⟨245,53,245,58⟩ ⟨245,53,245,67⟩) (.cons (.var 12 ⟨245,69,245,73⟩) (.cons (.var 12 ⟨245,75,245,79⟩) .nil))))) 0 ⟨245,20,245,80⟩) ⟨245,12,245,80⟩)
    (.cons (.ifs (.and (.cons (.cmp .eq (.bi .len (.cons (.ix (.var 11 ⟨246,19,246,23⟩) (.int (0) 0 ⟨246,24,246,25⟩) ⟨246,19,246,26⟩) .nil) ⟨246,15,246,18⟩ ⟨246,15,246,27⟩) (.int (4) 0 ⟨246,31,246,32⟩) ⟨246,15,246,32⟩) (.cons (.cmp .nmem (.sl (.call 17 (.cons (.var 13 ⟨246,48,246,53⟩) .nil) ⟨246,37,246,47⟩ ⟨246,37,246,54⟩) .none (.some (.int (3) 0 ⟨246,56,246,57⟩)) ⟨246,37,246,58⟩ ⟨246,55,246,57⟩) (.var 3 ⟨246,66,246,70⟩) ⟨246,37,246,70⟩) .nil)) ⟨246,15,246,70⟩) (.cons (.ret (.bl false 0 ⟨247,23,247,28⟩) ⟨247,16,247,28⟩)
    .nil) .nil ⟨246,12,247,28⟩)
    .nil)))) ⟨242,8,247,28⟩)
    .nil)))) .nil ⟨232,4,247,28⟩)
    (.cons (.ret (.cmp .eq (.call 5 (.cons (.var 2 ⟨248,18,248,23⟩) .nil) ⟨248,11,248,17⟩ ⟨248,11,248,24⟩) (.call 19 (.cons (.var 2 ⟨248,40,248,45⟩) .nil) ⟨248,28,248,39⟩ ⟨248,28,248,46⟩) ⟨248,11,248,46⟩) ⟨248,4,248,46⟩)
    .nil)))))
def np : List Nat := [1, 2, 2, 1, 1, 1, 2, 2, 2, 2, 2, 3, 1, 1, 1, 2, 2, 1, 1, 1, 1, 1]
theorem rd_reached : toSL ⟨N_reached, fnN, []⟩ ir_reached = defBody st_reached := by kernel_rfl
theorem rd_renumbered : toSL ⟨N_renumbered, fnN, []⟩ ir_renumbered = defBody st_renumbered := by kernel_rfl
theorem rd_walk : toSL ⟨N_walk, fnN, []⟩ ir_walk = defBody st_walk := by kernel_rfl
theorem rd_least : toSL ⟨N_least, fnN, []⟩ ir_least = defBody st_least := by kernel_rfl
theorem rd_exchanges : toSL ⟨N_exchanges, fnN, []⟩ ir_exchanges = defBody st_exchanges := by kernel_rfl
theorem rd_frames : toSL ⟨N_frames, fnN, []⟩ ir_frames = defBody st_frames := by kernel_rfl
theorem rd__law_begun : toSL ⟨N__law_begun, fnN, []⟩ ir__law_begun = defBody st__law_begun := by kernel_rfl
theorem rd__law_draw : toSL ⟨N__law_draw, fnN, []⟩ ir__law_draw = defBody st__law_draw := by kernel_rfl
theorem rd__law_of : toSL ⟨N__law_of, fnN, []⟩ ir__law_of = defBody st__law_of := by kernel_rfl
theorem rd__law_put : toSL ⟨N__law_put, fnN, []⟩ ir__law_put = defBody st__law_put := by kernel_rfl
theorem rd__law_frame : toSL ⟨N__law_frame, fnN, []⟩ ir__law_frame = defBody st__law_frame := by kernel_rfl
theorem rd__law_round : toSL ⟨N__law_round, fnN, []⟩ ir__law_round = defBody st__law_round := by kernel_rfl
theorem rd__law_is_number : toSL ⟨N__law_is_number, fnN, []⟩ ir__law_is_number = defBody st__law_is_number := by kernel_rfl
theorem rd__law_is_form : toSL ⟨N__law_is_form, fnN, []⟩ ir__law_is_form = defBody st__law_is_form := by kernel_rfl
theorem rd__law_is_pattern : toSL ⟨N__law_is_pattern, fnN, []⟩ ir__law_is_pattern = defBody st__law_is_pattern := by kernel_rfl
theorem rd__law_walk : toSL ⟨N__law_walk, fnN, []⟩ ir__law_walk = defBody st__law_walk := by kernel_rfl
theorem rd__law_listed : toSL ⟨N__law_listed, fnN, []⟩ ir__law_listed = defBody st__law_listed := by kernel_rfl
theorem rd__law_least : toSL ⟨N__law_least, fnN, []⟩ ir__law_least = defBody st__law_least := by kernel_rfl
theorem rd__law_ways : toSL ⟨N__law_ways, fnN, []⟩ ir__law_ways = defBody st__law_ways := by kernel_rfl
theorem rd__law_frames : toSL ⟨N__law_frames, fnN, []⟩ ir__law_frames = defBody st__law_frames := by kernel_rfl
theorem rd_law : toSL ⟨N_law, fnN, []⟩ ir_law = defBody st_law := by kernel_rfl
end Lw
end

section
open PySem FF L2
set_option maxRecDepth 100000
set_option maxHeartbeats 4000000
namespace Lw
def cs : List Nat := List.range 22
def gs : List (Str × Int) := [("MOST_FRAME", 4)]
theorem ok_reached : okSL ⟨N_reached, fnN, []⟩ cs gs ir_reached (defScope st_reached) = true := by decide +kernel
theorem ok_renumbered : okSL ⟨N_renumbered, fnN, []⟩ cs gs ir_renumbered (defScope st_renumbered) = true := by decide +kernel
theorem ok_walk : okSL ⟨N_walk, fnN, []⟩ cs gs ir_walk (defScope st_walk) = true := by decide +kernel
theorem ok_least : okSL ⟨N_least, fnN, []⟩ cs gs ir_least (defScope st_least) = true := by decide +kernel
theorem ok_exchanges : okSL ⟨N_exchanges, fnN, []⟩ cs gs ir_exchanges (defScope st_exchanges) = true := by decide +kernel
theorem ok_frames : okSL ⟨N_frames, fnN, []⟩ cs gs ir_frames (defScope st_frames) = true := by decide +kernel
theorem ok__law_begun : okSL ⟨N__law_begun, fnN, []⟩ cs gs ir__law_begun (defScope st__law_begun) = true := by decide +kernel
theorem ok__law_draw : okSL ⟨N__law_draw, fnN, []⟩ cs gs ir__law_draw (defScope st__law_draw) = true := by decide +kernel
theorem ok__law_of : okSL ⟨N__law_of, fnN, []⟩ cs gs ir__law_of (defScope st__law_of) = true := by decide +kernel
theorem ok__law_put : okSL ⟨N__law_put, fnN, []⟩ cs gs ir__law_put (defScope st__law_put) = true := by decide +kernel
theorem ok__law_frame : okSL ⟨N__law_frame, fnN, []⟩ cs gs ir__law_frame (defScope st__law_frame) = true := by decide +kernel
theorem ok__law_round : okSL ⟨N__law_round, fnN, []⟩ cs gs ir__law_round (defScope st__law_round) = true := by decide +kernel
theorem ok__law_is_number : okSL ⟨N__law_is_number, fnN, []⟩ cs gs ir__law_is_number (defScope st__law_is_number) = true := by decide +kernel
theorem ok__law_is_form : okSL ⟨N__law_is_form, fnN, []⟩ cs gs ir__law_is_form (defScope st__law_is_form) = true := by decide +kernel
theorem ok__law_is_pattern : okSL ⟨N__law_is_pattern, fnN, []⟩ cs gs ir__law_is_pattern (defScope st__law_is_pattern) = true := by decide +kernel
theorem ok__law_walk : okSL ⟨N__law_walk, fnN, []⟩ cs gs ir__law_walk (defScope st__law_walk) = true := by decide +kernel
theorem ok__law_listed : okSL ⟨N__law_listed, fnN, []⟩ cs gs ir__law_listed (defScope st__law_listed) = true := by decide +kernel
theorem ok__law_least : okSL ⟨N__law_least, fnN, []⟩ cs gs ir__law_least (defScope st__law_least) = true := by decide +kernel
theorem ok__law_ways : okSL ⟨N__law_ways, fnN, []⟩ cs gs ir__law_ways (defScope st__law_ways) = true := by decide +kernel
theorem ok__law_frames : okSL ⟨N__law_frames, fnN, []⟩ cs gs ir__law_frames (defScope st__law_frames) = true := by decide +kernel
theorem ok_law : okSL ⟨N_law, fnN, []⟩ cs gs ir_law (defScope st_law) = true := by decide +kernel
end Lw
end

section
set_option Elab.async false
set_option linter.all false
set_option maxRecDepth 100000
set_option maxHeartbeats 0
namespace Lw
open PySem PySem.Spec PyProof.Rows L2 FF
def dOf (x : Str) (st : Stmt) : He.DefD := ⟨(x, none), x, x, defArgs st, defBody st, defScope st, [], []⟩
def dfn : List He.DefD := [dOf "reached" st_reached, dOf "renumbered" st_renumbered, dOf "walk" st_walk, dOf "least" st_least, dOf "exchanges" st_exchanges, dOf "frames" st_frames, dOf "_law_begun" st__law_begun, dOf "_law_draw" st__law_draw, dOf "_law_of" st__law_of, dOf "_law_put" st__law_put, dOf "_law_frame" st__law_frame, dOf "_law_round" st__law_round, dOf "_law_is_number" st__law_is_number, dOf "_law_is_form" st__law_is_form, dOf "_law_is_pattern" st__law_is_pattern, dOf "_law_walk" st__law_walk, dOf "_law_listed" st__law_listed, dOf "_law_least" st__law_least, dOf "_law_ways" st__law_ways, dOf "_law_frames" st__law_frames, dOf "_law_is_refused" st__law_is_refused, dOf "law" st_law]
def fa : List He.Fa := [.glo "reached", .glo "renumbered", .glo "walk", .glo "least", .glo "exchanges", .glo "frames", .glo "_law_begun", .glo "_law_draw", .glo "_law_of", .glo "_law_put", .glo "_law_frame", .glo "_law_round", .glo "_law_is_number", .glo "_law_is_form", .glo "_law_is_pattern", .glo "_law_walk", .glo "_law_listed", .glo "_law_least", .glo "_law_ways", .glo "_law_frames", .glo "_law_is_refused", .glo "law", .glo "FlagError", .glo "NotPattern", .glo "TooMany", .free "len", .free "tuple", .free "list", .free "int", .free "any", .free "all", .free "sorted", .free "min", .free "max", .free "abs", .free "set", .free "range", .free "enumerate", .free "zip", .free "isinstance", .free "bool", .free "str", .free "super", .int "MOST_FRAME" 4]
def noList (K : PySem.W.Frag) : Bool := K.all fun p => decide (p.2.cls ≠ .type "list")
def excCB (K : PySem.W.Frag) (D : Addr) : Bool := decide (PySem.W.findIn K (.ref D) "__getattribute__" = some (some (.builtin "BaseException.__getattribute__"))) && decide (PySem.W.findIn K (.ref D) "__getattr__" = some none) && decide (PySem.W.subIn K (.ref D) (.type "BaseException") = some true) && PySem.W.hasDictIn K D &&
  decide (PySem.W.findIn K (.ref D) "__class__" = some (some (.builtin "object.__class__"))) && decide (PySem.W.specialIn K (.builtin "object.__class__") "__get__" = some (some (.builtin "getset_descriptor.__get__"))) && decide (PySem.W.takesIn K (.builtin "object.__class__") = some true) && decide (PySem.W.mroIn K D (.type "object") = some true)
def P : Program := PySem.Challenge.pw_flagfloors_k90_whole_frames
def ex (K : PySem.W.Frag) : Bool := noList K && initCB P K "TooMany" "limit" && excCB K (He.ga K "TooMany") && decide (PySem.W.exmOne K (.ref (He.ga K "TooMany")) (.ref (He.ga K "FlagError")) = some true) && decide (PySem.W.kitOne K (.ref (He.ga K "TooMany")) (.ref (He.ga K "TooMany")) = some true) && decide (PySem.W.kitOne K (.ref (He.ga K "TooMany")) (.ref (He.ga K "NotPattern")) = some false)
def ms : List (Str × Str) := [("TooMany", "__init__")]
def clsBody (i : Nat) : List Stmt := match topS i with
  | .ClassDef _ _ _ b _ _ _ _ _ _ _ => b
  | _ => []
def initS : Stmt := ((clsBody 3).filter fun | .FunctionDef .. => true | _ => false).getD 0 (.Pass ⟨0, 0, 0, 0⟩)
def mv : List (Option (Arguments × FuncBody × Scope)) := [some (defArgs initS, .stmts (defBody initS), defScope initS)]
abbrev hk : PySem.W.Hook := hookM 6 fa dfn ex ms mv
def ob (s : PySem.W.SharedT) : AlM := obsMG 6 fa dfn ex ms (HandSHeadRun.getT s)
theorem ob_eq (s : PySem.W.SharedT) : ob s = hk.obs s.abs := obsMG_eq (HandSHeadRun.getT_eq s)
abbrev Rw : PySem.W.OpenRow := PySem.W.OpenLaw.row PySem.Challenge.rw_flagfloors_k90_whole_frames
def loose : List Str := ["FlagError", "NotPattern", "TooMany", "MOST_FRAME", "reached", "renumbered", "walk", "least", "exchanges", "frames", "_law_begun", "_law_draw", "_law_of", "_law_put", "_law_frame", "_law_round", "_law_is_number", "_law_is_form", "_law_is_pattern", "_law_walk", "_law_listed", "_law_least", "_law_ways", "_law_frames", "_law_is_refused"]
end Lw
end

section
set_option Elab.async false
set_option linter.all false
set_option maxRecDepth 100000
set_option maxHeartbeats 0
namespace Lw
open PySem PySem.Spec PyProof.Rows L2 FF
theorem run (w : World) : HandSHeadRun.RunEq Rw (PySem.W.view Rw.prog [30]) hk ob 6000 loose w := by
  intro os
  kernel_rfl
end Lw
end

section
set_option Elab.async false
set_option linter.all false
set_option maxRecDepth 100000
set_option maxHeartbeats 0
namespace Lw
open PySem PySem.Spec PyProof.Rows L2 FF
def refF : List Dv → Hh → R Dv := fun vs h => match vs with
      | [.int n] => if 4 < n then .ok (.bl true) h else .no
      | _ => .no
def T : List FD := [
  .ir 1 5 ir_reached,
  .ir 2 9 ir_renumbered,
  .ir 2 7 ir_walk,
  .ir 1 4 ir_least,
  .ir 1 6 ir_exchanges,
  .ir 1 8 ir_frames,
  .ir 2 6 ir__law_begun,
  .ir 2 8 ir__law_draw,
  .ir 2 2 ir__law_of,
  .ir 2 7 ir__law_put,
  .ir 2 12 ir__law_frame,
  .ir 3 6 ir__law_round,
  .ir 1 1 ir__law_is_number,
  .ir 1 3 ir__law_is_form,
  .ir 1 12 ir__law_is_pattern,
  .ir 2 8 ir__law_walk,
  .ir 2 9 ir__law_listed,
  .ir 1 2 ir__law_least,
  .ir 1 6 ir__law_ways,
  .ir 1 10 ir__law_frames,
  .ext 2 refF,
  .ir 1 16 ir_law]
theorem sc_reached : FnScope N_reached ["value"] (defScope st_reached) := ⟨by decide +kernel, by decide +kernel, by decide +kernel, by decide +kernel, by rfl, by decide +kernel, by decide +kernel⟩
theorem sc_renumbered : FnScope N_renumbered ["pattern", "listing"] (defScope st_renumbered) := ⟨by decide +kernel, by decide +kernel, by decide +kernel, by decide +kernel, by rfl, by decide +kernel, by decide +kernel⟩
theorem sc_walk : FnScope N_walk ["pattern", "flag"] (defScope st_walk) := ⟨by decide +kernel, by decide +kernel, by decide +kernel, by decide +kernel, by rfl, by decide +kernel, by decide +kernel⟩
theorem sc_least : FnScope N_least ["pattern"] (defScope st_least) := ⟨by decide +kernel, by decide +kernel, by decide +kernel, by decide +kernel, by rfl, by decide +kernel, by decide +kernel⟩
theorem sc_exchanges : FnScope N_exchanges ["count"] (defScope st_exchanges) := ⟨by decide +kernel, by decide +kernel, by decide +kernel, by decide +kernel, by rfl, by decide +kernel, by decide +kernel⟩
theorem sc_frames : FnScope N_frames ["count"] (defScope st_frames) := ⟨by decide +kernel, by decide +kernel, by decide +kernel, by decide +kernel, by rfl, by decide +kernel, by decide +kernel⟩
theorem sc__law_begun : FnScope N__law_begun ["script", "k"] (defScope st__law_begun) := ⟨by decide +kernel, by decide +kernel, by decide +kernel, by decide +kernel, by rfl, by decide +kernel, by decide +kernel⟩
theorem sc__law_draw : FnScope N__law_draw ["m", "below"] (defScope st__law_draw) := ⟨by decide +kernel, by decide +kernel, by decide +kernel, by decide +kernel, by rfl, by decide +kernel, by decide +kernel⟩
theorem sc__law_of : FnScope N__law_of ["m", "some"] (defScope st__law_of) := ⟨by decide +kernel, by decide +kernel, by decide +kernel, by decide +kernel, by rfl, by decide +kernel, by decide +kernel⟩
theorem sc__law_put : FnScope N__law_put ["rows", "word"] (defScope st__law_put) := ⟨by decide +kernel, by decide +kernel, by decide +kernel, by decide +kernel, by rfl, by decide +kernel, by decide +kernel⟩
theorem sc__law_frame : FnScope N__law_frame ["m", "most"] (defScope st__law_frame) := ⟨by decide +kernel, by decide +kernel, by decide +kernel, by decide +kernel, by rfl, by decide +kernel, by decide +kernel⟩
theorem sc__law_round : FnScope N__law_round ["one", "other", "flag"] (defScope st__law_round) := ⟨by decide +kernel, by decide +kernel, by decide +kernel, by decide +kernel, by rfl, by decide +kernel, by decide +kernel⟩
theorem sc__law_is_number : FnScope N__law_is_number ["value"] (defScope st__law_is_number) := ⟨by decide +kernel, by decide +kernel, by decide +kernel, by decide +kernel, by rfl, by decide +kernel, by decide +kernel⟩
theorem sc__law_is_form : FnScope N__law_is_form ["value"] (defScope st__law_is_form) := ⟨by decide +kernel, by decide +kernel, by decide +kernel, by decide +kernel, by rfl, by decide +kernel, by decide +kernel⟩
theorem sc__law_is_pattern : FnScope N__law_is_pattern ["value"] (defScope st__law_is_pattern) := ⟨by decide +kernel, by decide +kernel, by decide +kernel, by decide +kernel, by rfl, by decide +kernel, by decide +kernel⟩
theorem sc__law_walk : FnScope N__law_walk ["value", "flag"] (defScope st__law_walk) := ⟨by decide +kernel, by decide +kernel, by decide +kernel, by decide +kernel, by rfl, by decide +kernel, by decide +kernel⟩
theorem sc__law_listed : FnScope N__law_listed ["value", "listing"] (defScope st__law_listed) := ⟨by decide +kernel, by decide +kernel, by decide +kernel, by decide +kernel, by rfl, by decide +kernel, by decide +kernel⟩
theorem sc__law_least : FnScope N__law_least ["value"] (defScope st__law_least) := ⟨by decide +kernel, by decide +kernel, by decide +kernel, by decide +kernel, by rfl, by decide +kernel, by decide +kernel⟩
theorem sc__law_ways : FnScope N__law_ways ["count"] (defScope st__law_ways) := ⟨by decide +kernel, by decide +kernel, by decide +kernel, by decide +kernel, by rfl, by decide +kernel, by decide +kernel⟩
theorem sc__law_frames : FnScope N__law_frames ["count"] (defScope st__law_frames) := ⟨by decide +kernel, by decide +kernel, by decide +kernel, by decide +kernel, by rfl, by decide +kernel, by decide +kernel⟩
theorem sc__law_is_refused : FnScope N__law_is_refused ["count"] (defScope st__law_is_refused) := ⟨by decide +kernel, by decide +kernel, by decide +kernel, by decide +kernel, by rfl, by decide +kernel, by decide +kernel⟩
theorem sc_law : FnScope N_law ["script"] (defScope st_law) := ⟨by decide +kernel, by decide +kernel, by decide +kernel, by decide +kernel, by rfl, by decide +kernel, by decide +kernel⟩
section
variable {P : Program} {w : World} {K : PySem.W.Frag} {mg : Str → Option Value} {base : Heap} {B : Bd} {wf : Nat}
theorem glob (X : K.In base) (G : base.Ns mainGlobals mg) (c : He.SaysD fa dfn K) : Glob mg gs where
  blt := fun b hb => match b, hb with
    | .len, _ => He.free_ok X G (c.fact 25 (f := .free "len") rfl)
    | .tuple, _ => He.free_ok X G (c.fact 26 (f := .free "tuple") rfl)
    | .list, _ => He.free_ok X G (c.fact 27 (f := .free "list") rfl)
    | .int, _ => He.free_ok X G (c.fact 28 (f := .free "int") rfl)
    | .any, _ => He.free_ok X G (c.fact 29 (f := .free "any") rfl)
    | .all, _ => He.free_ok X G (c.fact 30 (f := .free "all") rfl)
    | .sorted, _ => He.free_ok X G (c.fact 31 (f := .free "sorted") rfl)
    | .min, _ => He.free_ok X G (c.fact 32 (f := .free "min") rfl)
    | .max, _ => He.free_ok X G (c.fact 33 (f := .free "max") rfl)
    | .abs, _ => He.free_ok X G (c.fact 34 (f := .free "abs") rfl)
    | .set0, _ => He.free_ok X G (c.fact 35 (f := .free "set") rfl)
    | .min2, _ => He.free_ok X G (c.fact 32 (f := .free "min") rfl)
    | .max2, _ => He.free_ok X G (c.fact 33 (f := .free "max") rfl)
    | .sum, h => absurd h (by decide)
    | .gcd, h => absurd h (by decide)
  rng := He.free_ok X G (c.fact 36 (f := .free "range") rfl)
  enm := He.free_ok X G (c.fact 37 (f := .free "enumerate") rfl)
  zp := He.free_ok X G (c.fact 38 (f := .free "zip") rfl)
  isi := He.free_ok X G (c.fact 39 (f := .free "isinstance") rfl)
  tys := fun t ht => match t, ht with
    | .int, _ => He.free_ok X G (c.fact 28 (f := .free "int") rfl)
    | .bool, _ => He.free_ok X G (c.fact 40 (f := .free "bool") rfl)
    | .tuple, _ => He.free_ok X G (c.fact 26 (f := .free "tuple") rfl)
    | .str, _ => He.free_ok X G (c.fact 41 (f := .free "str") rfl)
    | .list, _ => He.free_ok X G (c.fact 27 (f := .free "list") rfl)
    | .cls _, h => absurd h (fun z => by cases z)
  gi := fun x i h => by
    have e : (x, i) = (("MOST_FRAME" : Str), (4 : Int)) := by
      have h : (x, i) ∈ gs := by simpa using h
      simpa [gs] using h
    cases e
    exact He.int_ok X G (c.fact 43 (f := .int "MOST_FRAME" 4) rfl)
theorem df_reached (X : K.In base) (G : base.Ns mainGlobals mg) (c : He.SaysD fa dfn K) : ∃ g fd ps, DefOk P w K mg base B T wf fnN cs gs 0 g fd ps := by
  obtain ⟨fd, F⟩ := c.def_ 0 (d := dOf "reached" st_reached) rfl
  exact ⟨_, fd, ["value"], ⟨He.glo_ok X G (c.fact 0 (f := .glo "reached") rfl), F.kp, F.bindsN fun _ _ _ _ _ _ us hl => match us, hl with | [_], _ => rfl, .inl ⟨_, N_reached, _, _, _, ir_reached, rfl, F, sc_reached, rd_reached, ok_reached⟩⟩⟩
theorem df_renumbered (X : K.In base) (G : base.Ns mainGlobals mg) (c : He.SaysD fa dfn K) : ∃ g fd ps, DefOk P w K mg base B T wf fnN cs gs 1 g fd ps := by
  obtain ⟨fd, F⟩ := c.def_ 1 (d := dOf "renumbered" st_renumbered) rfl
  exact ⟨_, fd, ["pattern", "listing"], ⟨He.glo_ok X G (c.fact 1 (f := .glo "renumbered") rfl), F.kp, F.bindsN fun _ _ _ _ _ _ us hl => match us, hl with | [_, _], _ => rfl, .inl ⟨_, N_renumbered, _, _, _, ir_renumbered, rfl, F, sc_renumbered, rd_renumbered, ok_renumbered⟩⟩⟩
theorem df_walk (X : K.In base) (G : base.Ns mainGlobals mg) (c : He.SaysD fa dfn K) : ∃ g fd ps, DefOk P w K mg base B T wf fnN cs gs 2 g fd ps := by
  obtain ⟨fd, F⟩ := c.def_ 2 (d := dOf "walk" st_walk) rfl
  exact ⟨_, fd, ["pattern", "flag"], ⟨He.glo_ok X G (c.fact 2 (f := .glo "walk") rfl), F.kp, F.bindsN fun _ _ _ _ _ _ us hl => match us, hl with | [_, _], _ => rfl, .inl ⟨_, N_walk, _, _, _, ir_walk, rfl, F, sc_walk, rd_walk, ok_walk⟩⟩⟩
theorem df_least (X : K.In base) (G : base.Ns mainGlobals mg) (c : He.SaysD fa dfn K) : ∃ g fd ps, DefOk P w K mg base B T wf fnN cs gs 3 g fd ps := by
  obtain ⟨fd, F⟩ := c.def_ 3 (d := dOf "least" st_least) rfl
  exact ⟨_, fd, ["pattern"], ⟨He.glo_ok X G (c.fact 3 (f := .glo "least") rfl), F.kp, F.bindsN fun _ _ _ _ _ _ us hl => match us, hl with | [_], _ => rfl, .inl ⟨_, N_least, _, _, _, ir_least, rfl, F, sc_least, rd_least, ok_least⟩⟩⟩
theorem df_exchanges (X : K.In base) (G : base.Ns mainGlobals mg) (c : He.SaysD fa dfn K) : ∃ g fd ps, DefOk P w K mg base B T wf fnN cs gs 4 g fd ps := by
  obtain ⟨fd, F⟩ := c.def_ 4 (d := dOf "exchanges" st_exchanges) rfl
  exact ⟨_, fd, ["count"], ⟨He.glo_ok X G (c.fact 4 (f := .glo "exchanges") rfl), F.kp, F.bindsN fun _ _ _ _ _ _ us hl => match us, hl with | [_], _ => rfl, .inl ⟨_, N_exchanges, _, _, _, ir_exchanges, rfl, F, sc_exchanges, rd_exchanges, ok_exchanges⟩⟩⟩
theorem df_frames (X : K.In base) (G : base.Ns mainGlobals mg) (c : He.SaysD fa dfn K) : ∃ g fd ps, DefOk P w K mg base B T wf fnN cs gs 5 g fd ps := by
  obtain ⟨fd, F⟩ := c.def_ 5 (d := dOf "frames" st_frames) rfl
  exact ⟨_, fd, ["count"], ⟨He.glo_ok X G (c.fact 5 (f := .glo "frames") rfl), F.kp, F.bindsN fun _ _ _ _ _ _ us hl => match us, hl with | [_], _ => rfl, .inl ⟨_, N_frames, _, _, _, ir_frames, rfl, F, sc_frames, rd_frames, ok_frames⟩⟩⟩
theorem df__law_begun (X : K.In base) (G : base.Ns mainGlobals mg) (c : He.SaysD fa dfn K) : ∃ g fd ps, DefOk P w K mg base B T wf fnN cs gs 6 g fd ps := by
  obtain ⟨fd, F⟩ := c.def_ 6 (d := dOf "_law_begun" st__law_begun) rfl
  exact ⟨_, fd, ["script", "k"], ⟨He.glo_ok X G (c.fact 6 (f := .glo "_law_begun") rfl), F.kp, F.bindsN fun _ _ _ _ _ _ us hl => match us, hl with | [_, _], _ => rfl, .inl ⟨_, N__law_begun, _, _, _, ir__law_begun, rfl, F, sc__law_begun, rd__law_begun, ok__law_begun⟩⟩⟩
theorem df__law_draw (X : K.In base) (G : base.Ns mainGlobals mg) (c : He.SaysD fa dfn K) : ∃ g fd ps, DefOk P w K mg base B T wf fnN cs gs 7 g fd ps := by
  obtain ⟨fd, F⟩ := c.def_ 7 (d := dOf "_law_draw" st__law_draw) rfl
  exact ⟨_, fd, ["m", "below"], ⟨He.glo_ok X G (c.fact 7 (f := .glo "_law_draw") rfl), F.kp, F.bindsN fun _ _ _ _ _ _ us hl => match us, hl with | [_, _], _ => rfl, .inl ⟨_, N__law_draw, _, _, _, ir__law_draw, rfl, F, sc__law_draw, rd__law_draw, ok__law_draw⟩⟩⟩
theorem df__law_of (X : K.In base) (G : base.Ns mainGlobals mg) (c : He.SaysD fa dfn K) : ∃ g fd ps, DefOk P w K mg base B T wf fnN cs gs 8 g fd ps := by
  obtain ⟨fd, F⟩ := c.def_ 8 (d := dOf "_law_of" st__law_of) rfl
  exact ⟨_, fd, ["m", "some"], ⟨He.glo_ok X G (c.fact 8 (f := .glo "_law_of") rfl), F.kp, F.bindsN fun _ _ _ _ _ _ us hl => match us, hl with | [_, _], _ => rfl, .inl ⟨_, N__law_of, _, _, _, ir__law_of, rfl, F, sc__law_of, rd__law_of, ok__law_of⟩⟩⟩
theorem df__law_put (X : K.In base) (G : base.Ns mainGlobals mg) (c : He.SaysD fa dfn K) : ∃ g fd ps, DefOk P w K mg base B T wf fnN cs gs 9 g fd ps := by
  obtain ⟨fd, F⟩ := c.def_ 9 (d := dOf "_law_put" st__law_put) rfl
  exact ⟨_, fd, ["rows", "word"], ⟨He.glo_ok X G (c.fact 9 (f := .glo "_law_put") rfl), F.kp, F.bindsN fun _ _ _ _ _ _ us hl => match us, hl with | [_, _], _ => rfl, .inl ⟨_, N__law_put, _, _, _, ir__law_put, rfl, F, sc__law_put, rd__law_put, ok__law_put⟩⟩⟩
theorem df__law_frame (X : K.In base) (G : base.Ns mainGlobals mg) (c : He.SaysD fa dfn K) : ∃ g fd ps, DefOk P w K mg base B T wf fnN cs gs 10 g fd ps := by
  obtain ⟨fd, F⟩ := c.def_ 10 (d := dOf "_law_frame" st__law_frame) rfl
  exact ⟨_, fd, ["m", "most"], ⟨He.glo_ok X G (c.fact 10 (f := .glo "_law_frame") rfl), F.kp, F.bindsN fun _ _ _ _ _ _ us hl => match us, hl with | [_, _], _ => rfl, .inl ⟨_, N__law_frame, _, _, _, ir__law_frame, rfl, F, sc__law_frame, rd__law_frame, ok__law_frame⟩⟩⟩
theorem df__law_round (X : K.In base) (G : base.Ns mainGlobals mg) (c : He.SaysD fa dfn K) : ∃ g fd ps, DefOk P w K mg base B T wf fnN cs gs 11 g fd ps := by
  obtain ⟨fd, F⟩ := c.def_ 11 (d := dOf "_law_round" st__law_round) rfl
  exact ⟨_, fd, ["one", "other", "flag"], ⟨He.glo_ok X G (c.fact 11 (f := .glo "_law_round") rfl), F.kp, F.bindsN fun _ _ _ _ _ _ us hl => match us, hl with | [_, _, _], _ => rfl, .inl ⟨_, N__law_round, _, _, _, ir__law_round, rfl, F, sc__law_round, rd__law_round, ok__law_round⟩⟩⟩
theorem df__law_is_number (X : K.In base) (G : base.Ns mainGlobals mg) (c : He.SaysD fa dfn K) : ∃ g fd ps, DefOk P w K mg base B T wf fnN cs gs 12 g fd ps := by
  obtain ⟨fd, F⟩ := c.def_ 12 (d := dOf "_law_is_number" st__law_is_number) rfl
  exact ⟨_, fd, ["value"], ⟨He.glo_ok X G (c.fact 12 (f := .glo "_law_is_number") rfl), F.kp, F.bindsN fun _ _ _ _ _ _ us hl => match us, hl with | [_], _ => rfl, .inl ⟨_, N__law_is_number, _, _, _, ir__law_is_number, rfl, F, sc__law_is_number, rd__law_is_number, ok__law_is_number⟩⟩⟩
theorem df__law_is_form (X : K.In base) (G : base.Ns mainGlobals mg) (c : He.SaysD fa dfn K) : ∃ g fd ps, DefOk P w K mg base B T wf fnN cs gs 13 g fd ps := by
  obtain ⟨fd, F⟩ := c.def_ 13 (d := dOf "_law_is_form" st__law_is_form) rfl
  exact ⟨_, fd, ["value"], ⟨He.glo_ok X G (c.fact 13 (f := .glo "_law_is_form") rfl), F.kp, F.bindsN fun _ _ _ _ _ _ us hl => match us, hl with | [_], _ => rfl, .inl ⟨_, N__law_is_form, _, _, _, ir__law_is_form, rfl, F, sc__law_is_form, rd__law_is_form, ok__law_is_form⟩⟩⟩
theorem df__law_is_pattern (X : K.In base) (G : base.Ns mainGlobals mg) (c : He.SaysD fa dfn K) : ∃ g fd ps, DefOk P w K mg base B T wf fnN cs gs 14 g fd ps := by
  obtain ⟨fd, F⟩ := c.def_ 14 (d := dOf "_law_is_pattern" st__law_is_pattern) rfl
  exact ⟨_, fd, ["value"], ⟨He.glo_ok X G (c.fact 14 (f := .glo "_law_is_pattern") rfl), F.kp, F.bindsN fun _ _ _ _ _ _ us hl => match us, hl with | [_], _ => rfl, .inl ⟨_, N__law_is_pattern, _, _, _, ir__law_is_pattern, rfl, F, sc__law_is_pattern, rd__law_is_pattern, ok__law_is_pattern⟩⟩⟩
theorem df__law_walk (X : K.In base) (G : base.Ns mainGlobals mg) (c : He.SaysD fa dfn K) : ∃ g fd ps, DefOk P w K mg base B T wf fnN cs gs 15 g fd ps := by
  obtain ⟨fd, F⟩ := c.def_ 15 (d := dOf "_law_walk" st__law_walk) rfl
  exact ⟨_, fd, ["value", "flag"], ⟨He.glo_ok X G (c.fact 15 (f := .glo "_law_walk") rfl), F.kp, F.bindsN fun _ _ _ _ _ _ us hl => match us, hl with | [_, _], _ => rfl, .inl ⟨_, N__law_walk, _, _, _, ir__law_walk, rfl, F, sc__law_walk, rd__law_walk, ok__law_walk⟩⟩⟩
theorem df__law_listed (X : K.In base) (G : base.Ns mainGlobals mg) (c : He.SaysD fa dfn K) : ∃ g fd ps, DefOk P w K mg base B T wf fnN cs gs 16 g fd ps := by
  obtain ⟨fd, F⟩ := c.def_ 16 (d := dOf "_law_listed" st__law_listed) rfl
  exact ⟨_, fd, ["value", "listing"], ⟨He.glo_ok X G (c.fact 16 (f := .glo "_law_listed") rfl), F.kp, F.bindsN fun _ _ _ _ _ _ us hl => match us, hl with | [_, _], _ => rfl, .inl ⟨_, N__law_listed, _, _, _, ir__law_listed, rfl, F, sc__law_listed, rd__law_listed, ok__law_listed⟩⟩⟩
theorem df__law_least (X : K.In base) (G : base.Ns mainGlobals mg) (c : He.SaysD fa dfn K) : ∃ g fd ps, DefOk P w K mg base B T wf fnN cs gs 17 g fd ps := by
  obtain ⟨fd, F⟩ := c.def_ 17 (d := dOf "_law_least" st__law_least) rfl
  exact ⟨_, fd, ["value"], ⟨He.glo_ok X G (c.fact 17 (f := .glo "_law_least") rfl), F.kp, F.bindsN fun _ _ _ _ _ _ us hl => match us, hl with | [_], _ => rfl, .inl ⟨_, N__law_least, _, _, _, ir__law_least, rfl, F, sc__law_least, rd__law_least, ok__law_least⟩⟩⟩
theorem df__law_ways (X : K.In base) (G : base.Ns mainGlobals mg) (c : He.SaysD fa dfn K) : ∃ g fd ps, DefOk P w K mg base B T wf fnN cs gs 18 g fd ps := by
  obtain ⟨fd, F⟩ := c.def_ 18 (d := dOf "_law_ways" st__law_ways) rfl
  exact ⟨_, fd, ["count"], ⟨He.glo_ok X G (c.fact 18 (f := .glo "_law_ways") rfl), F.kp, F.bindsN fun _ _ _ _ _ _ us hl => match us, hl with | [_], _ => rfl, .inl ⟨_, N__law_ways, _, _, _, ir__law_ways, rfl, F, sc__law_ways, rd__law_ways, ok__law_ways⟩⟩⟩
theorem df__law_frames (X : K.In base) (G : base.Ns mainGlobals mg) (c : He.SaysD fa dfn K) : ∃ g fd ps, DefOk P w K mg base B T wf fnN cs gs 19 g fd ps := by
  obtain ⟨fd, F⟩ := c.def_ 19 (d := dOf "_law_frames" st__law_frames) rfl
  exact ⟨_, fd, ["count"], ⟨He.glo_ok X G (c.fact 19 (f := .glo "_law_frames") rfl), F.kp, F.bindsN fun _ _ _ _ _ _ us hl => match us, hl with | [_], _ => rfl, .inl ⟨_, N__law_frames, _, _, _, ir__law_frames, rfl, F, sc__law_frames, rd__law_frames, ok__law_frames⟩⟩⟩
theorem df_law (X : K.In base) (G : base.Ns mainGlobals mg) (c : He.SaysD fa dfn K) : ∃ g fd ps, DefOk P w K mg base B T wf fnN cs gs 21 g fd ps := by
  obtain ⟨fd, F⟩ := c.def_ 21 (d := dOf "law" st_law) rfl
  exact ⟨_, fd, ["script"], ⟨He.glo_ok X G (c.fact 21 (f := .glo "law") rfl), F.kp, F.bindsN fun _ _ _ _ _ _ us hl => match us, hl with | [_], _ => rfl, .inl ⟨_, N_law, _, _, _, ir_law, rfl, F, sc_law, rd_law, ok_law⟩⟩⟩
end
end Lw
end

section
set_option Elab.async false
set_option linter.all false
set_option maxRecDepth 100000
set_option maxHeartbeats 0
namespace Lw
open PySem PySem.Spec PyProof.Rows L2 FF
theorem FnOk.up {P : Program} {w : World} {K : PySem.W.Frag} {mg : Str → Option Value} {base : Heap} {CX : CXT} {j k : Nat} {f : Addr} {fd : FuncData} {ps : List Str} {sp : Sp} (F : FnOk P w K mg base CX j f fd ps sp) (h : j ≤ k) : FnOk P w K mg base CX k f fd ps sp :=
  ⟨F.len, fun A outer s H args us vs Q E hr => F.run A outer s H args us vs Q E (hr.mono h)⟩
theorem rb : defBody st_frames = refB "count" "MOST_FRAME" "TooMany" (defBody st_frames).tail ⟨69,7,69,12⟩ ⟨69,15,69,25⟩ ⟨69,7,69,25⟩ ⟨70,14,70,21⟩ ⟨70,22,70,32⟩ ⟨70,14,70,33⟩ ⟨70,8,70,33⟩ ⟨69,4,70,33⟩ := by kernel_rfl
def qs (i : Nat) : Pos := [⟨221,4,221,9⟩, ⟨221,12,221,16⟩, ⟨221,4,221,16⟩, ⟨223,8,223,14⟩, ⟨223,15,223,20⟩, ⟨223,8,223,21⟩, ⟨223,8,223,21⟩, ⟨224,11,224,20⟩, ⟨225,8,225,13⟩, ⟨225,16,225,17⟩, ⟨225,8,225,17⟩, ⟨224,4,225,17⟩, ⟨222,4,225,17⟩, ⟨226,11,226,21⟩, ⟨226,22,226,27⟩, ⟨226,29,226,36⟩, ⟨226,11,226,37⟩, ⟨226,47,226,57⟩, ⟨226,58,226,63⟩, ⟨226,65,226,75⟩, ⟨226,47,226,76⟩, ⟨226,43,226,76⟩, ⟨226,83,226,88⟩, ⟨226,83,226,94⟩, ⟨226,98,226,99⟩, ⟨226,83,226,99⟩, ⟨226,11,226,100⟩, ⟨226,4,226,100⟩].getD i ⟨0, 0, 0, 0⟩
theorem tb : defBody st__law_is_refused = tellB "count" "error" "e" "frames" "FlagError" "TooMany" "NotPattern" "limit" 4 qs 0 0 := by kernel_rfl
theorem ib : defBody initS = initB "limit" "limit" "self" "too many" ⟨13,8,13,13⟩ ⟨13,8,13,15⟩ ⟨13,8,13,24⟩ ⟨13,25,13,35⟩ ⟨13,8,13,36⟩ ⟨13,8,13,36⟩ ⟨14,8,14,12⟩ ⟨14,8,14,18⟩ ⟨14,21,14,26⟩ ⟨14,8,14,26⟩ 0 := by kernel_rfl
def arS : Arg := ((defArgs initS).posonlyargs ++ (defArgs initS).args).headD default
section
variable {w : World} {K : PySem.W.Frag} {mg : Str → Option Value} {base : Heap} {B : Bd} {wf : Nat}
theorem xcs {D : Addr} (h : excCB K D = true) : ExcC K D ∧ XfC K D := by
  unfold excCB at h
  simp only [Bool.and_eq_true, decide_eq_true_eq] at h
  obtain ⟨⟨⟨⟨⟨⟨⟨h1, h2⟩, h3⟩, h4⟩, h5⟩, h6⟩, h7⟩, h8⟩ := h
  exact ⟨⟨h1, h2, h3, h4, h5, h6, h7, h8⟩, ⟨h1, h2, h3, h4⟩⟩
theorem df__law_is_refused (hK : B.K = K) (X : K.In base) (G : base.Ns mainGlobals mg) (c : SaysM fa dfn ex ms mv K) : ∃ g fd ps, DefOk P w K mg base B T wf fnN cs gs 20 g fd ps := by
  obtain ⟨c, hex, hmv⟩ := c.d
  unfold ex at hex
  simp only [Bool.and_eq_true, decide_eq_true_eq] at hex
  obtain ⟨⟨⟨⟨⟨x0, x1⟩, x2⟩, x3⟩, x4⟩, x5⟩ := hex
  have hm : mObs K ("TooMany", "__init__") = some (defArgs initS, .stmts (defBody initS), defScope initS) := List.head_eq_of_cons_eq hmv
  rw [ib] at hm
  obtain ⟨fdI, T1, iC, tI, hb⟩ := init_ok (ar := arS) x1 hm (by decide) (by kernel_rfl) (by kernel_rfl) (by decide +kernel) (by decide +kernel) (by decide +kernel) (by decide +kernel) (by decide +kernel) (by decide +kernel) (by decide +kernel) (by decide +kernel) (by decide) (by decide) (by decide) (by decide +kernel)
    fun _ _ _ _ _ _ _ _ _ _ _ _ => rfl
  obtain ⟨fdf, Ff⟩ := c.def_ 5 (d := dOf "frames" st_frames) rfl
  obtain ⟨fd, F⟩ := c.def_ 20 (d := dOf "_law_is_refused" st__law_is_refused) rfl
  have hf := He.glo_ok X G (c.fact 5 (f := .glo "frames") rfl)
  have bf : L2.Binds K fdf ["count"] [] := Ff.bindsN fun _ _ _ _ _ _ us hl => match us, hl with | [_], _ => rfl
  have kf := Ff.kp
  have Ff2 : FunD K "frames" "frames" (defArgs st_frames) (refB "count" "MOST_FRAME" "TooMany" (defBody st_frames).tail ⟨69,7,69,12⟩ ⟨69,15,69,25⟩ ⟨69,7,69,25⟩ ⟨70,14,70,21⟩ ⟨70,22,70,32⟩ ⟨70,14,70,33⟩ ⟨70,8,70,33⟩ ⟨69,4,70,33⟩) (defScope st_frames) [] [] (He.ga K "frames") fdf := by
    rw [← rb]
    exact Ff
  have F2 : FunD K "_law_is_refused" "_law_is_refused" (defArgs st__law_is_refused) (tellB "count" "error" "e" "frames" "FlagError" "TooMany" "NotPattern" "limit" 4 qs 0 0) (defScope st__law_is_refused) [] [] (He.ga K "_law_is_refused") fd := by
    rw [← tb]
    exact F
  have mf := He.free_ok X G (c.fact 42 (f := .free "super") rfl)
  have me := He.glo_ok X G (c.fact 24 (f := .glo "TooMany") rfl)
  have R1 : FnOk P w K mg base (L2.CX P w) 2 _ fdf ["count"] (spR (He.ga K "TooMany") "limit" 4) := refuses (k := 0) Ff2 sc_frames rfl (by decide +kernel) (by decide) (by decide +kernel) (by decide +kernel) (He.int_ok X G (c.fact 43 (f := .int "MOST_FRAME" 4) rfl)) me mf T1 iC tI hb
  have xx := xcs x2
  have R2 : FnOk P w K mg base (L2.CX P w) 3 _ fd ["count"] (fnSp B refF) := tells (k := 2) hK F2 sc__law_is_refused (by decide +kernel) (by decide +kernel) (by decide +kernel) (by decide) (by decide) (by decide) (by decide +kernel) (by decide +kernel) (by decide +kernel) (by decide +kernel) (by decide +kernel)
    hf kf bf R1 (He.glo_ok X G (c.fact 22 (f := .glo "FlagError") rfl)) me (He.glo_ok X G (c.fact 23 (f := .glo "NotPattern") rfl)) (He.free_ok X G (c.fact 39 (f := .free "isinstance") rfl)) x3 xx.1 xx.2 T1.fld x4 x5
  refine ⟨_, fd, ["count"], ⟨He.glo_ok X G (c.fact 20 (f := .glo "_law_is_refused") rfl), F.kp, F.bindsN fun _ _ _ _ _ _ us hl => match us, hl with | [_], _ => rfl, .inr fun n _ => ?_⟩⟩
  by_cases hn : 2 ≤ n
  · have e : callN T wf (n + 1) 20 = refF := by
      funext vs h
      show (if 2 ≤ n then refF vs h else .no) = _
      rw [if_pos hn]
    rw [e]
    exact FnOk.up R2 (Nat.succ_le_succ hn)
  · refine no_fn fun vs h => ?_
    show (if 2 ≤ n then refF vs h else .no) = _
    rw [if_neg hn]
end
end Lw
end

section
set_option Elab.async false
set_option linter.all false
set_option maxRecDepth 100000
set_option maxHeartbeats 0
namespace Lw
open PySem PySem.Spec PyProof.Rows L2 FF
section
variable {w : World} {K : PySem.W.Frag} {mg : Str → Option Value} {base : Heap} {B : Bd} {wf : Nat}
theorem dall (hK : B.K = K) (X : K.In base) (G : base.Ns mainGlobals mg) (c : SaysM fa dfn ex ms mv K) (f : Nat) (hf : cs.contains f = true) : ∃ g fd ps, DefOk P w K mg base B T wf fnN cs gs f g fd ps := by
  have hl : f < 22 := by simpa [cs] using hf
  exact match f, hl with
    | 0, _ => df_reached X G c.d.1
    | 1, _ => df_renumbered X G c.d.1
    | 2, _ => df_walk X G c.d.1
    | 3, _ => df_least X G c.d.1
    | 4, _ => df_exchanges X G c.d.1
    | 5, _ => df_frames X G c.d.1
    | 6, _ => df__law_begun X G c.d.1
    | 7, _ => df__law_draw X G c.d.1
    | 8, _ => df__law_of X G c.d.1
    | 9, _ => df__law_put X G c.d.1
    | 10, _ => df__law_frame X G c.d.1
    | 11, _ => df__law_round X G c.d.1
    | 12, _ => df__law_is_number X G c.d.1
    | 13, _ => df__law_is_form X G c.d.1
    | 14, _ => df__law_is_pattern X G c.d.1
    | 15, _ => df__law_walk X G c.d.1
    | 16, _ => df__law_listed X G c.d.1
    | 17, _ => df__law_least X G c.d.1
    | 18, _ => df__law_ways X G c.d.1
    | 19, _ => df__law_frames X G c.d.1
    | 20, _ => df__law_is_refused hK X G c
    | 21, _ => df_law X G c.d.1
    | n + 22, h => absurd h (by omega)
theorem law_fn (hK : B.K = K) (hw : B.w = w) (hP : B.P = P) (X : K.In base) (G : base.Ns mainGlobals mg) (c : SaysM fa dfn ex ms mv K) (n : Nat) {fd : FuncData} (F : FunD K "law" "law" (defArgs st_law) (defBody st_law) (defScope st_law) [] [] (He.ga K "law") fd) :
    FnOk P w K mg base (L2.CX P w) (n + 1) (He.ga K "law") fd ["script"] (fnSp B (callN T wf (n + 1) 21)) :=
  ir_fn hK hw hP (glob X G c.d.1) (fun A hr f hf => by
    obtain ⟨g, fd, ps, h1, h2, h3, h4⟩ := tab_ok hK hw hP (glob X G c.d.1) (dall hK X G c) n f hf
    exact ⟨n, g, fd, ps, h4, hr, h1, h2, h3⟩) ⟨_, N_law, _, _, _, ir_law, rfl, F, sc_law, rd_law, ok_law⟩
end
theorem walk_ofW {l : PySem.W.OpenLaw} {n k : Nat} {q : Program} {loose : List Str} {XP : (Str → Option Value) → Heap → Prop} {YP : World → Heap → Prop} {d : DefRec} {CX : World → CXT} {x : Str}
    (hn : l.most = some n) (hn2 : n ≤ sizeLine) (hdf : d.params.defaults = []) (hr : Room k callerA)
    (F : ∀ (w : World) (mg : Str → Option Value) (fa : Addr) (h : Heap), YP w h → h.Ns mainGlobals mg → mg d.name = some (.ref fa) →
      ∃ (K : PySem.W.Frag) (fd : FuncData) (sp : Sp), K.In h ∧ (∀ (s : Shared) (u : Value), BindsTo s fd ⟨[u], []⟩ [(x, u)]) ∧
        (∀ (H : Hp) (a : Addr) (ns : List Int), ns.length ≤ n → Only H → SqL K H a (ns.map V.int) → sp [.ref a] H (fun v _ => v = .bl true) fun _ _ _ => False) ∧
        ∀ base : Heap, K.In base → base.Ns mainGlobals mg → FnOk l.prog w K mg base (CX w) k fa fd [x] sp)
    (hCX : ∀ (w : World) (H : Hp) (s : Shared) (e : Value) (s' : Shared), CX w [] H s (fun _ _ _ => False) e s' → False) :
    PySem.W.WalkO q loose XP YP l.row.toRowW d [] (fun f vs => PySem.call f vs) := by
  refine Att.attach_call hn hdf fun w s₀ s₁ mg mb fa o pm cd doc a vs ns G Y ho hd hcd hmg hobj hints hlen hg => ?_
  obtain ⟨K, fd, sp, KX, hb, hsp, hF⟩ := F w mg fa _ Y G.T.g hmg
  exact law_call KX G.T.g G.T.b G.T.builtins G.T.nolimit hg hobj hints (Nat.le_trans hlen hn2) hr hF hb (fun H hO hS => hsp H a ns hlen hO hS) fun H e s' => hCX w H s₁ e s'
theorem look_mem {β : Type} {a : Nat} {b : β} : ∀ {l : List (Nat × β)}, l.lookup a = some b → (a, b) ∈ l
  | [], h => by cases h
  | (c, d) :: l, h => by
    rw [List.lookup_cons] at h
    split at h
    · rename_i q
      cases h
      rw [beq_iff_eq.mp q]
      exact List.mem_cons_self
    · exact List.mem_cons_of_mem _ (look_mem h)
def lev : Nat := 40
def wf : Nat := 100000
end Lw
open PySem PySem.W PySem.Calls PyProof.Rows
theorem holds_of (plain : ∀ ns : List Int, ns.length ≤ 63 → ∃ h', FF.callN Lw.T Lw.wf Lw.lev 21 [.ref 0] [.fro (ns.map .int)] = .ok (.bl true) h') : PySem.Challenge.rw_flagfloors_k90_whole_frames.Holds := by
  w_on; o_law
  refine HandSHeadRun.head_any (r := OpenLaw.row PySem.Challenge.rw_flagfloors_k90_whole_frames) (q := view (OpenLaw.row PySem.Challenge.rw_flagfloors_k90_whole_frames).prog [30]) (H := Lw.hk) (ob := Lw.ob) (M := 6000) (loose := Lw.loose) (d := HandSHeadRun.topDef (OpenLaw.row PySem.Challenge.rw_flagfloors_k90_whole_frames).prog 30) (kwd := []) Lw.ob_eq
    (by kernel_rfl) (fun s => by kernel_rfl) Lw.run (by kernel_rfl) (by kernel_rfl) (by kernel_rfl) (by rfl) (by first | assumption | decide +kernel) (by decide +kernel) ⟨rfl, rfl, rfl, rfl, rfl, by decide +kernel⟩ ?hw ?hc
  case hw => w_witness2
  case hc =>
    refine Lw.walk_ofW (l := PySem.Challenge.rw_flagfloors_k90_whole_frames) (n := 63) (k := Lw.lev) (x := "script") (CX := fun w => L2.CX Lw.P w) rfl (by decide) (by kernel_rfl) ⟨rfl, by decide, by decide⟩ ?F ?C
    case C => exact fun w H s e s' ⟨_, _, _, _, _, _, _, _, _, _, _, _, z⟩ => z
    case F =>
      intro w mg fa h Y G hmg0
      obtain ⟨K, KX, c⟩ := Y
      have hmg : mg ("law" : PySem.Str) = some (.ref fa) := by
        have e : (HandSHeadRun.topDef (OpenLaw.row PySem.Challenge.rw_flagfloors_k90_whole_frames).prog 30).name = ("law" : PySem.Str) := by kernel_rfl
        rw [← e]
        exact hmg0
      obtain ⟨fd, F⟩ := c.d.1.def_ 21 (d := Lw.dOf "law" Lw.st_law) rfl
      have e := hmg.symm.trans (He.glo_ok KX G (c.d.1.fact 21 (f := .glo "law") rfl))
      cases e
      let B : FF.Bd := ⟨K, w, Lw.P, fun _ _ _ _ => False⟩
      have hnl : Lw.noList K = true := by
        have hx := c.d.2.1
        unfold Lw.ex at hx
        simp only [Bool.and_eq_true] at hx
        exact hx.1.1.1.1.1
      refine ⟨K, fd, FF.fnSp B (FF.callN Lw.T Lw.wf Lw.lev 21), KX, fun s u => (L2.FunD.bindsA (ps := ["script"]) F fun _ _ _ _ _ _ us hl => match us, hl with | [_], _ => rfl) s [u] rfl, fun H a ns hl hO hS => ?_, fun base X G' => Lw.law_fn (w := w) (B := B) rfl rfl rfl X G' c 39 F⟩
      obtain ⟨h', e⟩ := plain ns hl
      have hfr : ∃ o, H a = some (.frz o (.lst (ns.map L2.V.int))) := by
        rcases hS with (z | z) | ⟨o, its, n, z, cc, _⟩
        · rcases hO a with y | ⟨o, xs, y⟩
          · rw [y] at z; cases z
          · rw [y] at z; cases z
        · exact z
        · exfalso
          have := List.all_eq_true.mp hnl _ (Lw.look_mem z)
          simp [cc] at this
      obtain ⟨o, ho⟩ := hfr
      refine ⟨[a], [.fro (ns.map .int)], [.ref 0], ⟨rfl, by simp, fun n ob b e1 e2 => ?_⟩, ?_, ?_⟩
      · cases n with
        | zero =>
          cases e1
          cases e2
          refine ⟨o, _, ho, ?_⟩
          have := FF.RpL.ints (K := K) (ρ := [a]) (H := H) (fun i => ns.getD i 0) (List.range ns.length)
          have em : ∀ {β : Type} (f : Int → β), (List.range ns.length).map (fun i => f (ns.getD i 0)) = ns.map f := fun f => by
            apply List.ext_getElem
            · simp
            · intro i h1 h2
              have hi : i < ns.length := by simpa using h2
              simp [List.getD_eq_getElem?_getD, hi]
          rw [em, em] at this
          exact this
        | succ n => simp at e1
      · simp only [FF.RpL, FF.Rp]
        exact ⟨.ref a, [], rfl, ⟨a, rfl, rfl⟩, rfl⟩
      · rw [e]
        intro ρ' H' x _ _ hx
        simpa only [FF.Rp] using hx
end

section
set_option Elab.async false
set_option linter.all false
set_option maxRecDepth 100000
set_option maxHeartbeats 4000000
/-! PL1: plain reasoning on the small machine: loops over the items that stand. -/
namespace FF
open PySem

/-- the items that a walk gives over a heap that does not touch them -/
def It.list (h : Hh) : It → Option (List Dv)
  | .seq s => s.look h
  | .ints lo c n => some ((List.range n).map fun (i : Nat) => Dv.int (lo + (i : Int) * c))
  | .enum s => (s.look h).map fun xs => xs.zipIdx.map fun p => .tup [.int (p.2 : Nat), p.1]
  | .zip s t => match s.look h, t.look h with
    | some xs, some ys => some ((xs.zip ys).map fun p => .tup [p.1, p.2])
    | _, _ => none
theorem It.at_list {it : It} {h : Hh} {xs : List Dv} (e : it.list h = some xs) (i : Nat) : it.at h i = some xs[i]? := by
  match it, e with
  | .seq s, e =>
    simp only [It.list] at e
    simp only [It.at, e, Option.map_some]
  | .ints lo c n, e =>
    simp only [It.list, Option.some.injEq] at e
    subst e
    simp only [It.at, List.getElem?_map, List.getElem?_range']
    by_cases h : i < n
    · simp [h, List.getElem?_range h]
    · rw [if_neg h, List.getElem?_eq_none (by simpa using h)]
      rfl
  | .enum s, e =>
    simp only [It.list] at e
    obtain ⟨ys, e1, e2⟩ := Option.map_eq_some_iff.mp e
    subst e2
    simp only [It.at, e1, Option.map_some, List.getElem?_map, List.getElem?_zipIdx]
    cases ys[i]? with
    | none => rfl
    | some y => simp
  | .zip s t, e =>
    simp only [It.list] at e
    cases e1 : s.look h with
    | none => simp only [e1] at e; cases e
    | some ys =>
      cases e2 : t.look h with
      | none => simp only [e1, e2] at e; cases e
      | some zs =>
        simp only [e1, e2, Option.some.injEq] at e
        subst e
        simp only [It.at, e1, e2, List.getElem?_map, List.zip, List.getElem?_zipWith]
        cases ys[i]? <;> cases zs[i]? <;> rfl
/-- a loop over items -/
def forF (step : Dv → Sg → Hh → RS) : List Dv → Sg → Hh → RS
  | [], σ, h => .nx σ h
  | v :: r, σ, h => match step v σ h with
      | .nx σ' h' => forF step r σ' h'
      | .ct σ' h' => forF step r σ' h'
      | .bk σ' h' => .nx σ' h'
      | .rt v h' => .rt v h'
      | .ex x σ' h' => .ex x σ' h'
      | .no => .no
/-- what a loop's turn hands on -/
def goesOn : RS → Option (Sg × Hh)
  | .nx σ h => some (σ, h)
  | .ct σ h => some (σ, h)
  | _ => none
/-- P: what keeps the items -/
theorem forL_list {step : Dv → Sg → Hh → RS} {it : It} {xs : List Dv} (P : Hh → Prop) (hP : ∀ h, P h → it.list h = some xs) (hs : ∀ (i : Nat) (σ : Sg) (h : Hh) (v : Dv) (σ' : Sg) (h' : Hh), P h → xs[i]? = some v → goesOn (step v σ h) = some (σ', h') → P h') :
    ∀ (fuel i : Nat) (σ : Sg) (h : Hh), P h → xs.length - i < fuel → i ≤ xs.length → forL step it fuel i σ h = forF step (xs.drop i) σ h
  | 0, i, σ, h, hp, hf, hi => by omega
  | n + 1, i, σ, h, hp, hf, hi => by
    unfold forL
    rw [It.at_list (hP h hp)]
    cases e : xs[i]? with
    | none =>
      have : xs.length ≤ i := List.getElem?_eq_none_iff.mp e
      rw [List.drop_eq_nil_of_le this]
      rfl
    | some v =>
      have hlt := (List.getElem?_eq_some_iff.mp e).1
      have hv := (List.getElem?_eq_some_iff.mp e).2
      rw [List.drop_eq_getElem_cons hlt, hv]
      simp only [forF]
      cases q : step v σ h with
      | nx σ' h' => exact forL_list P hP hs n (i + 1) σ' h' (hs i σ h v σ' h' hp e (by rw [q]; rfl)) (by omega) hlt
      | ct σ' h' => exact forL_list P hP hs n (i + 1) σ' h' (hs i σ h v σ' h' hp e (by rw [q]; rfl)) (by omega) hlt
      | bk σ' h' => rfl
      | rt u h' => rfl
      | ex x σ' h' => rfl
      | no => rfl
/-- a comprehension over items -/
def lcF (step : Dv → Hh → R (Option Dv)) : List Dv → List Dv → Hh → R (List Dv)
  | [], acc, h => .ok acc.reverse h
  | v :: r, acc, h => match step v h with
      | .ok (some y) h' => if acc.length < most then lcF step r (y :: acc) h' else .no
      | .ok none h' => lcF step r acc h'
      | _ => .no
theorem lcL_list {step : Dv → Hh → R (Option Dv)} {it : It} {xs : List Dv} (P : Hh → Prop) (hP : ∀ h, P h → it.list h = some xs) (hs : ∀ (i : Nat) (h : Hh) (v : Dv) (o : Option Dv) (h' : Hh), P h → xs[i]? = some v → step v h = .ok o h' → P h') :
    ∀ (fuel i : Nat) (acc : List Dv) (h : Hh), P h → xs.length - i < fuel → i ≤ xs.length → lcL step it fuel i acc h = lcF step (xs.drop i) acc h
  | 0, i, acc, h, hp, hf, hi => by omega
  | n + 1, i, acc, h, hp, hf, hi => by
    unfold lcL
    rw [It.at_list (hP h hp)]
    cases e : xs[i]? with
    | none =>
      have : xs.length ≤ i := List.getElem?_eq_none_iff.mp e
      rw [List.drop_eq_nil_of_le this]
      rfl
    | some v =>
      have hlt := (List.getElem?_eq_some_iff.mp e).1
      have hv := (List.getElem?_eq_some_iff.mp e).2
      rw [List.drop_eq_getElem_cons hlt, hv]
      simp only [lcF]
      cases q : step v h with
      | ok o h' =>
        have := hs i h v o h' hp e q
        cases o with
        | none => exact lcL_list P hP hs n (i + 1) acc h' this (by omega) hlt
        | some y =>
          simp only
          split
          · exact lcL_list P hP hs n (i + 1) (y :: acc) h' this (by omega) hlt
          · rfl
      | ex x h' => rfl
      | no => rfl
end FF
end

section
set_option Elab.async false
set_option linter.all false
set_option maxRecDepth 100000
set_option maxHeartbeats 4000000
/-! PL2: what a run of the small machine comes to: wishes about its end, rules. -/
namespace FF
open PySem

/-- an equation that is not taken for one that holds by unfolding -/
theorem nr {α : Sort _} {a b : α} (h : a = b) : a = b := h
/-- it ends well, and so -/
@[irreducible] def dnR {α : Type} (r : R α) (Q : α → Hh → Prop) : Prop := match r with
  | .ok a h => Q a h
  | _ => False
section
variable {α β : Type} {a : α} {h : Hh} {Q Q' : α → Hh → Prop}
@[simp] theorem dnR_ok : dnR (.ok a h) Q = Q a h := by with_unfolding_all exact nr rfl
@[simp] theorem dnR_no : dnR (.no : R α) Q = False := by with_unfolding_all exact nr rfl
@[simp] theorem dnR_ex {x : Ex} : dnR (.ex x h : R α) Q = False := by with_unfolding_all exact nr rfl
theorem dnR_bind {r : R α} {f : α → Hh → R β} {Q : β → Hh → Prop} : dnR (r.bind f) Q = dnR r fun a h => dnR (f a h) Q := by with_unfolding_all
  cases r <;> rfl
theorem dnR_of {o : Option α} : dnR (R.of o h) Q = ∃ a, o = some a ∧ Q a h := by with_unfolding_all
  cases o with
  | none => simp [R.of]
  | some b => simp [R.of]
theorem dnR.imp {r : R α} (x : dnR r Q) (k : ∀ a h, Q a h → Q' a h) : dnR r Q' := by with_unfolding_all
  cases r with
  | ok a h => exact k _ _ x
  | ex => exact x
  | no => exact x
theorem dnR_iff {r : R α} : dnR r Q ↔ ∃ a h, r = .ok a h ∧ Q a h := by with_unfolding_all
  cases r with
  | ok a h => exact ⟨fun x => ⟨a, h, rfl, x⟩, fun ⟨_, _, e, x⟩ => by cases e; exact x⟩
  | ex => exact ⟨fun x => x.elim, fun ⟨_, _, e, _⟩ => by cases e⟩
  | no => exact ⟨fun x => x.elim, fun ⟨_, _, e, _⟩ => by cases e⟩
end
/-- the ends of a statement -/
structure En where
  nx : Sg → Hh → Prop
  rt : Dv → Hh → Prop
  bk : Sg → Hh → Prop
  ct : Sg → Hh → Prop
@[irreducible] def dnS (r : RS) (D : En) : Prop := match r with
  | .nx σ h => D.nx σ h
  | .rt v h => D.rt v h
  | .bk σ h => D.bk σ h
  | .ct σ h => D.ct σ h
  | _ => False
section
variable {D : En} {σ : Sg} {h : Hh} {F : Fx}
@[simp] theorem dnS_nx : dnS (.nx σ h) D = D.nx σ h := by with_unfolding_all exact nr rfl
@[simp] theorem dnS_rt {v : Dv} : dnS (.rt v h) D = D.rt v h := by with_unfolding_all exact nr rfl
@[simp] theorem dnS_bk : dnS (.bk σ h) D = D.bk σ h := by with_unfolding_all exact nr rfl
@[simp] theorem dnS_ct : dnS (.ct σ h) D = D.ct σ h := by with_unfolding_all exact nr rfl
@[simp] theorem dnS_no : dnS .no D = False := by with_unfolding_all exact nr rfl
theorem dnS_toS {α : Type} {r : R α} {f : α → Hh → RS} : dnS (r.toS σ f) D = dnR r fun a h => dnS (f a h) D := by with_unfolding_all
  cases r <;> rfl
theorem dnR_noX {α : Type} {r : R α} {Q : α → Hh → Prop} : dnR r.noX Q = dnR r Q := by with_unfolding_all
  cases r <;> rfl
theorem dnSL_nil : dnS (evSL F .nil σ h) D = D.nx σ h := by with_unfolding_all exact nr rfl
theorem dnSL_cons {s : S} {ss : SL} : dnS (evSL F (.cons s ss) σ h) D = dnS (evS F s σ h) { D with nx := fun σ h => dnS (evSL F ss σ h) D } := by with_unfolding_all
  simp only [evSL]
  cases evS F s σ h <;> rfl
theorem dnS.imp {r : RS} {D' : En} (x : dnS r D) (k1 : ∀ σ h, D.nx σ h → D'.nx σ h) (k2 : ∀ v h, D.rt v h → D'.rt v h) (k3 : ∀ σ h, D.bk σ h → D'.bk σ h) (k4 : ∀ σ h, D.ct σ h → D'.ct σ h) : dnS r D' := by with_unfolding_all
  cases r with
  | nx σ h => exact k1 _ _ x
  | rt v h => exact k2 _ _ x
  | bk σ h => exact k3 _ _ x
  | ct σ h => exact k4 _ _ x
  | ex => exact x
  | no => exact x
theorem dnR_toR {r : RS} {Q : Dv → Hh → Prop} : dnR r.toR Q = dnS r ⟨fun _ h => Q .non h, Q, fun _ _ => False, fun _ _ => False⟩ := by with_unfolding_all
  cases r <;> rfl

/-! ### loops -/
theorem forL_inv {step : Dv → Sg → Hh → RS} {it : It} {xs : List Dv} (I : Nat → Sg → Hh → Prop) (hP : ∀ i σ h, I i σ h → it.list h = some xs) (hs : ∀ i σ h v, xs[i]? = some v → I i σ h → dnS (step v σ h) { D with nx := I (i + 1), ct := I (i + 1), bk := D.nx }) (he : ∀ σ h, I xs.length σ h → D.nx σ h) :
    ∀ (fuel i : Nat) (σ : Sg) (h : Hh), I i σ h → xs.length - i < fuel → i ≤ xs.length → dnS (forL step it fuel i σ h) D
  | 0, i, σ, h, hp, hf, hi => by omega
  | n + 1, i, σ, h, hp, hf, hi => by with_unfolding_all
    unfold forL
    rw [It.at_list (hP i σ h hp)]
    cases e : xs[i]? with
    | none =>
      have : xs.length ≤ i := List.getElem?_eq_none_iff.mp e
      have : i = xs.length := by omega
      subst this
      exact he σ h hp
    | some v =>
      have hlt := (List.getElem?_eq_some_iff.mp e).1
      have := hs i σ h v e hp
      simp only
      cases q : step v σ h with
      | nx σ' h' => rw [q] at this; exact forL_inv I hP hs he n (i + 1) σ' h' this (by omega) hlt
      | ct σ' h' => rw [q] at this; exact forL_inv I hP hs he n (i + 1) σ' h' this (by omega) hlt
      | bk σ' h' => rw [q] at this; exact this
      | rt u h' => rw [q] at this; exact this
      | ex x σ' h' => rw [q] at this; exact this
      | no => rw [q] at this; exact this
theorem whileL_inv {test : Sg → Hh → R Dv} {body : Sg → Hh → RS} (I : Nat → Sg → Hh → Prop)
    (hs : ∀ m σ h, I m σ h → dnR (test σ h) fun v h1 => (v = .bl false ∧ D.nx σ h1) ∨ (v = .bl true ∧ dnS (body σ h1) { D with nx := fun σ' h' => ∃ m', m' < m ∧ I m' σ' h', ct := fun σ' h' => ∃ m', m' < m ∧ I m' σ' h', bk := D.nx })) :
    ∀ (fuel m : Nat) (σ : Sg) (h : Hh), I m σ h → m < fuel → dnS (whileL test body fuel σ h) D
  | 0, m, σ, h, hp, hf => by omega
  | n + 1, m, σ, h, hp, hf => by with_unfolding_all
    unfold whileL
    have t := hs m σ h hp
    cases e : test σ h with
    | no => rw [e] at t; exact t.elim
    | ex x h1 => rw [e] at t; exact t.elim
    | ok v h1 =>
      rw [e] at t
      rw [dnR_ok] at t
      rcases t with ⟨rfl, t⟩ | ⟨rfl, t⟩
      · exact t
      · simp only
        cases q : body σ h1 with
        | nx σ' h' =>
          rw [q, dnS_nx] at t
          obtain ⟨m', hm, hi⟩ := t
          exact whileL_inv I hs n m' σ' h' hi (by omega)
        | ct σ' h' =>
          rw [q, dnS_ct] at t
          obtain ⟨m', hm, hi⟩ := t
          exact whileL_inv I hs n m' σ' h' hi (by omega)
        | bk σ' h' => rw [q] at t; exact t
        | rt u h' => rw [q] at t; exact t
        | ex x σ' h' => rw [q] at t; exact t
        | no => rw [q] at t; exact t
/-- a comprehension: I by the turn, the items so far -/
theorem lcL_inv {step : Dv → Hh → R (Option Dv)} {it : It} {xs : List Dv} {Q : List Dv → Hh → Prop} (I : Nat → List Dv → Hh → Prop) (hP : ∀ i ys h, I i ys h → it.list h = some xs) (hm : xs.length ≤ most)
    (hs : ∀ i ys h v, xs[i]? = some v → I i ys h → dnR (step v h) fun o h' => match o with
      | some y => I (i + 1) (ys ++ [y]) h'
      | none => I (i + 1) ys h') (he : ∀ ys h, I xs.length ys h → Q ys h) :
    ∀ (fuel i : Nat) (acc : List Dv) (h : Hh), I i acc.reverse h → acc.length ≤ i → xs.length - i < fuel → i ≤ xs.length → dnR (lcL step it fuel i acc h) Q
  | 0, i, acc, h, hp, ha, hf, hi => by omega
  | n + 1, i, acc, h, hp, ha, hf, hi => by with_unfolding_all
    unfold lcL
    rw [It.at_list (hP i _ h hp)]
    cases e : xs[i]? with
    | none =>
      have : xs.length ≤ i := List.getElem?_eq_none_iff.mp e
      have : i = xs.length := by omega
      subst this
      exact he _ h hp
    | some v =>
      have hlt := (List.getElem?_eq_some_iff.mp e).1
      have := hs i _ h v e hp
      simp only
      cases q : step v h with
      | ok o h' =>
        rw [q] at this
        cases o with
        | none => exact lcL_inv I hP hm hs he n (i + 1) acc h' this (by omega) (by omega) hlt
        | some y =>
          simp only
          rw [if_pos (by omega)]
          exact lcL_inv I hP hm hs he n (i + 1) (y :: acc) h' (by rw [List.reverse_cons]; exact this) (by rw [List.length_cons]; omega) (by omega) hlt
      | ex x h' => rw [q] at this; exact this
      | no => rw [q] at this; exact this

/-! ### statements and expressions, unfolded -/
theorem dn_asg {g : G} {e : E} {p : Pq} : dnS (evS F (.asg g e p) σ h) D = dnR (evE F e σ h) fun v h1 => dnR (evG F g v σ h1) fun σ1 h2 => D.nx σ1 h2 := by with_unfolding_all
  simp only [evS, dnS_toS, dnR_noX, dnS_nx]
theorem dn_par {i j : Nat} {px py : Pq} {kt : Nat} {pt : Pq} {a b : E} {k2 : Nat} {pt2 p : Pq} : dnS (evS F (.par i j px py kt pt a b k2 pt2 p) σ h) D = dnR (evE F a σ h) fun x h1 => dnR (evE F b σ h1) fun y h2 => D.nx ((σ.set i (some x)).set j (some y)) h2 := by with_unfolding_all
  simp only [evS, dnS_toS, dnS_nx]
theorem dn_par3 {i j k : Nat} {px py pz : Pq} {kt : Nat} {pt : Pq} {a b d : E} {k2 : Nat} {pt2 p : Pq} : dnS (evS F (.par3 i j k px py pz kt pt a b d k2 pt2 p) σ h) D = dnR (evE F a σ h) fun x h1 => dnR (evE F b σ h1) fun y h2 => dnR (evE F d σ h2) fun z h3 => D.nx (((σ.set i (some x)).set j (some y)).set k (some z)) h3 := by with_unfolding_all
  simp only [evS, dnS_toS, dnS_nx]
theorem dn_setlc {i : Nat} {py : Pq} {own : List (Str × Nat)} {sc : Scope} {tg : G} {it : I} {ifs : EL} {elt : E} {q p : Pq} : dnS (evS F (.setlc i py own sc tg it ifs elt q p) σ h) D = dnR (evE F (.lc own sc tg it ifs elt q) σ h) fun v h1 => D.nx (σ.set i (some v)) h1 := by with_unfolding_all
  simp only [evS, dnS_toS, dnS_nx]
theorem dn_exp {e : E} {p : Pq} : dnS (evS F (.exp e p) σ h) D = dnR (evE F e σ h) fun _ h1 => D.nx σ h1 := by with_unfolding_all
  simp only [evS, dnS_toS, dnS_nx]
theorem dn_ret {e : E} {p : Pq} : dnS (evS F (.ret e p) σ h) D = dnR (evE F e σ h) fun v h1 => D.rt v h1 := by with_unfolding_all
  simp only [evS, dnS_toS, dnS_rt]
theorem dn_if {t : E} {a b : SL} {p : Pq} : dnS (evS F (.ifs t a b p) σ h) D = dnR (evE F t σ h) fun v h1 => (v = .bl true ∧ dnS (evSL F a σ h1) D) ∨ (v = .bl false ∧ dnS (evSL F b σ h1) D) := by with_unfolding_all
  simp only [evS, dnS_toS]
  congr 1
  funext v h1
  cases v with
  | bl k => cases k <;> simp
  | _ => simp
theorem dn_for {g : G} {it : I} {b : SL} {p : Pq} (J : It → Hh → Prop) (hi : dnR (evI F it σ h) J) (xs : It → Hh → List Dv) (I : It → Nat → Sg → Hh → Prop) (h0 : ∀ j h1, J j h1 → I j 0 σ h1 ∧ (xs j h1).length < F.wf) : True := trivial
end
end FF
end

section
set_option Elab.async false
set_option linter.all false
set_option maxRecDepth 100000
set_option maxHeartbeats 4000000
/-! PL3: what a run owns of the heap; loops that follow a plain program. -/
namespace FF
open PySem

/-! ### places counted from either end -/
def gA {α : Type} (xs : List α) (i : Int) : Option α := (ixA xs.length i).bind fun j => xs[j]?
def sA {α : Type} (xs : List α) (i : Int) (v : α) : Option (List α) := (ixA xs.length i).map fun j => xs.set j v
theorem at0_map {α : Type} (g : α → Dv) (xs : List α) (i : Int) : at0 (xs.map g) i = (gA xs i).map g := by with_unfolding_all
  unfold at0 gA
  rw [List.length_map]
  cases ixA xs.length i with
  | none => rfl
  | some j => simp
def iT (xs : List Int) : Dv := .tup (xs.map .int)
def pT (p : List (List Int)) : Dv := .tup (p.map iT)

/-! ### what is owned -/
def Own (h0 h : Hh) (l : List (Nat × Ob)) : Prop := h0 <+: h ∧ (∀ p ∈ l, h0.length ≤ p.1 ∧ h[p.1]? = some p.2) ∧ (l.map (·.1)).Nodup
namespace Own
variable {h0 h h' : Hh} {l : List (Nat × Ob)} {a : Nat} {x y : Ob}
theorem nil (h : Hh) : Own h h [] := ⟨List.prefix_refl _, by simp, by simp⟩
theorem pre (o : Own h0 h l) : h0 <+: h := o.1
theorem at_ (o : Own h0 h l) (i : Nat) (e : l[i]? = some (a, x)) : h[a]? = some x := (o.2.1 _ (List.mem_of_getElem? e)).2
theorem lt (o : Own h0 h l) (i : Nat) (e : l[i]? = some (a, x)) : a < h.length := (List.getElem?_eq_some_iff.mp (o.at_ i e)).1
theorem base (o : Own h0 h l) (e : h0[a]? = some x) : h[a]? = some x := by with_unfolding_all
  obtain ⟨g, rfl⟩ := o.1
  rw [List.getElem?_append_left (List.getElem?_eq_some_iff.mp e).1]
  exact e
theorem ext (o : Own h0 h l) (p : h <+: h') : Own h0 h' l := by with_unfolding_all
  obtain ⟨g, rfl⟩ := p
  refine ⟨o.1.trans (List.prefix_append _ _), fun q m => ⟨(o.2.1 q m).1, ?_⟩, o.2.2⟩
  have := (o.2.1 q m).2
  rw [List.getElem?_append_left (List.getElem?_eq_some_iff.mp this).1]
  exact this
theorem garb (o : Own h0 h l) (g : Hh) : Own h0 (h ++ g) l := o.ext (List.prefix_append _ _)
theorem alloc (o : Own h0 h l) (x : Ob) : Own h0 (h ++ [x]) ((h.length, x) :: l) := by with_unfolding_all
  have q := o.garb [x]
  refine ⟨q.1, ?_, ?_⟩
  · intro p m
    rcases List.mem_cons.mp m with rfl | m
    · exact ⟨o.1.length_le, by simp⟩
    · exact q.2.1 p m
  · rw [List.map_cons, List.nodup_cons]
    refine ⟨fun m => ?_, o.2.2⟩
    obtain ⟨p, mp, e⟩ := List.mem_map.mp m
    have := (o.2.1 p mp).2
    have := (List.getElem?_eq_some_iff.mp this).1
    omega
theorem set (o : Own h0 h l) (i : Nat) (e : l[i]? = some (a, x)) (y : Ob) : Own h0 (h.set a y) (l.set i (a, y)) := by with_unfolding_all
  have lt := (List.getElem?_eq_some_iff.mp e).1
  have ea := (List.getElem?_eq_some_iff.mp e).2
  have hm : (l.set i (a, y)).map (·.1) = l.map (·.1) := by
    apply List.ext_getElem?
    intro j
    rw [List.getElem?_map, List.getElem?_map, List.getElem?_set]
    by_cases hj : i = j
    · subst hj
      rw [if_pos rfl, if_pos lt, e]
      rfl
    · rw [if_neg hj]
  refine ⟨?_, ?_, by rw [hm]; exact o.2.2⟩
  · obtain ⟨g, rfl⟩ := o.1
    have := (o.2.1 _ (List.mem_of_getElem? e)).1
    rw [List.set_append_right _ _ this]
    exact List.prefix_append _ _
  · intro p m
    obtain ⟨j, hj⟩ := List.mem_iff_getElem?.mp m
    rw [List.getElem?_set] at hj
    by_cases hij : i = j
    · subst hij
      rw [if_pos rfl, if_pos lt] at hj
      cases hj
      exact ⟨(o.2.1 _ (List.mem_of_getElem? e)).1, by rw [List.getElem?_set, if_pos rfl, if_pos (o.lt i e)]⟩
    · rw [if_neg hij] at hj
      refine ⟨(o.2.1 _ (List.mem_of_getElem? hj)).1, ?_⟩
      rw [List.getElem?_set, if_neg, (o.2.1 _ (List.mem_of_getElem? hj)).2]
      intro hap
      apply hij
      have h1 : (l.map (·.1))[i]? = some a := by rw [List.getElem?_map, e]; rfl
      have h2 : (l.map (·.1))[j]? = some p.1 := by rw [List.getElem?_map, hj]; rfl
      have n := o.2.2
      rw [← hap] at h2
      have i1 := List.getElem?_eq_some_iff.mp h1
      have i2 := List.getElem?_eq_some_iff.mp h2
      have ee := i1.2.trans i2.2.symm
      rcases Nat.lt_trichotomy i j with lt | eq | gt
      · exact absurd ee (List.pairwise_iff_getElem.mp n i j i1.1 i2.1 lt)
      · exact eq
      · exact absurd ee.symm (List.pairwise_iff_getElem.mp n j i i2.1 i1.1 gt)
theorem drop (o : Own h0 h l) (l' : List (Nat × Ob)) (s : l'.Sublist l) : Own h0 h l' := ⟨o.1, fun p m => o.2.1 p (s.subset m), (s.map _).nodup o.2.2⟩
end Own

/-! ### loops that follow a plain program -/
section
variable {D : En} {S β γ : Type}
theorem forL_sim {step : Dv → Sg → Hh → RS} {it : It} (g : β → Dv) (ys : List β) (Rel : S → Sg → Hh → Prop) (f : S → β → Option S)
    (hP : ∀ s σ h, Rel s σ h → it.list h = some (ys.map g))
    (hs : ∀ s s' σ h y, y ∈ ys → Rel s σ h → f s y = some s' → dnS (step (g y) σ h) ⟨Rel s', D.rt, fun _ _ => False, Rel s'⟩)
    {fuel : Nat} {s0 s1 : S} {σ : Sg} {h : Hh} (e : ys.foldlM f s0 = some s1) (r : Rel s0 σ h) (hf : ys.length < fuel) (he : ∀ σ h, Rel s1 σ h → D.nx σ h) : dnS (forL step it fuel 0 σ h) D := by with_unfolding_all
  suffices go : ∀ (zs : List β) (i : Nat) (n : Nat) (s : S) (σ : Sg) (h : Hh), ys.drop i = zs → zs.foldlM f s = some s1 → Rel s σ h → zs.length < n → dnS (forL step it n i σ h) D from go ys 0 fuel s0 σ h rfl e r hf
  intro zs
  induction zs with
  | nil =>
    intro i n s σ h hz e r hf
    cases n with
    | zero => simp at hf
    | succ n =>
      unfold forL
      rw [It.at_list (hP s σ h r)]
      have : ys.length ≤ i := by simpa using hz
      rw [List.getElem?_eq_none (by simpa using this)]
      cases e
      exact he _ _ r
  | cons z zs ih =>
    intro i n s σ h hz e r hf
    cases n with
    | zero => simp at hf
    | succ n =>
      unfold forL
      rw [It.at_list (hP s σ h r)]
      have hi : ys[i]? = some z := by
        have := congrArg (fun l => l[0]?) hz
        simpa using this
      have hz' : ys.drop (i + 1) = zs := by
        have := congrArg List.tail hz
        simpa using this
      rw [List.getElem?_map, hi, Option.map_some]
      rw [List.foldlM_cons] at e
      cases ef : f s z with
      | none => rw [ef] at e; cases e
      | some s' =>
        rw [ef] at e
        have k := hs s s' σ h z (List.mem_of_getElem? hi) r ef
        simp only
        cases q : step (g z) σ h with
        | nx σ' h' => rw [q] at k; exact ih (i + 1) n s' σ' h' hz' e k (by simpa using hf)
        | ct σ' h' => rw [q] at k; exact ih (i + 1) n s' σ' h' hz' e k (by simpa using hf)
        | bk σ' h' => rw [q] at k; exact k.elim
        | rt v h' => rw [q] at k; exact k
        | ex x σ' h' => rw [q] at k; exact k
        | no => rw [q] at k; exact k
/-- a fold that may end early with an answer -/
def foldR {S β γ : Type} (f : S → β → Option (S ⊕ γ)) : List β → S → Option (S ⊕ γ)
  | [], s => some (.inl s)
  | y :: ys, s => match f s y with
    | some (.inl s') => foldR f ys s'
    | some (.inr v) => some (.inr v)
    | none => none
theorem forL_simR {step : Dv → Sg → Hh → RS} {it : It} (g : β → Dv) (ys : List β) (Rel : S → Sg → Hh → Prop) (Ret : γ → Dv → Hh → Prop) (f : S → β → Option (S ⊕ γ))
    (hP : ∀ s σ h, Rel s σ h → it.list h = some (ys.map g))
    (hs : ∀ s s' σ h y, y ∈ ys → Rel s σ h → f s y = some s' → dnS (step (g y) σ h) ⟨fun σ h => ∃ t, s' = .inl t ∧ Rel t σ h, fun v h => ∃ t, s' = .inr t ∧ Ret t v h, fun _ _ => False, fun σ h => ∃ t, s' = .inl t ∧ Rel t σ h⟩)
    {fuel : Nat} {s0 : S} {s1 : S ⊕ γ} {σ : Sg} {h : Hh} (e : foldR f ys s0 = some s1) (r : Rel s0 σ h) (hf : ys.length < fuel) (he : ∀ t σ h, s1 = .inl t → Rel t σ h → D.nx σ h) (hr : ∀ t v h, s1 = .inr t → Ret t v h → D.rt v h) : dnS (forL step it fuel 0 σ h) D := by with_unfolding_all
  suffices go : ∀ (zs : List β) (i : Nat) (n : Nat) (s : S) (σ : Sg) (h : Hh), ys.drop i = zs → foldR f zs s = some s1 → Rel s σ h → zs.length < n → dnS (forL step it n i σ h) D from go ys 0 fuel s0 σ h rfl e r hf
  intro zs
  induction zs with
  | nil =>
    intro i n s σ h hz e r hf
    cases n with
    | zero => simp at hf
    | succ n =>
      unfold forL
      rw [It.at_list (hP s σ h r)]
      have : ys.length ≤ i := by simpa using hz
      rw [List.getElem?_eq_none (by simpa using this)]
      cases e
      exact he _ _ _ rfl r
  | cons z zs ih =>
    intro i n s σ h hz e r hf
    cases n with
    | zero => simp at hf
    | succ n =>
      unfold forL
      rw [It.at_list (hP s σ h r)]
      have hi : ys[i]? = some z := by
        have := congrArg (fun l => l[0]?) hz
        simpa using this
      have hz' : ys.drop (i + 1) = zs := by
        have := congrArg List.tail hz
        simpa using this
      rw [List.getElem?_map, hi, Option.map_some]
      unfold foldR at e
      cases ef : f s z with
      | none => rw [ef] at e; cases e
      | some s' =>
        rw [ef] at e
        have k := hs s s' σ h z (List.mem_of_getElem? hi) r ef
        simp only
        cases q : step (g z) σ h with
        | nx σ' h' =>
          rw [q, dnS_nx] at k
          obtain ⟨t, rfl, k⟩ := k
          exact ih (i + 1) n t σ' h' hz' e k (by simpa using hf)
        | ct σ' h' =>
          rw [q, dnS_ct] at k
          obtain ⟨t, rfl, k⟩ := k
          exact ih (i + 1) n t σ' h' hz' e k (by simpa using hf)
        | bk σ' h' => rw [q] at k; exact k.elim
        | rt v h' =>
          rw [q, dnS_rt] at k
          obtain ⟨t, rfl, k⟩ := k
          cases e
          exact hr _ _ _ rfl k
        | ex x σ' h' => rw [q] at k; exact k
        | no => rw [q] at k; exact k
/-- a loop with a test -/
def whileM (t : S → Option Bool) (f : S → Option S) : Nat → S → Option S
  | 0, _ => none
  | n + 1, s => match t s with
    | some true => match f s with
      | some s' => whileM t f n s'
      | none => none
    | some false => some s
    | none => none
theorem whileL_sim {test : Sg → Hh → R Dv} {body : Sg → Hh → RS} (Rel : S → Sg → Hh → Prop) (t : S → Option Bool) (f : S → Option S)
    (ht : ∀ s σ h b, Rel s σ h → t s = some b → dnR (test σ h) fun v h1 => v = .bl b ∧ Rel s σ h1)
    (hs : ∀ s s' σ h, Rel s σ h → f s = some s' → t s = some true → dnS (body σ h) ⟨Rel s', D.rt, fun _ _ => False, Rel s'⟩) :
    ∀ {fuel n : Nat} {s0 s1 : S} {σ : Sg} {h : Hh} (e : whileM t f n s0 = some s1) (r : Rel s0 σ h) (hf : n ≤ fuel) (he : ∀ σ h, Rel s1 σ h → D.nx σ h), dnS (whileL test body fuel σ h) D
  | _, 0, s0, s1, σ, h, e, r, hf, he => by cases e
  | 0, n + 1, s0, s1, σ, h, e, r, hf, he => by omega
  | fuel + 1, n + 1, s0, s1, σ, h, e, r, hf, he' => by with_unfolding_all
    unfold whileM at e
    unfold whileL
    cases et : t s0 with
    | none => rw [et] at e; cases e
    | some b =>
      rw [et] at e
      have k := ht s0 σ h b r et
      cases q : test σ h with
      | no => rw [q] at k; exact k.elim
      | ex x h1 => rw [q] at k; exact k.elim
      | ok v h1 =>
        rw [q, dnR_ok] at k
        obtain ⟨rfl, k⟩ := k
        cases b with
        | false =>
          cases e
          exact he' _ _ k
        | true =>
          simp only at e ⊢
          cases ef : f s0 with
          | none => rw [ef] at e; cases e
          | some s' =>
            rw [ef] at e
            have kk := hs s0 s' σ h1 k ef et
            cases qq : body σ h1 with
            | nx σ' h' => rw [qq] at kk; exact whileL_sim Rel t f ht hs e kk (by omega) he'
            | ct σ' h' => rw [qq] at kk; exact whileL_sim Rel t f ht hs e kk (by omega) he'
            | bk σ' h' => rw [qq] at kk; exact kk.elim
            | rt v h' => rw [qq] at kk; exact kk
            | ex x σ' h' => rw [qq] at kk; exact kk
            | no => rw [qq] at kk; exact kk
/-- a comprehension that follows a plain one -/
def mapO {β γ : Type} (f : β → Option (Option γ)) : List β → Option (List γ)
  | [] => some []
  | y :: ys => match f y with
    | some (some z) => (mapO f ys).map (z :: ·)
    | some none => mapO f ys
    | none => none
theorem lcL_sim {step : Dv → Hh → R (Option Dv)} {it : It} {Q : List Dv → Hh → Prop} (g : β → Dv) (g' : γ → Dv) (ys : List β) (Rel : Hh → Prop) (f : β → Option (Option γ))
    (hP : ∀ h, Rel h → it.list h = some (ys.map g))
    (hs : ∀ h y o, y ∈ ys → Rel h → f y = some o → dnR (step (g y) h) fun o' h' => o' = o.map g' ∧ Rel h')
    {fuel : Nat} {zs : List γ} {h : Hh} (e : mapO f ys = some zs) (r : Rel h) (hf : ys.length < fuel) (hm : ys.length ≤ most) (he : ∀ h, Rel h → Q (zs.map g') h) : dnR (lcL step it fuel 0 [] h) Q := by with_unfolding_all
  suffices go : ∀ (us : List β) (i : Nat) (n : Nat) (ws : List γ) (acc : List Dv) (h : Hh), ys.drop i = us → mapO f us = some ws → Rel h → us.length < n → acc.length + us.length ≤ most → (∀ h, Rel h → Q (acc.reverse ++ ws.map g') h) → dnR (lcL step it n i acc h) Q from go ys 0 fuel zs [] h rfl e r hf (by simpa using hm) (by simpa using he)
  intro us
  induction us with
  | nil =>
    intro i n ws acc h hz e r hf hm he
    cases n with
    | zero => simp at hf
    | succ n =>
      unfold lcL
      rw [It.at_list (hP h r)]
      have : ys.length ≤ i := by simpa using hz
      rw [List.getElem?_eq_none (by simpa using this)]
      cases e
      simpa using he h r
  | cons z us ih =>
    intro i n ws acc h hz e r hf hm he
    cases n with
    | zero => simp at hf
    | succ n =>
      unfold lcL
      rw [It.at_list (hP h r)]
      have hi : ys[i]? = some z := by
        have := congrArg (fun l => l[0]?) hz
        simpa using this
      have hz' : ys.drop (i + 1) = us := by
        have := congrArg List.tail hz
        simpa using this
      rw [List.getElem?_map, hi, Option.map_some]
      unfold mapO at e
      cases ef : f z with
      | none => rw [ef] at e; cases e
      | some o =>
        rw [ef] at e
        have k := hs h z o (List.mem_of_getElem? hi) r ef
        simp only
        cases q : step (g z) h with
        | ex x h' => rw [q] at k; exact k
        | no => rw [q] at k; exact k
        | ok o' h' =>
          rw [q, dnR_ok] at k
          obtain ⟨rfl, k⟩ := k
          simp only [List.length_cons] at hf hm
          cases o with
          | none => exact ih (i + 1) n ws acc h' hz' e k (by omega) (by omega) he
          | some w =>
            simp only at e
            obtain ⟨vs, e1, e2⟩ := Option.map_eq_some_iff.mp e
            subst e2
            simp only [Option.map_some]
            rw [if_pos (by omega)]
            exact ih (i + 1) n vs _ h' hz' e1 k (by omega) (by simp only [List.length_cons]; omega) (by simpa using he)
end
end FF
end

section
set_option Elab.async false
set_option linter.all false
set_option maxRecDepth 100000
set_option maxHeartbeats 4000000
/-! PL3b: more rules. -/
namespace FF
open PySem
section
variable {D : En} {σ : Sg} {h : Hh} {F : Fx}
theorem dn_iff {t : E} {a b : SL} {p : Pq} : dnS (evS F (.ifs t a b p) σ h) D = dnR (evE F t σ h) fun v h1 => ∃ c, v = .bl c ∧ (c = true → dnS (evSL F a σ h1) D) ∧ (c = false → dnS (evSL F b σ h1) D) := by with_unfolding_all
  rw [dn_if]
  congr 1
  funext v h1
  apply propext
  constructor
  · rintro (⟨rfl, x⟩ | ⟨rfl, x⟩)
    · exact ⟨true, rfl, fun _ => x, fun e => by cases e⟩
    · exact ⟨false, rfl, fun e => by (cases e), fun _ => x⟩
  · rintro ⟨c, rfl, x, y⟩
    cases c
    · exact .inr ⟨rfl, y rfl⟩
    · exact .inl ⟨rfl, x rfl⟩
theorem dn_aug {i : Nat} {py : Pq} {op : BO} {e : E} {p : Pq} : dnS (evS F (.aug i py op e p) σ h) D = match σ[i]? with
    | some (some x) => dnR (evE F e σ h) fun y h1 => match op, x, y with
      | .add, .int i0, .int j0 => D.nx (σ.set i (some (.int (i0 + j0)))) h1
      | .sub, .int i0, .int j0 => D.nx (σ.set i (some (.int (i0 - j0)))) h1
      | _, _, _ => False
    | _ => False := by with_unfolding_all
  simp only [evS]
  rcases e' : σ[i]? with _ | _ | x
  · rfl
  · rfl
  · simp only [dnS_toS]
    congr 1
    funext y h1
    cases op <;> cases x <;> cases y <;> rfl
theorem dn_forr {g : G} {it : I} {b : SL} {p : Pq} : dnS (evS F (.for g it b p) σ h) D = dnR (evI F it σ h) fun J h1 => dnS (forL (fun v σ1 h2 => (evG F g v σ1 h2).noX.toS σ1 fun σ2 h3 => evSL F b σ2 h3) J F.wf 0 σ h1) D := by with_unfolding_all
  simp only [evS, dnS_toS]
theorem dn_whl {t : E} {b : SL} {p : Pq} : dnS (evS F (.whl t b p) σ h) D = dnS (whileL (fun σ1 h1 => evE F t σ1 h1) (fun σ1 h1 => evSL F b σ1 h1) F.wf σ h) D := by with_unfolding_all
  simp only [evS]
theorem dn_brk {p : Pq} : dnS (evS F (.brk p) σ h) D = D.bk σ h := by with_unfolding_all exact nr rfl
theorem dn_cnt {p : Pq} : dnS (evS F (.cnt p) σ h) D = D.ct σ h := by with_unfolding_all exact nr rfl
theorem dn_retn {p : Pq} : dnS (evS F (.retn p) σ h) D = D.rt .non h := by with_unfolding_all exact nr rfl
theorem dnR_ofs {α : Type} {a : α} {h : Hh} {Q : α → Hh → Prop} : dnR (R.of (some a) h) Q = Q a h := by with_unfolding_all exact nr rfl
end
end FF
end

section
set_option Elab.async false
set_option linter.all false
set_option maxRecDepth 100000
set_option maxHeartbeats 4000000
/-! PL3c: the rules of the expressions. -/
namespace FF
open PySem
section
variable {D : En} {σ : Sg} {h : Hh} {F : Fx} {Q : Dv → Hh → Prop} {p q fp ap tp rp : Pq} {a b d e : E} {es ks vs : EL} {k : Nat}
theorem dnE_var {i : Nat} : dnR (evE F (.var i p) σ h) Q = match σ[i]? with
    | some (some v) => Q v h
    | _ => False := by with_unfolding_all
  simp only [evE]
  rcases σ[i]? with _ | _ | x <;> rfl
theorem dnE_gint {x : Str} {i : Int} : dnR (evE F (.gint x i p) σ h) Q = Q (.int i) h := by with_unfolding_all exact nr rfl
theorem dnE_int {i : Int} : dnR (evE F (.int i k p) σ h) Q = Q (.int i) h := by with_unfolding_all exact nr rfl
theorem dnE_str {i : Str} : dnR (evE F (.str i k p) σ h) Q = Q (.str i) h := by with_unfolding_all exact nr rfl
theorem dnE_bl {i : Bool} : dnR (evE F (.bl i k p) σ h) Q = Q (.bl i) h := by with_unfolding_all exact nr rfl
theorem dnE_non : dnR (evE F (.non k p) σ h) Q = Q .non h := by with_unfolding_all exact nr rfl
theorem dn_iteP {α : Type} {c : Bool} {r : R α} {Q : α → Hh → Prop} : dnR (if c = true then r else .no) Q = (c = true ∧ dnR r Q) := by with_unfolding_all
  cases c
  · simp
  · simp
theorem dn_iteQ {α : Type} {c : Prop} [Decidable c] {r : R α} {Q : α → Hh → Prop} : dnR (if c then r else .no) Q = (c ∧ dnR r Q) := by with_unfolding_all
  by_cases x : c
  · simp [x]
  · simp [x]
theorem dnE_tup : dnR (evE F (.tup es k p) σ h) Q = dnR (evL F es σ h) fun vs h1 => decide (vs.length ≤ most) = true ∧ Q (.tup vs) h1 := by with_unfolding_all
  simp only [evE, dnR_bind, dn_iteP, dnR_ok]
theorem dnE_lst : dnR (evE F (.lst es p) σ h) Q = dnR (evL F es σ h) fun vs h1 => decide (vs.length ≤ most) = true ∧ Q (.ref h1.length) (h1 ++ [.lst vs]) := by with_unfolding_all
  simp only [evE, dnR_bind, dn_iteP, dnR_ok]
theorem dnE_bin {op : BO} : dnR (evE F (.bin op a b p) σ h) Q = dnR (evE F a σ h) fun x h1 => dnR (evE F b σ h1) fun y h2 => dnR (bop op x y h2) Q := by with_unfolding_all
  simp only [evE, dnR_bind]
theorem dnE_cmp {op : CO} : dnR (evE F (.cmp op a b p) σ h) Q = dnR (evE F a σ h) fun x h1 => dnR (evE F b σ h1) fun y h2 => ∃ c, cop op x y h2 = some c ∧ Q (.bl c) h2 := by with_unfolding_all
  simp only [evE, dnR_bind, dnR_of]
  congr 1
  funext x h1
  congr 1
  funext y h2
  cases cop op x y h2 <;> simp
theorem dnE_chain {op op' : CO} : dnR (evE F (.chain op op' a b d p) σ h) Q = dnR (evE F a σ h) fun x h1 => dnR (evE F b σ h1) fun y h2 => ∃ c, cop op x y h2 = some c ∧ (c = true → dnR (evE F d σ h2) fun z h3 => ∃ c', cop op' y z h3 = some c' ∧ Q (.bl c') h3) ∧ (c = false → Q (.bl false) h2) := by with_unfolding_all
  simp only [evE, dnR_bind]
  congr 1
  funext x h1
  congr 1
  funext y h2
  rcases cop op x y h2 with _ | _ | _
  · simp
  · simp
  · simp only [dnR_bind, dnR_of, Option.some.injEq, exists_eq_left', true_implies]
    apply propext
    constructor
    · intro z
      refine ⟨dnR.imp z fun z h3 => ?_, fun y => by cases y⟩
      rintro ⟨u, e, w⟩
      obtain ⟨c, e1, e2⟩ := Option.map_eq_some_iff.mp e
      subst e2
      exact ⟨c, e1, w⟩
    · intro z
      refine dnR.imp z.1 fun z h3 => ?_
      rintro ⟨u, e, w⟩
      exact ⟨_, by rw [e]; rfl, w⟩
theorem dnE_not : dnR (evE F (.not a p) σ h) Q = dnR (evE F a σ h) fun x h1 => ∃ c, x = .bl c ∧ Q (.bl (!c)) h1 := by with_unfolding_all
  simp only [evE, dnR_bind]
  congr 1
  funext x h1
  cases x <;> simp
theorem dnE_neg : dnR (evE F (.neg a p) σ h) Q = dnR (evE F a σ h) fun x h1 => ∃ c, x = .int c ∧ Q (.int (-c)) h1 := by with_unfolding_all
  simp only [evE, dnR_bind]
  congr 1
  funext x h1
  cases x <;> simp
theorem dnE_and : dnR (evE F (.and es p) σ h) Q = dnR (evAnd F es σ h) Q := by with_unfolding_all simp only [evE]
theorem dnE_or : dnR (evE F (.or es p) σ h) Q = dnR (evOr F es σ h) Q := by with_unfolding_all simp only [evE]
theorem dnA_one : dnR (evAnd F (.cons a .nil) σ h) Q = dnR (evE F a σ h) Q := by with_unfolding_all simp only [evAnd]
theorem dnA_cons : dnR (evAnd F (.cons a (.cons b es)) σ h) Q = dnR (evE F a σ h) fun x h1 => ∃ c, x = .bl c ∧ (c = true → dnR (evAnd F (.cons b es) σ h1) Q) ∧ (c = false → Q (.bl false) h1) := by with_unfolding_all
  rw [evAnd]
  simp only [dnR_bind]
  congr 1
  funext x h1
  cases x with
  | bl c => cases c <;> simp
  | _ => simp
theorem dnO_one : dnR (evOr F (.cons a .nil) σ h) Q = dnR (evE F a σ h) Q := by with_unfolding_all simp only [evOr]
theorem dnO_cons : dnR (evOr F (.cons a (.cons b es)) σ h) Q = dnR (evE F a σ h) fun x h1 => ∃ c, x = .bl c ∧ (c = false → dnR (evOr F (.cons b es) σ h1) Q) ∧ (c = true → Q (.bl true) h1) := by with_unfolding_all
  rw [evOr]
  simp only [dnR_bind]
  congr 1
  funext x h1
  cases x with
  | bl c => cases c <;> simp
  | _ => simp
theorem dnE_ife : dnR (evE F (.ife d a b p) σ h) Q = dnR (evE F d σ h) fun x h1 => ∃ c, x = .bl c ∧ (c = true → dnR (evE F a σ h1) Q) ∧ (c = false → dnR (evE F b σ h1) Q) := by with_unfolding_all
  simp only [evE, dnR_bind]
  congr 1
  funext x h1
  cases x with
  | bl c => cases c <;> simp
  | _ => simp
theorem dnE_ix : dnR (evE F (.ix a b p) σ h) Q = dnR (evE F a σ h) fun x h1 => dnR (evE F b σ h1) fun y h2 => ∃ v, ixs x y h2 = some v ∧ Q v h2 := by with_unfolding_all
  simp only [evE, dnR_bind, dnR_of]
def slS (x : Dv) (l u : Option Int) (h3 : Hh) : R Dv := match x with
    | .tup xs => .ok (.tup (cut xs l u)) h3
    | .ref b => match h3[b]? with
      | some (.lst xs) => .ok (.ref h3.length) (h3 ++ [.lst (cut xs l u)])
      | some (.fro xs) => .ok (.ref h3.length) (h3 ++ [.lst (cut xs l u)])
      | _ => .no
    | _ => .no
theorem dnE_sl {lo hi : O} : dnR (evE F (.sl a lo hi p q) σ h) Q = dnR (evE F a σ h) fun x h1 => dnR (evO F lo σ h1) fun l h2 => dnR (evO F hi σ h2) fun u h3 => dnR (slS x l u h3) Q := by with_unfolding_all
  simp only [evE, dnR_bind]
  rfl
theorem dnS_slT {xs : List Dv} {l u : Option Int} : dnR (slS (.tup xs) l u h) Q = Q (.tup (cut xs l u)) h := by with_unfolding_all exact nr rfl
theorem dnE_call {f : Nat} : dnR (evE F (.call f es fp p) σ h) Q = dnR (evL F es σ h) fun vs h1 => dnR (F.call f vs h1) Q := by with_unfolding_all
  simp only [evE, dnR_bind]
theorem dnE_bi {f : Bi} : dnR (evE F (.bi f es fp p) σ h) Q = dnR (evL F es σ h) fun vs h1 => dnR (bis f vs h1) Q := by with_unfolding_all
  simp only [evE, dnR_bind]
theorem dnE_bm {m : Mt} : dnR (evE F (.bm m a es ap p) σ h) Q = dnR (evE F a σ h) fun x h1 => mtk m x h1 = true ∧ dnR (evL F es σ h1) fun vs h2 => dnR (mts m x vs h2) Q := by with_unfolding_all
  simp only [evE, dnR_bind, dn_iteP]
theorem dnE_isi {t : Ty} : dnR (evE F (.isi a t fp tp p) σ h) Q = dnR (evE F a σ h) fun x h1 => ∃ c, tyIs x t = some c ∧ Q (.bl c) h1 := by with_unfolding_all
  simp only [evE, dnR_bind, dnR_of]
  congr 1
  funext x h1
  cases tyIs x t <;> simp
theorem dnE_dnew {n : Bool} : dnR (evE F (.dnew n p) σ h) Q = Q (.ref h.length) (h ++ [if n then .dn [] else .dk []]) := by with_unfolding_all exact nr rfl
theorem dnE_disp : dnR (evE F (.disp ks vs p) σ h) Q = dnR (evL F ks σ h) fun qs h1 => dnR (evL F vs σ h1) fun ws h2 => ∃ kvs, disps qs ws [] = some kvs ∧ kvs.length ≤ 15 ∧ Q (.ref h2.length) (h2 ++ [.dk kvs]) := by with_unfolding_all
  simp only [evE, dnR_bind]
  congr 1
  funext x h1
  congr 1
  funext y h2
  cases disps x y [] with
  | none => simp
  | some kvs =>
    simp only [dn_iteQ, dnR_ok, Option.some.injEq, exists_eq_left', decide_eq_true_eq]
def lcStp (F : Fx) (own : List (Str × Nat)) (tg : G) (ifs : EL) (elt : E) (σ : Sg) (v : Dv) (h' : Hh) : R (Option Dv) :=
  (evG F tg v (wipeS σ (own.map (·.2))) h').bind fun σ1 h2 => (evIfs F ifs σ1 h2).bind fun b h3 =>
        if b then (evE F elt σ1 h3).bind fun y h4 => .ok (some y) h4 else .ok none h3
theorem dnE_lc {own : List (Str × Nat)} {sc : Scope} {tg : G} {it : I} {ifs : EL} {elt : E} : dnR (evE F (.lc own sc tg it ifs elt p) σ h) Q = dnR (evI F it σ h) fun J h1 => dnR (lcL (lcStp F own tg ifs elt σ) J F.wf 0 [] h1) fun ys h2 => Q (.ref h2.length) (h2 ++ [.lst ys]) := by with_unfolding_all
  simp only [evE, dnR_bind, dnR_ok]
  rfl
theorem dnE_lcStp {own : List (Str × Nat)} {tg : G} {ifs : EL} {elt : E} {v : Dv} {Q : Option Dv → Hh → Prop} : dnR (lcStp F own tg ifs elt σ v h) Q = dnR (evG F tg v (wipeS σ (own.map (·.2))) h) fun σ1 h2 => dnR (evIfs F ifs σ1 h2) fun c h3 => (c = true → dnR (evE F elt σ1 h3) fun y h4 => Q (some y) h4) ∧ (c = false → Q none h3) := by with_unfolding_all
  simp only [lcStp, dnR_bind]
  congr 1
  funext x h1
  congr 1
  funext y h2
  cases y <;> simp [dnR_bind]
theorem dnF_nil {Q : Bool → Hh → Prop} : dnR (evIfs F .nil σ h) Q = Q true h := by with_unfolding_all exact nr rfl
theorem dnF_cons {Q : Bool → Hh → Prop} : dnR (evIfs F (.cons e es) σ h) Q = dnR (evE F e σ h) fun v h1 => ∃ c, v = .bl c ∧ (c = true → dnR (evIfs F es σ h1) Q) ∧ (c = false → Q false h1) := by with_unfolding_all
  simp only [evIfs, dnR_bind]
  congr 1
  funext x h1
  cases x with
  | bl c => cases c <;> simp
  | _ => simp
theorem dnL_nil {Q : List Dv → Hh → Prop} : dnR (evL F .nil σ h) Q = Q [] h := by with_unfolding_all exact nr rfl
theorem dnL_cons {Q : List Dv → Hh → Prop} : dnR (evL F (.cons e es) σ h) Q = dnR (evE F e σ h) fun v h1 => dnR (evL F es σ h1) fun vs h2 => Q (v :: vs) h2 := by with_unfolding_all
  simp only [evL, dnR_bind, dnR_ok]
theorem dnV_none {Q : Option Int → Hh → Prop} : dnR (evO F .none σ h) Q = Q none h := by with_unfolding_all exact nr rfl
theorem dnV_some {Q : Option Int → Hh → Prop} : dnR (evO F (.some e) σ h) Q = dnR (evE F e σ h) fun v h1 => ∃ i, v = .int i ∧ Q (some i) h1 := by with_unfolding_all
  simp only [evO, dnR_bind]
  congr 1
  funext x h1
  cases x <;> simp
theorem dnI_seq {Q : It → Hh → Prop} : dnR (evI F (.seq e) σ h) Q = dnR (evE F e σ h) fun v h1 => ∃ s, srcOf h1 v = some s ∧ Q (.seq s) h1 := by with_unfolding_all
  simp only [evI, dnR_bind, dnR_of]
  congr 1
  funext x h1
  cases srcOf h1 x <;> simp
theorem dnI_rng1 {Q : It → Hh → Prop} : dnR (evI F (.rng1 e fp p) σ h) Q = dnR (evE F e σ h) fun v h1 => ∃ n, v = .int n ∧ intOk n = true ∧ Q (.ints 0 1 n.toNat) h1 := by with_unfolding_all
  simp only [evI, dnR_bind]
  congr 1
  funext x h1
  cases x <;> simp [dn_iteP]
theorem dnI_rng2 {Q : It → Hh → Prop} : dnR (evI F (.rng2 a b fp p) σ h) Q = dnR (evE F a σ h) fun x h1 => dnR (evE F b σ h1) fun y h2 => ∃ n m, x = .int n ∧ y = .int m ∧ intOk n = true ∧ intOk m = true ∧ Q (.ints n 1 (m - n).toNat) h2 := by with_unfolding_all
  simp only [evI, dnR_bind]
  congr 1
  funext x h1
  congr 1
  funext y h2
  cases x <;> cases y <;> simp [dn_iteQ, and_assoc]
theorem dnI_enum {Q : It → Hh → Prop} : dnR (evI F (.enum e fp p) σ h) Q = dnR (evE F e σ h) fun v h1 => ∃ s, srcOf h1 v = some s ∧ Q (.enum s) h1 := by with_unfolding_all
  simp only [evI, dnR_bind, dnR_of]
  congr 1
  funext x h1
  cases srcOf h1 x <;> simp
theorem dnG_name {Q : Sg → Hh → Prop} {i : Nat} {v : Dv} : dnR (evG F (.name i p) v σ h) Q = Q (σ.set i (some v)) h := by with_unfolding_all simp only [evG, dnR_ok]
theorem dnG_tup {Q : Sg → Hh → Prop} {gs : GL} {v : Dv} : dnR (evG F (.tup gs k p) v σ h) Q = ∃ xs, v = .tup xs ∧ xs.length = glLen gs ∧ dnR (evGL F gs xs σ h) Q := by with_unfolding_all
  simp only [evG]
  cases v <;> simp [dn_iteQ]
theorem dnG_sub {Q : Sg → Hh → Prop} {v : Dv} : dnR (evG F (.sub a b p) v σ h) Q = dnR (evE F a σ h) fun x h1 => dnR (evE F b σ h1) fun y h2 => dnR (sets x y v h2) fun _ h3 => Q σ h3 := by with_unfolding_all
  simp only [evG, dnR_bind, dnR_ok]
theorem dnGL_nil {Q : Sg → Hh → Prop} : dnR (evGL F .nil [] σ h) Q = Q σ h := by with_unfolding_all simp only [evGL, dnR_ok]
theorem dnGL_cons {Q : Sg → Hh → Prop} {g : G} {gs : GL} {v : Dv} {r : List Dv} : dnR (evGL F (.cons g gs) (v :: r) σ h) Q = dnR (evG F g v σ h) fun σ1 h1 => dnR (evGL F gs r σ1 h1) Q := by with_unfolding_all
  simp only [evGL, dnR_bind]
/-! operations -/
variable {n m : Nat} {xs ys : List Dv} {v w : Dv}
theorem dnB_len_t : dnR (bis .len [.tup xs] h) Q = Q (.int xs.length) h := by with_unfolding_all exact nr rfl
theorem dnB_len_l (e : h[n]? = some (.lst xs)) : dnR (bis .len [.ref n] h) Q = Q (.int xs.length) h := by with_unfolding_all simp only [bis, bis.lenOf, e, dnR_ok]
theorem dnB_len_f (e : h[n]? = some (.fro xs)) : dnR (bis .len [.ref n] h) Q = Q (.int xs.length) h := by with_unfolding_all simp only [bis, bis.lenOf, e, dnR_ok]
theorem dnB_tuple_l (e : h[n]? = some (.lst xs)) : dnR (bis .tuple [.ref n] h) Q = Q (.tup xs) h := by with_unfolding_all simp only [bis, items, e, dnR_ok]
theorem dnB_set0 : dnR (bis .set0 [] h) Q = Q (.ref h.length) (h ++ [.set []]) := by with_unfolding_all exact nr rfl
theorem dnB_int {i : Int} : dnR (bis .int [.int i] h) Q = Q (.int i) h := by with_unfolding_all exact nr rfl
theorem boolsOf_map (bs : List Bool) : bis.boolsOf (bs.map .bl) = some bs := by with_unfolding_all
  unfold bis.boolsOf
  induction bs with
  | nil => rfl
  | cons c r ih => rw [List.map_cons, List.mapM_cons, ih]; rfl
theorem dnB_any {bs : List Bool} (e : h[n]? = some (.lst (bs.map .bl))) : dnR (bis .any [.ref n] h) Q = Q (.bl (bs.any id)) h := by with_unfolding_all
  simp only [bis, e, boolsOf_map, Option.map_some, dnR_ofs]
theorem dnB_all {bs : List Bool} (e : h[n]? = some (.lst (bs.map .bl))) : dnR (bis .all [.ref n] h) Q = Q (.bl (bs.all id)) h := by with_unfolding_all
  simp only [bis, e, boolsOf_map, Option.map_some, dnR_ofs]
theorem dnM_append (e : h[n]? = some (.lst xs)) : dnR (mts .append (.ref n) [v] h) Q = (decide (xs.length < most) = true ∧ Q .non (h.set n (.lst (xs ++ [v])))) := by with_unfolding_all
  simp only [mts, e, dn_iteP, dnR_ok]
theorem dnK_append (e : h[n]? = some (.lst xs)) : mtk .append (.ref n) h = true := by with_unfolding_all simp only [mtk, e]
theorem dnK_extend (e : h[n]? = some (.lst xs)) : mtk .extend (.ref n) h = true := by with_unfolding_all simp only [mtk, e]
theorem dnK_pop (e : h[n]? = some (.lst xs)) : mtk .pop (.ref n) h = true := by with_unfolding_all simp only [mtk, e]
theorem dnK_add {is : List Int} (e : h[n]? = some (.set is)) : mtk .add (.ref n) h = true := by with_unfolding_all simp only [mtk, e]
theorem dnM_extend (e : h[n]? = some (.lst xs)) (e' : h[m]? = some (.lst ys)) : dnR (mts .extend (.ref n) [.ref m] h) Q = ((xs.length + ys.length ≤ most ∧ n ≠ m) ∧ Q .non (h.set n (.lst (xs ++ ys)))) := by with_unfolding_all
  simp only [mts, e, e', dn_iteQ, dnR_ok, Bool.and_eq_true, decide_eq_true_eq]
theorem dnM_pop (e : h[n]? = some (.lst xs)) : dnR (mts .pop (.ref n) [] h) Q = ∃ v, xs.getLast? = some v ∧ Q v (h.set n (.lst xs.dropLast)) := by with_unfolding_all
  simp only [mts, e]
  cases xs.getLast? <;> simp
theorem dnM_add {is : List Int} {i : Int} (e : h[n]? = some (.set is)) : dnR (mts .add (.ref n) [.int i] h) Q = (decide (is.length < 1000) = true ∧ Q .non (if is.contains i then h else h.set n (.set (is ++ [i])))) := by with_unfolding_all
  simp only [mts, e, dn_iteP, dnR_ok]
theorem ixs_t {i : Int} : ixs (.tup xs) (.int i) h = at0 xs i := by with_unfolding_all exact nr rfl
theorem ixs_l {i : Int} (e : h[n]? = some (.lst xs)) : ixs (.ref n) (.int i) h = at0 xs i := by with_unfolding_all simp only [ixs, e]
theorem ixs_f {i : Int} (e : h[n]? = some (.fro xs)) : ixs (.ref n) (.int i) h = at0 xs i := by with_unfolding_all simp only [ixs, e]
theorem ixs_k {s : Str} {kvs : List ((Int ⊕ Str) × Dv)} (e : h[n]? = some (.dk kvs)) : ixs (.ref n) (.str s) h = kLook kvs (.inr s) := by with_unfolding_all simp only [ixs, e, keyK, Option.bind_some]
theorem sets_l {i : Int} {Q : Unit → Hh → Prop} (e : h[n]? = some (.lst xs)) : dnR (sets (.ref n) (.int i) v h) Q = ∃ ys, sA xs i v = some ys ∧ Q () (h.set n (.lst ys)) := by with_unfolding_all
  simp only [sets, e, sA]
  cases ixA xs.length i <;> simp
theorem sets_k {s : Str} {kvs : List ((Int ⊕ Str) × Dv)} {Q : Unit → Hh → Prop} (e : h[n]? = some (.dk kvs)) : dnR (sets (.ref n) (.str s) v h) Q = (decide (kvs.length < most) = true ∧ Q () (h.set n (.dk (kPut kvs (.inr s) v)))) := by with_unfolding_all
  simp only [sets, e, keyK, dn_iteP, dnR_ok]
theorem src_t : srcOf h (.tup xs) = some (.t xs) := by with_unfolding_all exact nr rfl
theorem src_l (e : h[n]? = some (.lst xs)) : srcOf h (.ref n) = some (.l n) := by with_unfolding_all simp only [srcOf, e]
theorem src_f (e : h[n]? = some (.fro xs)) : srcOf h (.ref n) = some (.l n) := by with_unfolding_all simp only [srcOf, e]
theorem sA_map {α : Type} (g : α → Dv) (xs : List α) (i : Int) (v : α) : sA (xs.map g) i (g v) = (sA xs i v).map (List.map g) := by with_unfolding_all
  unfold sA
  rw [List.length_map]
  cases ixA xs.length i with
  | none => rfl
  | some j => simp
variable {i j : Int}
theorem cop_lt : cop .lt (.int i) (.int j) h = some (decide (i < j)) := by with_unfolding_all exact nr rfl
theorem cop_le : cop .le (.int i) (.int j) h = some (decide (i ≤ j)) := by with_unfolding_all exact nr rfl
theorem cop_gt : cop .gt (.int i) (.int j) h = some (decide (j < i)) := by with_unfolding_all exact nr rfl
theorem cop_ge : cop .ge (.int i) (.int j) h = some (decide (j ≤ i)) := by with_unfolding_all exact nr rfl
theorem cop_eq : cop .eq (.int i) (.int j) h = some (decide (i = j)) := by with_unfolding_all exact nr rfl
theorem cop_ne : cop .ne (.int i) (.int j) h = some (!decide (i = j)) := by with_unfolding_all exact nr rfl
theorem cop_nmem {is : List Int} (e : h[n]? = some (.set is)) : cop .nmem (.int i) (.ref n) h = some (!is.contains i) := by with_unfolding_all simp only [cop, isMem, e, Option.map_some]
theorem cop_mem {is : List Int} (e : h[n]? = some (.set is)) : cop .mem (.int i) (.ref n) h = some (is.contains i) := by with_unfolding_all simp only [cop, isMem, e]
theorem bop_add : dnR (bop .add (.int i) (.int j) h) Q = Q (.int (i + j)) h := by with_unfolding_all exact nr rfl
theorem bop_sub : dnR (bop .sub (.int i) (.int j) h) Q = Q (.int (i - j)) h := by with_unfolding_all exact nr rfl
theorem bop_mul : dnR (bop .mul (.int i) (.int j) h) Q = (mulOk i j = true ∧ Q (.int (i * j)) h) := by with_unfolding_all simp only [bop, dn_iteP, dnR_ok]
theorem bop_mod : dnR (bop .mod (.int i) (.int j) h) Q = (decide (j ≠ 0) = true ∧ Q (.int (i.fmod j)) h) := by with_unfolding_all simp only [bop, dn_iteP, dnR_ok]
theorem bop_fdiv : dnR (bop .fdiv (.int i) (.int j) h) Q = ((decide (j ≠ 0) && decide (j.natAbs < 1073741824)) = true ∧ Q (.int (i.fdiv j)) h) := by with_unfolding_all simp only [bop, dn_iteP, dnR_ok]
theorem bop_addT : dnR (bop .add (.tup xs) (.tup ys) h) Q = (decide (xs.length + ys.length ≤ most) = true ∧ Q (.tup (xs ++ ys)) h) := by with_unfolding_all simp only [bop, dn_iteP, dnR_ok]
theorem bop_mulT : dnR (bop .mul (.tup xs) (.int i) h) Q = ((!xs.isEmpty && decide (1 ≤ i) && decide (i ≤ 1000) && decide (xs.length ≤ 1000)) = true ∧ Q (.tup (List.replicate i.toNat xs).flatten) h) := by with_unfolding_all simp only [bop, dn_iteP, dnR_ok]
end
end FF
end

section
set_option Elab.async false
set_option linter.all false
set_option maxRecDepth 100000
set_option maxHeartbeats 4000000
/-! PL4: the program's walks, plainly. -/
namespace FF
open PySem

theorem call_ir {T : List FD} {wf n f np ns : Nat} {body : SL} {vs : List Dv} {h : Hh} {Q : Dv → Hh → Prop} (e : T[f]? = some (.ir np ns body)) (l : vs.length = np)
    (k : dnS (evSL ⟨callN T wf n, wf⟩ body (start ns vs) h) ⟨fun _ h => Q .non h, Q, fun _ _ => False, fun _ _ => False⟩) : dnR (callN T wf (n + 1) f vs h) Q := by
  unfold callN
  rw [e]
  simp only
  rw [if_pos l, dnR_toR]
  exact k
theorem cut_take {α : Type} (g : α → Dv) (xs : List α) (k : Nat) : cut (xs.map g) none (some (k : Int)) = (xs.take k).map g := by
  unfold cut bnd
  simp only [List.length_map]
  rw [if_neg (by omega), List.drop_zero, Nat.sub_zero, Int.toNat_natCast, ← List.map_take]
  congr 1
  by_cases h : k ≤ xs.length
  · rw [Nat.min_eq_left h]
  · rw [Nat.min_eq_right (by omega), List.take_of_length_le (by omega), List.take_of_length_le (by omega)]
theorem cut_take3 {α : Type} (g : α → Dv) (xs : List α) : cut (xs.map g) none (some 3) = (xs.take 3).map g := cut_take g xs 3
theorem opt_bind {α β : Type} {o : Option α} {f : α → Option β} {b : β} (e : o.bind f = some b) : ∃ a, o = some a ∧ f a = some b := Option.bind_eq_some_iff.mp e

/-! the program's walk -/
def walkStep (place : Int) (t : List Int × List Int) (c : List Int) : Option (List Int × List Int) :=
  (gA t.1 place).bind fun f => (gA c f).bind fun target =>
    if t.2.contains target then some t else if t.2.length < 999 ∧ t.1.length < 999 then some (t.1 ++ [target], t.2 ++ [target]) else none
def walkM (p : List (List Int)) (flag : Int) : Option (List Int) :=
  (whileM (fun s : (List Int × List Int) × Int => some (decide (s.2 < s.1.1.length)))
    (fun s => ((p.take 3).foldlM (walkStep s.2) s.1).map fun t => (t, s.2 + 1)) 1000 (([flag], [flag]), 0)).map (·.1.1)

section
variable {wf : Nat} (hw : 2000 ≤ wf)
include hw
theorem walk_ok {n : Nat} {h : Hh} {p : List (List Int)} {flag : Int} {r : List Int} (e : walkM p flag = some r) : dnR (callN Lw.T wf (n + 1) 2 [pT p, .int flag] h) fun v h' => v = iT r ∧ h <+: h' := by
  refine call_ir rfl rfl ?_
  obtain ⟨⟨⟨l1, s1⟩, k1⟩, e0, rfl⟩ := Option.map_eq_some_iff.mp e
  (try simp only [forall_const, reduceCtorEq, false_implies, implies_true, Bool.false_eq_true, Dv.tup.injEq, dnR_noX, dnS_toS, dnSL_cons, dnSL_nil, dn_par, dn_par3, dn_asg, dn_setlc, dn_exp, dn_ret, dn_iff, dn_aug, dn_forr, dn_whl, dn_brk, dn_cnt, dn_retn, start, wipeS, glLen, most, tyIs, Option.map_some, Option.bind_some, Option.some.injEq, List.map_cons, List.map_nil, List.cons_append, List.nil_append, List.length_cons, List.length_nil, List.reduceReplicate, List.getElem?_cons_zero, List.getElem?_cons_succ, List.set_cons_zero, List.set_cons_succ, Nat.reduceAdd, Nat.reduceSub, Nat.reduceLeDiff, decide_true, decide_false, if_true, Bool.true_and, Bool.and_true, Dv.bl.injEq, Dv.int.injEq, exists_eq_left, exists_eq_left', true_and, and_true, Bool.and_self, Bool.not_true, Bool.not_false, eq_self, ↓reduceIte, List.isEmpty_cons, Nat.zero_add, and_self, true_implies, decide_eq_true_eq, decide_eq_false_iff_not, dnE_var, dnE_gint, dnE_int, dnE_str, dnE_bl, dnE_non, dnE_tup, dnE_lst, dnE_bin, dnE_cmp, dnE_chain, dnE_not, dnE_neg, dnE_and, dnE_or, dnA_one, dnA_cons, dnO_one, dnO_cons, dnE_ife, dnE_ix, dnE_sl, dnS_slT, dnE_call, dnE_bi, dnE_bm, dnE_isi, dnE_dnew, dnE_disp, dnE_lc, dnE_lcStp, dnF_nil, dnF_cons, dnL_nil, dnL_cons, dnV_none, dnV_some, dnI_seq, dnI_rng1, dnI_rng2, dnI_enum, dnG_name, dnG_tup, dnG_sub, dnGL_nil, dnGL_cons, dnB_len_t, dnB_set0, dnB_int, ixs_t, src_t, cop_lt, cop_le, cop_gt, cop_ge, cop_eq, cop_ne, bop_add, bop_sub, bop_mul, bop_mod, bop_fdiv, bop_addT, bop_mulT, Lw.ir_walk])
  have o := ((Own.nil h).alloc (.lst [.int flag])).alloc (.set [])
  generalize (h ++ [Ob.lst [Dv.int flag]]).length = b at o ⊢
  generalize h ++ [Ob.lst [Dv.int flag]] ++ [Ob.set []] = h1 at o ⊢
  generalize h.length = a at o ⊢
  (try simp only [forall_const, reduceCtorEq, false_implies, implies_true, Bool.false_eq_true, Dv.tup.injEq, dnR_noX, dnS_toS, dnSL_cons, dnSL_nil, dn_par, dn_par3, dn_asg, dn_setlc, dn_exp, dn_ret, dn_iff, dn_aug, dn_forr, dn_whl, dn_brk, dn_cnt, dn_retn, start, wipeS, glLen, most, tyIs, Option.map_some, Option.bind_some, Option.some.injEq, List.map_cons, List.map_nil, List.cons_append, List.nil_append, List.length_cons, List.length_nil, List.reduceReplicate, List.getElem?_cons_zero, List.getElem?_cons_succ, List.set_cons_zero, List.set_cons_succ, Nat.reduceAdd, Nat.reduceSub, Nat.reduceLeDiff, decide_true, decide_false, if_true, Bool.true_and, Bool.and_true, Dv.bl.injEq, Dv.int.injEq, exists_eq_left, exists_eq_left', true_and, and_true, Bool.and_self, Bool.not_true, Bool.not_false, eq_self, ↓reduceIte, List.isEmpty_cons, Nat.zero_add, and_self, true_implies, decide_eq_true_eq, decide_eq_false_iff_not, dnE_var, dnE_gint, dnE_int, dnE_str, dnE_bl, dnE_non, dnE_tup, dnE_lst, dnE_bin, dnE_cmp, dnE_chain, dnE_not, dnE_neg, dnE_and, dnE_or, dnA_one, dnA_cons, dnO_one, dnO_cons, dnE_ife, dnE_ix, dnE_sl, dnS_slT, dnE_call, dnE_bi, dnE_bm, dnE_isi, dnE_dnew, dnE_disp, dnE_lc, dnE_lcStp, dnF_nil, dnF_cons, dnL_nil, dnL_cons, dnV_none, dnV_some, dnI_seq, dnI_rng1, dnI_rng2, dnI_enum, dnG_name, dnG_tup, dnG_sub, dnGL_nil, dnGL_cons, dnB_len_t, dnB_set0, dnB_int, ixs_t, src_t, cop_lt, cop_le, cop_gt, cop_ge, cop_eq, cop_ne, bop_add, bop_sub, bop_mul, bop_mod, bop_fdiv, bop_addT, bop_mulT, dnK_add (o.at_ 0 rfl), dnM_add (o.at_ 0 rfl)])
  have o' := o.set 0 rfl (.set [flag])
  refine ⟨by decide, ?_⟩
  simp only [List.contains_nil, Bool.false_eq_true, if_false]
  refine whileL_sim (n := 1000) (fun (s : (List Int × List Int) × Int) σ h1 => ∃ x y, σ = [some (pT p), some (.int flag), some (.ref a), some (.int s.2), some (.ref b), x, y] ∧ Own h h1 [(b, .set s.1.2), (a, .lst (s.1.1.map .int))]) _ _ ?_ ?_ e0 ⟨_, _, rfl, o'⟩ (by omega) ?_
  · rintro s σ h1 c ⟨x, y, rfl, o⟩ e
    cases e
    (try simp only [forall_const, reduceCtorEq, false_implies, implies_true, Bool.false_eq_true, Dv.tup.injEq, dnR_noX, dnS_toS, dnSL_cons, dnSL_nil, dn_par, dn_par3, dn_asg, dn_setlc, dn_exp, dn_ret, dn_iff, dn_aug, dn_forr, dn_whl, dn_brk, dn_cnt, dn_retn, start, wipeS, glLen, most, tyIs, Option.map_some, Option.bind_some, Option.some.injEq, List.map_cons, List.map_nil, List.cons_append, List.nil_append, List.length_cons, List.length_nil, List.reduceReplicate, List.getElem?_cons_zero, List.getElem?_cons_succ, List.set_cons_zero, List.set_cons_succ, Nat.reduceAdd, Nat.reduceSub, Nat.reduceLeDiff, decide_true, decide_false, if_true, Bool.true_and, Bool.and_true, Dv.bl.injEq, Dv.int.injEq, exists_eq_left, exists_eq_left', true_and, and_true, Bool.and_self, Bool.not_true, Bool.not_false, eq_self, ↓reduceIte, List.isEmpty_cons, Nat.zero_add, and_self, true_implies, decide_eq_true_eq, decide_eq_false_iff_not, dnE_var, dnE_gint, dnE_int, dnE_str, dnE_bl, dnE_non, dnE_tup, dnE_lst, dnE_bin, dnE_cmp, dnE_chain, dnE_not, dnE_neg, dnE_and, dnE_or, dnA_one, dnA_cons, dnO_one, dnO_cons, dnE_ife, dnE_ix, dnE_sl, dnS_slT, dnE_call, dnE_bi, dnE_bm, dnE_isi, dnE_dnew, dnE_disp, dnE_lc, dnE_lcStp, dnF_nil, dnF_cons, dnL_nil, dnL_cons, dnV_none, dnV_some, dnI_seq, dnI_rng1, dnI_rng2, dnI_enum, dnG_name, dnG_tup, dnG_sub, dnGL_nil, dnGL_cons, dnB_len_t, dnB_set0, dnB_int, ixs_t, src_t, cop_lt, cop_le, cop_gt, cop_ge, cop_eq, cop_ne, bop_add, bop_sub, bop_mul, bop_mod, bop_fdiv, bop_addT, bop_mulT, dnB_len_l (o.at_ 1 rfl), List.length_map])
    exact ⟨_, _, rfl, o⟩
  · rintro ⟨⟨l, s⟩, k⟩ s' σ h1 ⟨x, y, rfl, o⟩ e _
    obtain ⟨t, e1, rfl⟩ := Option.map_eq_some_iff.mp e
    simp only [pT]
    (try simp only [forall_const, reduceCtorEq, false_implies, implies_true, Bool.false_eq_true, Dv.tup.injEq, dnR_noX, dnS_toS, dnSL_cons, dnSL_nil, dn_par, dn_par3, dn_asg, dn_setlc, dn_exp, dn_ret, dn_iff, dn_aug, dn_forr, dn_whl, dn_brk, dn_cnt, dn_retn, start, wipeS, glLen, most, tyIs, Option.map_some, Option.bind_some, Option.some.injEq, List.map_cons, List.map_nil, List.cons_append, List.nil_append, List.length_cons, List.length_nil, List.reduceReplicate, List.getElem?_cons_zero, List.getElem?_cons_succ, List.set_cons_zero, List.set_cons_succ, Nat.reduceAdd, Nat.reduceSub, Nat.reduceLeDiff, decide_true, decide_false, if_true, Bool.true_and, Bool.and_true, Dv.bl.injEq, Dv.int.injEq, exists_eq_left, exists_eq_left', true_and, and_true, Bool.and_self, Bool.not_true, Bool.not_false, eq_self, ↓reduceIte, List.isEmpty_cons, Nat.zero_add, and_self, true_implies, decide_eq_true_eq, decide_eq_false_iff_not, dnE_var, dnE_gint, dnE_int, dnE_str, dnE_bl, dnE_non, dnE_tup, dnE_lst, dnE_bin, dnE_cmp, dnE_chain, dnE_not, dnE_neg, dnE_and, dnE_or, dnA_one, dnA_cons, dnO_one, dnO_cons, dnE_ife, dnE_ix, dnE_sl, dnS_slT, dnE_call, dnE_bi, dnE_bm, dnE_isi, dnE_dnew, dnE_disp, dnE_lc, dnE_lcStp, dnF_nil, dnF_cons, dnL_nil, dnL_cons, dnV_none, dnV_some, dnI_seq, dnI_rng1, dnI_rng2, dnI_enum, dnG_name, dnG_tup, dnG_sub, dnGL_nil, dnGL_cons, dnB_len_t, dnB_set0, dnB_int, ixs_t, src_t, cop_lt, cop_le, cop_gt, cop_ge, cop_eq, cop_ne, bop_add, bop_sub, bop_mul, bop_mod, bop_fdiv, bop_addT, bop_mulT, cut_take3])
    refine forL_sim iT (p.take 3) (fun (s : List Int × List Int) σ h1 => ∃ x y, σ = [some (pT p), some (.int flag), some (.ref a), some (.int k), some (.ref b), x, y] ∧ Own h h1 [(b, .set s.2), (a, .lst (s.1.map .int))]) (walkStep k) ?_ ?_ e1 ⟨_, _, rfl, o⟩ (by rw [List.length_take]; omega) ?_
    · exact fun s σ h1 _ => rfl
    · rintro ⟨l, s⟩ t σ h1 c _ ⟨x, y, rfl, o⟩ e
      simp only [walkStep] at e
      obtain ⟨f, e1, e⟩ := opt_bind e
      obtain ⟨g, e2, e⟩ := opt_bind e
      simp only [dnS_toS, iT]
      (try simp only [forall_const, reduceCtorEq, false_implies, implies_true, Bool.false_eq_true, Dv.tup.injEq, dnR_noX, dnS_toS, dnSL_cons, dnSL_nil, dn_par, dn_par3, dn_asg, dn_setlc, dn_exp, dn_ret, dn_iff, dn_aug, dn_forr, dn_whl, dn_brk, dn_cnt, dn_retn, start, wipeS, glLen, most, tyIs, Option.map_some, Option.bind_some, Option.some.injEq, List.map_cons, List.map_nil, List.cons_append, List.nil_append, List.length_cons, List.length_nil, List.reduceReplicate, List.getElem?_cons_zero, List.getElem?_cons_succ, List.set_cons_zero, List.set_cons_succ, Nat.reduceAdd, Nat.reduceSub, Nat.reduceLeDiff, decide_true, decide_false, if_true, Bool.true_and, Bool.and_true, Dv.bl.injEq, Dv.int.injEq, exists_eq_left, exists_eq_left', true_and, and_true, Bool.and_self, Bool.not_true, Bool.not_false, eq_self, ↓reduceIte, List.isEmpty_cons, Nat.zero_add, and_self, true_implies, decide_eq_true_eq, decide_eq_false_iff_not, dnE_var, dnE_gint, dnE_int, dnE_str, dnE_bl, dnE_non, dnE_tup, dnE_lst, dnE_bin, dnE_cmp, dnE_chain, dnE_not, dnE_neg, dnE_and, dnE_or, dnA_one, dnA_cons, dnO_one, dnO_cons, dnE_ife, dnE_ix, dnE_sl, dnS_slT, dnE_call, dnE_bi, dnE_bm, dnE_isi, dnE_dnew, dnE_disp, dnE_lc, dnE_lcStp, dnF_nil, dnF_cons, dnL_nil, dnL_cons, dnV_none, dnV_some, dnI_seq, dnI_rng1, dnI_rng2, dnI_enum, dnG_name, dnG_tup, dnG_sub, dnGL_nil, dnGL_cons, dnB_len_t, dnB_set0, dnB_int, ixs_t, src_t, cop_lt, cop_le, cop_gt, cop_ge, cop_eq, cop_ne, bop_add, bop_sub, bop_mul, bop_mod, bop_fdiv, bop_addT, bop_mulT, ixs_l (o.at_ 1 rfl), at0_map, e1, e2, cop_nmem (o.at_ 0 rfl)])
      cases hc : s.contains g with
      | true =>
        rw [if_pos hc] at e
        cases e
        exact ⟨fun z => by simp at z, fun _ => ⟨_, _, rfl, o⟩⟩
      | false =>
        rw [if_neg (by rw [hc]; decide)] at e
        split at e
        · rename_i hl
          cases e
          refine ⟨fun _ => ?_, fun z => by simp at z⟩
          (try simp only [forall_const, reduceCtorEq, false_implies, implies_true, Bool.false_eq_true, Dv.tup.injEq, dnR_noX, dnS_toS, dnSL_cons, dnSL_nil, dn_par, dn_par3, dn_asg, dn_setlc, dn_exp, dn_ret, dn_iff, dn_aug, dn_forr, dn_whl, dn_brk, dn_cnt, dn_retn, start, wipeS, glLen, most, tyIs, Option.map_some, Option.bind_some, Option.some.injEq, List.map_cons, List.map_nil, List.cons_append, List.nil_append, List.length_cons, List.length_nil, List.reduceReplicate, List.getElem?_cons_zero, List.getElem?_cons_succ, List.set_cons_zero, List.set_cons_succ, Nat.reduceAdd, Nat.reduceSub, Nat.reduceLeDiff, decide_true, decide_false, if_true, Bool.true_and, Bool.and_true, Dv.bl.injEq, Dv.int.injEq, exists_eq_left, exists_eq_left', true_and, and_true, Bool.and_self, Bool.not_true, Bool.not_false, eq_self, ↓reduceIte, List.isEmpty_cons, Nat.zero_add, and_self, true_implies, decide_eq_true_eq, decide_eq_false_iff_not, dnE_var, dnE_gint, dnE_int, dnE_str, dnE_bl, dnE_non, dnE_tup, dnE_lst, dnE_bin, dnE_cmp, dnE_chain, dnE_not, dnE_neg, dnE_and, dnE_or, dnA_one, dnA_cons, dnO_one, dnO_cons, dnE_ife, dnE_ix, dnE_sl, dnS_slT, dnE_call, dnE_bi, dnE_bm, dnE_isi, dnE_dnew, dnE_disp, dnE_lc, dnE_lcStp, dnF_nil, dnF_cons, dnL_nil, dnL_cons, dnV_none, dnV_some, dnI_seq, dnI_rng1, dnI_rng2, dnI_enum, dnG_name, dnG_tup, dnG_sub, dnGL_nil, dnGL_cons, dnB_len_t, dnB_set0, dnB_int, ixs_t, src_t, cop_lt, cop_le, cop_gt, cop_ge, cop_eq, cop_ne, bop_add, bop_sub, bop_mul, bop_mod, bop_fdiv, bop_addT, bop_mulT, dnK_add (o.at_ 0 rfl), dnM_add (o.at_ 0 rfl), hc])
          have o' := o.set 0 rfl (.set (s ++ [g]))
          refine ⟨by omega, ?_⟩
          (try simp only [forall_const, reduceCtorEq, false_implies, implies_true, Bool.false_eq_true, Dv.tup.injEq, dnR_noX, dnS_toS, dnSL_cons, dnSL_nil, dn_par, dn_par3, dn_asg, dn_setlc, dn_exp, dn_ret, dn_iff, dn_aug, dn_forr, dn_whl, dn_brk, dn_cnt, dn_retn, start, wipeS, glLen, most, tyIs, Option.map_some, Option.bind_some, Option.some.injEq, List.map_cons, List.map_nil, List.cons_append, List.nil_append, List.length_cons, List.length_nil, List.reduceReplicate, List.getElem?_cons_zero, List.getElem?_cons_succ, List.set_cons_zero, List.set_cons_succ, Nat.reduceAdd, Nat.reduceSub, Nat.reduceLeDiff, decide_true, decide_false, if_true, Bool.true_and, Bool.and_true, Dv.bl.injEq, Dv.int.injEq, exists_eq_left, exists_eq_left', true_and, and_true, Bool.and_self, Bool.not_true, Bool.not_false, eq_self, ↓reduceIte, List.isEmpty_cons, Nat.zero_add, and_self, true_implies, decide_eq_true_eq, decide_eq_false_iff_not, dnE_var, dnE_gint, dnE_int, dnE_str, dnE_bl, dnE_non, dnE_tup, dnE_lst, dnE_bin, dnE_cmp, dnE_chain, dnE_not, dnE_neg, dnE_and, dnE_or, dnA_one, dnA_cons, dnO_one, dnO_cons, dnE_ife, dnE_ix, dnE_sl, dnS_slT, dnE_call, dnE_bi, dnE_bm, dnE_isi, dnE_dnew, dnE_disp, dnE_lc, dnE_lcStp, dnF_nil, dnF_cons, dnL_nil, dnL_cons, dnV_none, dnV_some, dnI_seq, dnI_rng1, dnI_rng2, dnI_enum, dnG_name, dnG_tup, dnG_sub, dnGL_nil, dnGL_cons, dnB_len_t, dnB_set0, dnB_int, ixs_t, src_t, cop_lt, cop_le, cop_gt, cop_ge, cop_eq, cop_ne, bop_add, bop_sub, bop_mul, bop_mod, bop_fdiv, bop_addT, bop_mulT, dnK_append (o'.at_ 1 rfl), dnM_append (o'.at_ 1 rfl), List.length_map])
          refine ⟨by omega, ?_⟩
          refine ⟨_, _, rfl, ?_⟩
          have o'' := o'.set 1 rfl (.lst (l.map .int ++ [.int g]))
          rw [List.map_append]
          exact o''
        · cases e
    · rintro σ h1 ⟨x, y, rfl, o⟩
      (try simp only [forall_const, reduceCtorEq, false_implies, implies_true, Bool.false_eq_true, Dv.tup.injEq, dnR_noX, dnS_toS, dnSL_cons, dnSL_nil, dn_par, dn_par3, dn_asg, dn_setlc, dn_exp, dn_ret, dn_iff, dn_aug, dn_forr, dn_whl, dn_brk, dn_cnt, dn_retn, start, wipeS, glLen, most, tyIs, Option.map_some, Option.bind_some, Option.some.injEq, List.map_cons, List.map_nil, List.cons_append, List.nil_append, List.length_cons, List.length_nil, List.reduceReplicate, List.getElem?_cons_zero, List.getElem?_cons_succ, List.set_cons_zero, List.set_cons_succ, Nat.reduceAdd, Nat.reduceSub, Nat.reduceLeDiff, decide_true, decide_false, if_true, Bool.true_and, Bool.and_true, Dv.bl.injEq, Dv.int.injEq, exists_eq_left, exists_eq_left', true_and, and_true, Bool.and_self, Bool.not_true, Bool.not_false, eq_self, ↓reduceIte, List.isEmpty_cons, Nat.zero_add, and_self, true_implies, decide_eq_true_eq, decide_eq_false_iff_not, dnE_var, dnE_gint, dnE_int, dnE_str, dnE_bl, dnE_non, dnE_tup, dnE_lst, dnE_bin, dnE_cmp, dnE_chain, dnE_not, dnE_neg, dnE_and, dnE_or, dnA_one, dnA_cons, dnO_one, dnO_cons, dnE_ife, dnE_ix, dnE_sl, dnS_slT, dnE_call, dnE_bi, dnE_bm, dnE_isi, dnE_dnew, dnE_disp, dnE_lc, dnE_lcStp, dnF_nil, dnF_cons, dnL_nil, dnL_cons, dnV_none, dnV_some, dnI_seq, dnI_rng1, dnI_rng2, dnI_enum, dnG_name, dnG_tup, dnG_sub, dnGL_nil, dnGL_cons, dnB_len_t, dnB_set0, dnB_int, ixs_t, src_t, cop_lt, cop_le, cop_gt, cop_ge, cop_eq, cop_ne, bop_add, bop_sub, bop_mul, bop_mod, bop_fdiv, bop_addT, bop_mulT])
      exact ⟨_, _, rfl, o⟩
  · rintro σ h1 ⟨x, y, rfl, o⟩
    (try simp only [forall_const, reduceCtorEq, false_implies, implies_true, Bool.false_eq_true, Dv.tup.injEq, dnR_noX, dnS_toS, dnSL_cons, dnSL_nil, dn_par, dn_par3, dn_asg, dn_setlc, dn_exp, dn_ret, dn_iff, dn_aug, dn_forr, dn_whl, dn_brk, dn_cnt, dn_retn, start, wipeS, glLen, most, tyIs, Option.map_some, Option.bind_some, Option.some.injEq, List.map_cons, List.map_nil, List.cons_append, List.nil_append, List.length_cons, List.length_nil, List.reduceReplicate, List.getElem?_cons_zero, List.getElem?_cons_succ, List.set_cons_zero, List.set_cons_succ, Nat.reduceAdd, Nat.reduceSub, Nat.reduceLeDiff, decide_true, decide_false, if_true, Bool.true_and, Bool.and_true, Dv.bl.injEq, Dv.int.injEq, exists_eq_left, exists_eq_left', true_and, and_true, Bool.and_self, Bool.not_true, Bool.not_false, eq_self, ↓reduceIte, List.isEmpty_cons, Nat.zero_add, and_self, true_implies, decide_eq_true_eq, decide_eq_false_iff_not, dnE_var, dnE_gint, dnE_int, dnE_str, dnE_bl, dnE_non, dnE_tup, dnE_lst, dnE_bin, dnE_cmp, dnE_chain, dnE_not, dnE_neg, dnE_and, dnE_or, dnA_one, dnA_cons, dnO_one, dnO_cons, dnE_ife, dnE_ix, dnE_sl, dnS_slT, dnE_call, dnE_bi, dnE_bm, dnE_isi, dnE_dnew, dnE_disp, dnE_lc, dnE_lcStp, dnF_nil, dnF_cons, dnL_nil, dnL_cons, dnV_none, dnV_some, dnI_seq, dnI_rng1, dnI_rng2, dnI_enum, dnG_name, dnG_tup, dnG_sub, dnGL_nil, dnGL_cons, dnB_len_t, dnB_set0, dnB_int, ixs_t, src_t, cop_lt, cop_le, cop_gt, cop_ge, cop_eq, cop_ne, bop_add, bop_sub, bop_mul, bop_mod, bop_fdiv, bop_addT, bop_mulT, dnB_tuple_l (o.at_ 1 rfl)])
    exact ⟨rfl, o.pre⟩
end
end FF
end

section
set_option Elab.async false
set_option linter.all false
set_option maxRecDepth 100000
set_option maxHeartbeats 4000000
/-! PL5: reached, renumbered, least. -/
namespace FF
open PySem

theorem toD_int (n : Nat) (h : Hh) (i : Int) : toD (n + 1) h (.int i) = some (.int i) := rfl
theorem mapM_ints (n : Nat) (h : Hh) (is : List Int) : (is.map Dv.int).mapM (toD (n + 1) h) = some (is.map PyData.int) := by
  induction is with
  | nil => rfl
  | cons i r ih => rw [List.map_cons, List.mapM_cons, ih, toD_int]; rfl
theorem toD_iL {h : Hh} {a n : Nat} {is : List Int} (e1 : h[a]? = some (.lst (is.map .int))) : toD (n + 2) h (.ref a) = some (.list (is.map .int)) := by
  unfold toD
  simp only [e1, mapM_ints, Option.map_some]
theorem cop_ne_nil {h : Hh} {a b : Nat} {is : List Int} (e1 : h[a]? = some (.lst (is.map .int))) (e2 : h[b]? = some (.lst [])) : cop .ne (.ref a) (.ref b) h = some (!is.isEmpty) := by
  have q2 : toD 8 h (.ref b) = some (.list []) := toD_iL (is := []) e2
  simp only [cop, deq, toD_iL e1, q2, Option.map_some, Option.some.injEq]
  cases is <;> simp [PyData.eqv, PyData.eqvAll]

/-! reached -/
def reachStep (flag : Int) (t : List Bool × List Int) (c : List Int) : Option (List Bool × List Int) :=
  (gA c flag).bind fun g => (gA t.1 g).bind fun b => if b then some t else (sA t.1 g true).bind fun f' => if t.2.length < 999 then some (f', t.2 ++ [g]) else none
def reachedM (p : List (List Int)) : Option (List Bool) :=
  (gA p 0).bind fun r0 => if r0.length < 1000 then
    (mapO (fun _ : Int => some (some false)) r0).bind fun f0 => (sA f0 0 true).bind fun f1 =>
    (whileM (fun s : List Bool × List Int => some (!s.2.isEmpty)) (fun s => s.2.getLast?.bind fun flag => (p.take 3).foldlM (reachStep flag) (s.1, s.2.dropLast)) 1000 (f1, [0])).map (·.1) else none
section
variable {wf : Nat} (hw : 2000 ≤ wf)
include hw
theorem reached_ok {n : Nat} {h : Hh} {p : List (List Int)} {r : List Bool} (e : reachedM p = some r) : dnR (callN Lw.T wf (n + 1) 0 [pT p] h) fun v h' => ∃ a, v = .ref a ∧ Own h h' [(a, .lst (r.map .bl))] := by
  refine call_ir rfl rfl ?_
  obtain ⟨r0, e1, e⟩ := opt_bind e
  split at e
  case isFalse => cases e
  rename_i hl
  obtain ⟨f0, e2, e⟩ := opt_bind e
  obtain ⟨f1, e3, e⟩ := opt_bind e
  obtain ⟨⟨f2, l2⟩, e4, rfl⟩ := Option.map_eq_some_iff.mp e
  simp only [pT]
  (try simp only [forall_const, reduceCtorEq, false_implies, implies_true, Bool.false_eq_true, Dv.tup.injEq, dnR_noX, dnS_toS, dnSL_cons, dnSL_nil, dn_par, dn_par3, dn_asg, dn_setlc, dn_exp, dn_ret, dn_iff, dn_aug, dn_forr, dn_whl, dn_brk, dn_cnt, dn_retn, start, wipeS, glLen, most, tyIs, Option.map_some, Option.bind_some, Option.some.injEq, List.map_cons, List.map_nil, List.cons_append, List.nil_append, List.length_cons, List.length_nil, List.reduceReplicate, List.getElem?_cons_zero, List.getElem?_cons_succ, List.set_cons_zero, List.set_cons_succ, Nat.reduceAdd, Nat.reduceSub, Nat.reduceLeDiff, decide_true, decide_false, if_true, Bool.true_and, Bool.and_true, Dv.bl.injEq, Dv.int.injEq, exists_eq_left, exists_eq_left', true_and, and_true, Bool.and_self, Bool.not_true, Bool.not_false, eq_self, ↓reduceIte, List.isEmpty_cons, Nat.zero_add, and_self, true_implies, decide_eq_true_eq, decide_eq_false_iff_not, dnE_var, dnE_gint, dnE_int, dnE_str, dnE_bl, dnE_non, dnE_tup, dnE_lst, dnE_bin, dnE_cmp, dnE_chain, dnE_not, dnE_neg, dnE_and, dnE_or, dnA_one, dnA_cons, dnO_one, dnO_cons, dnE_ife, dnE_ix, dnE_sl, dnS_slT, dnE_call, dnE_bi, dnE_bm, dnE_isi, dnE_dnew, dnE_disp, dnE_lc, dnE_lcStp, dnF_nil, dnF_cons, dnL_nil, dnL_cons, dnV_none, dnV_some, dnI_seq, dnI_rng1, dnI_rng2, dnI_enum, dnG_name, dnG_tup, dnG_sub, dnGL_nil, dnGL_cons, dnB_len_t, dnB_set0, dnB_int, ixs_t, src_t, cop_lt, cop_le, cop_gt, cop_ge, cop_eq, cop_ne, bop_add, bop_sub, bop_mul, bop_mod, bop_fdiv, bop_addT, bop_mulT, Lw.ir_reached, at0_map, e1, iT, dnE_lc])
  refine lcL_sim (Q := _) Dv.int Dv.bl r0 (fun h1 => h = h1) (fun _ : Int => some (some false)) (fun _ _ => rfl) ?_ e2 rfl (by omega) (by unfold most; omega) ?_
  · rintro h1 y o _ rfl e
    cases e
    (try simp only [forall_const, reduceCtorEq, false_implies, implies_true, Bool.false_eq_true, Dv.tup.injEq, dnR_noX, dnS_toS, dnSL_cons, dnSL_nil, dn_par, dn_par3, dn_asg, dn_setlc, dn_exp, dn_ret, dn_iff, dn_aug, dn_forr, dn_whl, dn_brk, dn_cnt, dn_retn, start, wipeS, glLen, most, tyIs, Option.map_some, Option.bind_some, Option.some.injEq, List.map_cons, List.map_nil, List.cons_append, List.nil_append, List.length_cons, List.length_nil, List.reduceReplicate, List.getElem?_cons_zero, List.getElem?_cons_succ, List.set_cons_zero, List.set_cons_succ, Nat.reduceAdd, Nat.reduceSub, Nat.reduceLeDiff, decide_true, decide_false, if_true, Bool.true_and, Bool.and_true, Dv.bl.injEq, Dv.int.injEq, exists_eq_left, exists_eq_left', true_and, and_true, Bool.and_self, Bool.not_true, Bool.not_false, eq_self, ↓reduceIte, List.isEmpty_cons, Nat.zero_add, and_self, true_implies, decide_eq_true_eq, decide_eq_false_iff_not, dnE_var, dnE_gint, dnE_int, dnE_str, dnE_bl, dnE_non, dnE_tup, dnE_lst, dnE_bin, dnE_cmp, dnE_chain, dnE_not, dnE_neg, dnE_and, dnE_or, dnA_one, dnA_cons, dnO_one, dnO_cons, dnE_ife, dnE_ix, dnE_sl, dnS_slT, dnE_call, dnE_bi, dnE_bm, dnE_isi, dnE_dnew, dnE_disp, dnE_lc, dnE_lcStp, dnF_nil, dnF_cons, dnL_nil, dnL_cons, dnV_none, dnV_some, dnI_seq, dnI_rng1, dnI_rng2, dnI_enum, dnG_name, dnG_tup, dnG_sub, dnGL_nil, dnGL_cons, dnB_len_t, dnB_set0, dnB_int, ixs_t, src_t, cop_lt, cop_le, cop_gt, cop_ge, cop_eq, cop_ne, bop_add, bop_sub, bop_mul, bop_mod, bop_fdiv, bop_addT, bop_mulT, dnE_lcStp])
  rintro _ rfl
  have o := (Own.nil h).alloc (.lst (f0.map .bl))
  generalize h ++ [Ob.lst (List.map Dv.bl f0)] = h1 at o ⊢
  generalize h.length = a at o ⊢
  (try simp only [forall_const, reduceCtorEq, false_implies, implies_true, Bool.false_eq_true, Dv.tup.injEq, dnR_noX, dnS_toS, dnSL_cons, dnSL_nil, dn_par, dn_par3, dn_asg, dn_setlc, dn_exp, dn_ret, dn_iff, dn_aug, dn_forr, dn_whl, dn_brk, dn_cnt, dn_retn, start, wipeS, glLen, most, tyIs, Option.map_some, Option.bind_some, Option.some.injEq, List.map_cons, List.map_nil, List.cons_append, List.nil_append, List.length_cons, List.length_nil, List.reduceReplicate, List.getElem?_cons_zero, List.getElem?_cons_succ, List.set_cons_zero, List.set_cons_succ, Nat.reduceAdd, Nat.reduceSub, Nat.reduceLeDiff, decide_true, decide_false, if_true, Bool.true_and, Bool.and_true, Dv.bl.injEq, Dv.int.injEq, exists_eq_left, exists_eq_left', true_and, and_true, Bool.and_self, Bool.not_true, Bool.not_false, eq_self, ↓reduceIte, List.isEmpty_cons, Nat.zero_add, and_self, true_implies, decide_eq_true_eq, decide_eq_false_iff_not, dnE_var, dnE_gint, dnE_int, dnE_str, dnE_bl, dnE_non, dnE_tup, dnE_lst, dnE_bin, dnE_cmp, dnE_chain, dnE_not, dnE_neg, dnE_and, dnE_or, dnA_one, dnA_cons, dnO_one, dnO_cons, dnE_ife, dnE_ix, dnE_sl, dnS_slT, dnE_call, dnE_bi, dnE_bm, dnE_isi, dnE_dnew, dnE_disp, dnE_lc, dnE_lcStp, dnF_nil, dnF_cons, dnL_nil, dnL_cons, dnV_none, dnV_some, dnI_seq, dnI_rng1, dnI_rng2, dnI_enum, dnG_name, dnG_tup, dnG_sub, dnGL_nil, dnGL_cons, dnB_len_t, dnB_set0, dnB_int, ixs_t, src_t, cop_lt, cop_le, cop_gt, cop_ge, cop_eq, cop_ne, bop_add, bop_sub, bop_mul, bop_mod, bop_fdiv, bop_addT, bop_mulT, sets_l (o.at_ 0 rfl), sA_map, e3])
  have o' := (o.set 0 rfl (.lst (f1.map .bl))).alloc (.lst [.int 0])
  generalize List.set h1 a (.lst (f1.map .bl)) ++ [Ob.lst [Dv.int 0]] = h2 at o' ⊢
  generalize List.length (List.set h1 a (.lst (f1.map .bl))) = b at o' ⊢
  refine whileL_sim (n := 1000) (fun (s : List Bool × List Int) σ h1 => ∃ x y, σ = [some (pT p), x, some (.ref a), some (.ref b), y] ∧ Own h h1 [(b, .lst (s.2.map .int)), (a, .lst (s.1.map .bl))]) _ _ ?_ ?_ e4 ⟨_, _, rfl, o'⟩ (by omega) ?_
  · rintro s σ h1 c ⟨x, y, rfl, o⟩ e
    cases e
    have o1 := o.alloc (.lst [])
    (try simp only [forall_const, reduceCtorEq, false_implies, implies_true, Bool.false_eq_true, Dv.tup.injEq, dnR_noX, dnS_toS, dnSL_cons, dnSL_nil, dn_par, dn_par3, dn_asg, dn_setlc, dn_exp, dn_ret, dn_iff, dn_aug, dn_forr, dn_whl, dn_brk, dn_cnt, dn_retn, start, wipeS, glLen, most, tyIs, Option.map_some, Option.bind_some, Option.some.injEq, List.map_cons, List.map_nil, List.cons_append, List.nil_append, List.length_cons, List.length_nil, List.reduceReplicate, List.getElem?_cons_zero, List.getElem?_cons_succ, List.set_cons_zero, List.set_cons_succ, Nat.reduceAdd, Nat.reduceSub, Nat.reduceLeDiff, decide_true, decide_false, if_true, Bool.true_and, Bool.and_true, Dv.bl.injEq, Dv.int.injEq, exists_eq_left, exists_eq_left', true_and, and_true, Bool.and_self, Bool.not_true, Bool.not_false, eq_self, ↓reduceIte, List.isEmpty_cons, Nat.zero_add, and_self, true_implies, decide_eq_true_eq, decide_eq_false_iff_not, dnE_var, dnE_gint, dnE_int, dnE_str, dnE_bl, dnE_non, dnE_tup, dnE_lst, dnE_bin, dnE_cmp, dnE_chain, dnE_not, dnE_neg, dnE_and, dnE_or, dnA_one, dnA_cons, dnO_one, dnO_cons, dnE_ife, dnE_ix, dnE_sl, dnS_slT, dnE_call, dnE_bi, dnE_bm, dnE_isi, dnE_dnew, dnE_disp, dnE_lc, dnE_lcStp, dnF_nil, dnF_cons, dnL_nil, dnL_cons, dnV_none, dnV_some, dnI_seq, dnI_rng1, dnI_rng2, dnI_enum, dnG_name, dnG_tup, dnG_sub, dnGL_nil, dnGL_cons, dnB_len_t, dnB_set0, dnB_int, ixs_t, src_t, cop_lt, cop_le, cop_gt, cop_ge, cop_eq, cop_ne, bop_add, bop_sub, bop_mul, bop_mod, bop_fdiv, bop_addT, bop_mulT, cop_ne_nil (o1.at_ 1 rfl) (o1.at_ 0 rfl)])
    exact ⟨_, _, rfl, o.garb _⟩
  · rintro ⟨f, l⟩ s' σ h1 ⟨x, y, rfl, o⟩ e _
    obtain ⟨flag, e5, e6⟩ := opt_bind e
    simp only [pT]
    have e7 : (l.map Dv.int).getLast? = some (.int flag) := by rw [List.getLast?_map, e5]; rfl
    (try simp only [forall_const, reduceCtorEq, false_implies, implies_true, Bool.false_eq_true, Dv.tup.injEq, dnR_noX, dnS_toS, dnSL_cons, dnSL_nil, dn_par, dn_par3, dn_asg, dn_setlc, dn_exp, dn_ret, dn_iff, dn_aug, dn_forr, dn_whl, dn_brk, dn_cnt, dn_retn, start, wipeS, glLen, most, tyIs, Option.map_some, Option.bind_some, Option.some.injEq, List.map_cons, List.map_nil, List.cons_append, List.nil_append, List.length_cons, List.length_nil, List.reduceReplicate, List.getElem?_cons_zero, List.getElem?_cons_succ, List.set_cons_zero, List.set_cons_succ, Nat.reduceAdd, Nat.reduceSub, Nat.reduceLeDiff, decide_true, decide_false, if_true, Bool.true_and, Bool.and_true, Dv.bl.injEq, Dv.int.injEq, exists_eq_left, exists_eq_left', true_and, and_true, Bool.and_self, Bool.not_true, Bool.not_false, eq_self, ↓reduceIte, List.isEmpty_cons, Nat.zero_add, and_self, true_implies, decide_eq_true_eq, decide_eq_false_iff_not, dnE_var, dnE_gint, dnE_int, dnE_str, dnE_bl, dnE_non, dnE_tup, dnE_lst, dnE_bin, dnE_cmp, dnE_chain, dnE_not, dnE_neg, dnE_and, dnE_or, dnA_one, dnA_cons, dnO_one, dnO_cons, dnE_ife, dnE_ix, dnE_sl, dnS_slT, dnE_call, dnE_bi, dnE_bm, dnE_isi, dnE_dnew, dnE_disp, dnE_lc, dnE_lcStp, dnF_nil, dnF_cons, dnL_nil, dnL_cons, dnV_none, dnV_some, dnI_seq, dnI_rng1, dnI_rng2, dnI_enum, dnG_name, dnG_tup, dnG_sub, dnGL_nil, dnGL_cons, dnB_len_t, dnB_set0, dnB_int, ixs_t, src_t, cop_lt, cop_le, cop_gt, cop_ge, cop_eq, cop_ne, bop_add, bop_sub, bop_mul, bop_mod, bop_fdiv, bop_addT, bop_mulT, dnK_pop (o.at_ 0 rfl), dnM_pop (o.at_ 0 rfl), e7, cut_take3])
    have o' := o.set 0 rfl (.lst (l.map Dv.int).dropLast)
    rw [← List.map_dropLast] at o' ⊢
    refine forL_sim iT (p.take 3) (fun (s : List Bool × List Int) σ h1 => ∃ y, σ = [some (pT p), some (.int flag), some (.ref a), some (.ref b), y] ∧ Own h h1 [(b, .lst (s.2.map .int)), (a, .lst (s.1.map .bl))]) (reachStep flag) ?_ ?_ e6 ⟨_, rfl, o'⟩ (by rw [List.length_take]; omega) ?_
    · exact fun s σ h1 _ => rfl
    · rintro ⟨f, l⟩ t σ h1 c _ ⟨y, rfl, o⟩ e
      simp only [reachStep] at e
      obtain ⟨g, e1, e⟩ := opt_bind e
      obtain ⟨b', e2, e⟩ := opt_bind e
      (try simp only [forall_const, reduceCtorEq, false_implies, implies_true, Bool.false_eq_true, Dv.tup.injEq, dnR_noX, dnS_toS, dnSL_cons, dnSL_nil, dn_par, dn_par3, dn_asg, dn_setlc, dn_exp, dn_ret, dn_iff, dn_aug, dn_forr, dn_whl, dn_brk, dn_cnt, dn_retn, start, wipeS, glLen, most, tyIs, Option.map_some, Option.bind_some, Option.some.injEq, List.map_cons, List.map_nil, List.cons_append, List.nil_append, List.length_cons, List.length_nil, List.reduceReplicate, List.getElem?_cons_zero, List.getElem?_cons_succ, List.set_cons_zero, List.set_cons_succ, Nat.reduceAdd, Nat.reduceSub, Nat.reduceLeDiff, decide_true, decide_false, if_true, Bool.true_and, Bool.and_true, Dv.bl.injEq, Dv.int.injEq, exists_eq_left, exists_eq_left', true_and, and_true, Bool.and_self, Bool.not_true, Bool.not_false, eq_self, ↓reduceIte, List.isEmpty_cons, Nat.zero_add, and_self, true_implies, decide_eq_true_eq, decide_eq_false_iff_not, dnE_var, dnE_gint, dnE_int, dnE_str, dnE_bl, dnE_non, dnE_tup, dnE_lst, dnE_bin, dnE_cmp, dnE_chain, dnE_not, dnE_neg, dnE_and, dnE_or, dnA_one, dnA_cons, dnO_one, dnO_cons, dnE_ife, dnE_ix, dnE_sl, dnS_slT, dnE_call, dnE_bi, dnE_bm, dnE_isi, dnE_dnew, dnE_disp, dnE_lc, dnE_lcStp, dnF_nil, dnF_cons, dnL_nil, dnL_cons, dnV_none, dnV_some, dnI_seq, dnI_rng1, dnI_rng2, dnI_enum, dnG_name, dnG_tup, dnG_sub, dnGL_nil, dnGL_cons, dnB_len_t, dnB_set0, dnB_int, ixs_t, src_t, cop_lt, cop_le, cop_gt, cop_ge, cop_eq, cop_ne, bop_add, bop_sub, bop_mul, bop_mod, bop_fdiv, bop_addT, bop_mulT, ixs_l (o.at_ 1 rfl), iT, at0_map, e1, e2])
      cases b' with
      | true =>
        rw [if_pos rfl] at e
        cases e
        exact ⟨fun z => by simp at z, fun _ => ⟨_, rfl, o⟩⟩
      | false =>
        rw [if_neg (by decide)] at e
        obtain ⟨f', e3, e⟩ := opt_bind e
        split at e
        · rename_i hl
          cases e
          refine ⟨fun _ => ?_, fun z => by simp at z⟩
          (try simp only [forall_const, reduceCtorEq, false_implies, implies_true, Bool.false_eq_true, Dv.tup.injEq, dnR_noX, dnS_toS, dnSL_cons, dnSL_nil, dn_par, dn_par3, dn_asg, dn_setlc, dn_exp, dn_ret, dn_iff, dn_aug, dn_forr, dn_whl, dn_brk, dn_cnt, dn_retn, start, wipeS, glLen, most, tyIs, Option.map_some, Option.bind_some, Option.some.injEq, List.map_cons, List.map_nil, List.cons_append, List.nil_append, List.length_cons, List.length_nil, List.reduceReplicate, List.getElem?_cons_zero, List.getElem?_cons_succ, List.set_cons_zero, List.set_cons_succ, Nat.reduceAdd, Nat.reduceSub, Nat.reduceLeDiff, decide_true, decide_false, if_true, Bool.true_and, Bool.and_true, Dv.bl.injEq, Dv.int.injEq, exists_eq_left, exists_eq_left', true_and, and_true, Bool.and_self, Bool.not_true, Bool.not_false, eq_self, ↓reduceIte, List.isEmpty_cons, Nat.zero_add, and_self, true_implies, decide_eq_true_eq, decide_eq_false_iff_not, dnE_var, dnE_gint, dnE_int, dnE_str, dnE_bl, dnE_non, dnE_tup, dnE_lst, dnE_bin, dnE_cmp, dnE_chain, dnE_not, dnE_neg, dnE_and, dnE_or, dnA_one, dnA_cons, dnO_one, dnO_cons, dnE_ife, dnE_ix, dnE_sl, dnS_slT, dnE_call, dnE_bi, dnE_bm, dnE_isi, dnE_dnew, dnE_disp, dnE_lc, dnE_lcStp, dnF_nil, dnF_cons, dnL_nil, dnL_cons, dnV_none, dnV_some, dnI_seq, dnI_rng1, dnI_rng2, dnI_enum, dnG_name, dnG_tup, dnG_sub, dnGL_nil, dnGL_cons, dnB_len_t, dnB_set0, dnB_int, ixs_t, src_t, cop_lt, cop_le, cop_gt, cop_ge, cop_eq, cop_ne, bop_add, bop_sub, bop_mul, bop_mod, bop_fdiv, bop_addT, bop_mulT, sets_l (o.at_ 1 rfl), sA_map, e3])
          have o' := o.set 1 rfl (.lst (f'.map .bl))
          generalize List.set h1 a (.lst (f'.map .bl)) = h2 at o' ⊢
          (try simp only [forall_const, reduceCtorEq, false_implies, implies_true, Bool.false_eq_true, Dv.tup.injEq, dnR_noX, dnS_toS, dnSL_cons, dnSL_nil, dn_par, dn_par3, dn_asg, dn_setlc, dn_exp, dn_ret, dn_iff, dn_aug, dn_forr, dn_whl, dn_brk, dn_cnt, dn_retn, start, wipeS, glLen, most, tyIs, Option.map_some, Option.bind_some, Option.some.injEq, List.map_cons, List.map_nil, List.cons_append, List.nil_append, List.length_cons, List.length_nil, List.reduceReplicate, List.getElem?_cons_zero, List.getElem?_cons_succ, List.set_cons_zero, List.set_cons_succ, Nat.reduceAdd, Nat.reduceSub, Nat.reduceLeDiff, decide_true, decide_false, if_true, Bool.true_and, Bool.and_true, Dv.bl.injEq, Dv.int.injEq, exists_eq_left, exists_eq_left', true_and, and_true, Bool.and_self, Bool.not_true, Bool.not_false, eq_self, ↓reduceIte, List.isEmpty_cons, Nat.zero_add, and_self, true_implies, decide_eq_true_eq, decide_eq_false_iff_not, dnE_var, dnE_gint, dnE_int, dnE_str, dnE_bl, dnE_non, dnE_tup, dnE_lst, dnE_bin, dnE_cmp, dnE_chain, dnE_not, dnE_neg, dnE_and, dnE_or, dnA_one, dnA_cons, dnO_one, dnO_cons, dnE_ife, dnE_ix, dnE_sl, dnS_slT, dnE_call, dnE_bi, dnE_bm, dnE_isi, dnE_dnew, dnE_disp, dnE_lc, dnE_lcStp, dnF_nil, dnF_cons, dnL_nil, dnL_cons, dnV_none, dnV_some, dnI_seq, dnI_rng1, dnI_rng2, dnI_enum, dnG_name, dnG_tup, dnG_sub, dnGL_nil, dnGL_cons, dnB_len_t, dnB_set0, dnB_int, ixs_t, src_t, cop_lt, cop_le, cop_gt, cop_ge, cop_eq, cop_ne, bop_add, bop_sub, bop_mul, bop_mod, bop_fdiv, bop_addT, bop_mulT, dnK_append (o'.at_ 0 rfl), dnM_append (o'.at_ 0 rfl), List.length_map, at0_map, e1])
          refine ⟨by omega, _, rfl, ?_⟩
          have o'' := o'.set 0 rfl (.lst (l.map .int ++ [.int g]))
          rw [List.map_append]
          exact o''
        · cases e
    · rintro σ h1 ⟨y, rfl, o⟩
      exact ⟨_, _, rfl, o⟩
  · rintro σ h1 ⟨x, y, rfl, o⟩
    (try simp only [forall_const, reduceCtorEq, false_implies, implies_true, Bool.false_eq_true, Dv.tup.injEq, dnR_noX, dnS_toS, dnSL_cons, dnSL_nil, dn_par, dn_par3, dn_asg, dn_setlc, dn_exp, dn_ret, dn_iff, dn_aug, dn_forr, dn_whl, dn_brk, dn_cnt, dn_retn, start, wipeS, glLen, most, tyIs, Option.map_some, Option.bind_some, Option.some.injEq, List.map_cons, List.map_nil, List.cons_append, List.nil_append, List.length_cons, List.length_nil, List.reduceReplicate, List.getElem?_cons_zero, List.getElem?_cons_succ, List.set_cons_zero, List.set_cons_succ, Nat.reduceAdd, Nat.reduceSub, Nat.reduceLeDiff, decide_true, decide_false, if_true, Bool.true_and, Bool.and_true, Dv.bl.injEq, Dv.int.injEq, exists_eq_left, exists_eq_left', true_and, and_true, Bool.and_self, Bool.not_true, Bool.not_false, eq_self, ↓reduceIte, List.isEmpty_cons, Nat.zero_add, and_self, true_implies, decide_eq_true_eq, decide_eq_false_iff_not, dnE_var, dnE_gint, dnE_int, dnE_str, dnE_bl, dnE_non, dnE_tup, dnE_lst, dnE_bin, dnE_cmp, dnE_chain, dnE_not, dnE_neg, dnE_and, dnE_or, dnA_one, dnA_cons, dnO_one, dnO_cons, dnE_ife, dnE_ix, dnE_sl, dnS_slT, dnE_call, dnE_bi, dnE_bm, dnE_isi, dnE_dnew, dnE_disp, dnE_lc, dnE_lcStp, dnF_nil, dnF_cons, dnL_nil, dnL_cons, dnV_none, dnV_some, dnI_seq, dnI_rng1, dnI_rng2, dnI_enum, dnG_name, dnG_tup, dnG_sub, dnGL_nil, dnGL_cons, dnB_len_t, dnB_set0, dnB_int, ixs_t, src_t, cop_lt, cop_le, cop_gt, cop_ge, cop_eq, cop_ne, bop_add, bop_sub, bop_mul, bop_mod, bop_fdiv, bop_addT, bop_mulT])
    exact ⟨a, rfl, o.drop _ (by simp)⟩
end
end FF
end

section
set_option Elab.async false
set_option linter.all false
set_option maxRecDepth 100000
set_option maxHeartbeats 4000000
/-! PL6: renumbered. -/
namespace FF
open PySem
theorem get_fr {h : Hh} {x : Ob} : (h ++ [x])[h.length]? = some x := by simp
theorem dnB_tuple_fr {h : Hh} {xs : List Dv} {Q : Dv → Hh → Prop} : dnR (bis .tuple [.ref h.length] (h ++ [.lst xs])) Q = Q (.tup xs) (h ++ [.lst xs]) := dnB_tuple_l get_fr
theorem dnB_any_fr {h : Hh} {bs : List Bool} {Q : Dv → Hh → Prop} : dnR (bis .any [.ref h.length] (h ++ [.lst (bs.map .bl)])) Q = Q (.bl (bs.any id)) (h ++ [.lst (bs.map .bl)]) := dnB_any get_fr
theorem enum_list {h : Hh} {ls : List Int} : It.list h (.enum (.t (ls.map .int))) = some (ls.zipIdx.map fun p : Int × Nat => .tup [.int p.2, .int p.1]) := by
  simp only [It.list, Src.look, Option.map_some, List.zipIdx_map, List.map_map, Option.some.injEq]
  rfl
/-- [f(x) for x in a tuple] -/
def renumM (p : List (List Int)) (ls : List Int) : Option (List (List Int)) :=
  if ls.length < 1000 then
    (mapO (fun _ : Int => some (some (0 : Int))) ls).bind fun n0 =>
    (ls.zipIdx.foldlM (fun (s : List Int) (q : Int × Nat) => sA s q.1 (q.2 : Int)) n0).bind fun num =>
    (mapO (fun c : List Int => (mapO (fun f : Int => (gA c f).bind fun y => (gA num y).map some) ls).map some) (p.take 3)).bind fun ch =>
    (gA p 3).bind fun p3 => (mapO (fun f : Int => (gA p3 f).map some) ls).bind fun pp =>
    (gA p 4).bind fun p4 => (mapO (fun f : Int => (gA p4 f).map some) ls).bind fun qq =>
    (gA ch 0).bind fun c0 => (gA ch 1).bind fun c1 => (gA ch 2).bind fun c2 => some [c0, c1, c2, pp, qq]
  else none
section
variable {wf : Nat} (hw : 2000 ≤ wf)
include hw
theorem renumbered_ok {n : Nat} {h : Hh} {p : List (List Int)} {ls : List Int} {r : List (List Int)} (e : renumM p ls = some r) : dnR (callN Lw.T wf (n + 1) 1 [pT p, iT ls] h) fun v h' => v = pT r ∧ h <+: h' := by
  refine call_ir rfl rfl ?_
  unfold renumM at e
  split at e
  case isFalse => cases e
  rename_i hl
  obtain ⟨n0, e1, e⟩ := opt_bind e
  obtain ⟨num, e2, e⟩ := opt_bind e
  obtain ⟨ch, e3, e⟩ := opt_bind e
  obtain ⟨p3, e4, e⟩ := opt_bind e
  obtain ⟨pp, e5, e⟩ := opt_bind e
  obtain ⟨p4, e6, e⟩ := opt_bind e
  obtain ⟨qq, e7, e⟩ := opt_bind e
  obtain ⟨c0, e8, e⟩ := opt_bind e
  obtain ⟨c1, e9, e⟩ := opt_bind e
  obtain ⟨c2, e10, e⟩ := opt_bind e
  cases e
  simp only [pT, iT]
  (try simp only [forall_const, reduceCtorEq, false_implies, implies_true, Bool.false_eq_true, Dv.tup.injEq, dnR_noX, dnS_toS, dnSL_cons, dnSL_nil, dn_par, dn_par3, dn_asg, dn_setlc, dn_exp, dn_ret, dn_iff, dn_aug, dn_forr, dn_whl, dn_brk, dn_cnt, dn_retn, start, wipeS, glLen, most, tyIs, Option.map_some, Option.bind_some, Option.some.injEq, List.map_cons, List.map_nil, List.cons_append, List.nil_append, List.length_cons, List.length_nil, List.reduceReplicate, List.getElem?_cons_zero, List.getElem?_cons_succ, List.set_cons_zero, List.set_cons_succ, Nat.reduceAdd, Nat.reduceSub, Nat.reduceLeDiff, decide_true, decide_false, if_true, Bool.true_and, Bool.and_true, Dv.bl.injEq, Dv.int.injEq, exists_eq_left, exists_eq_left', true_and, and_true, Bool.and_self, Bool.not_true, Bool.not_false, eq_self, ↓reduceIte, List.isEmpty_cons, Nat.zero_add, and_self, true_implies, decide_eq_true_eq, decide_eq_false_iff_not, dnE_var, dnE_gint, dnE_int, dnE_str, dnE_bl, dnE_non, dnE_tup, dnE_lst, dnE_bin, dnE_cmp, dnE_chain, dnE_not, dnE_neg, dnE_and, dnE_or, dnA_one, dnA_cons, dnO_one, dnO_cons, dnE_ife, dnE_ix, dnE_sl, dnS_slT, dnE_call, dnE_bi, dnE_bm, dnE_isi, dnE_dnew, dnE_disp, dnE_lc, dnE_lcStp, dnF_nil, dnF_cons, dnL_nil, dnL_cons, dnV_none, dnV_some, dnI_seq, dnI_rng1, dnI_rng2, dnI_enum, dnG_name, dnG_tup, dnG_sub, dnGL_nil, dnGL_cons, dnB_len_t, dnB_set0, dnB_int, ixs_t, src_t, cop_lt, cop_le, cop_gt, cop_ge, cop_eq, cop_ne, bop_add, bop_sub, bop_mul, bop_mod, bop_fdiv, bop_addT, bop_mulT, Lw.ir_renumbered, dnE_lc])
  refine lcL_sim (Q := _) Dv.int Dv.int ls (fun h1 => h = h1) (fun _ : Int => some (some (0 : Int))) (fun _ _ => rfl) ?_ e1 rfl (by omega) (by unfold most; omega) ?_
  · rintro h1 y o _ rfl e
    cases e
    (try simp only [forall_const, reduceCtorEq, false_implies, implies_true, Bool.false_eq_true, Dv.tup.injEq, dnR_noX, dnS_toS, dnSL_cons, dnSL_nil, dn_par, dn_par3, dn_asg, dn_setlc, dn_exp, dn_ret, dn_iff, dn_aug, dn_forr, dn_whl, dn_brk, dn_cnt, dn_retn, start, wipeS, glLen, most, tyIs, Option.map_some, Option.bind_some, Option.some.injEq, List.map_cons, List.map_nil, List.cons_append, List.nil_append, List.length_cons, List.length_nil, List.reduceReplicate, List.getElem?_cons_zero, List.getElem?_cons_succ, List.set_cons_zero, List.set_cons_succ, Nat.reduceAdd, Nat.reduceSub, Nat.reduceLeDiff, decide_true, decide_false, if_true, Bool.true_and, Bool.and_true, Dv.bl.injEq, Dv.int.injEq, exists_eq_left, exists_eq_left', true_and, and_true, Bool.and_self, Bool.not_true, Bool.not_false, eq_self, ↓reduceIte, List.isEmpty_cons, Nat.zero_add, and_self, true_implies, decide_eq_true_eq, decide_eq_false_iff_not, dnE_var, dnE_gint, dnE_int, dnE_str, dnE_bl, dnE_non, dnE_tup, dnE_lst, dnE_bin, dnE_cmp, dnE_chain, dnE_not, dnE_neg, dnE_and, dnE_or, dnA_one, dnA_cons, dnO_one, dnO_cons, dnE_ife, dnE_ix, dnE_sl, dnS_slT, dnE_call, dnE_bi, dnE_bm, dnE_isi, dnE_dnew, dnE_disp, dnE_lc, dnE_lcStp, dnF_nil, dnF_cons, dnL_nil, dnL_cons, dnV_none, dnV_some, dnI_seq, dnI_rng1, dnI_rng2, dnI_enum, dnG_name, dnG_tup, dnG_sub, dnGL_nil, dnGL_cons, dnB_len_t, dnB_set0, dnB_int, ixs_t, src_t, cop_lt, cop_le, cop_gt, cop_ge, cop_eq, cop_ne, bop_add, bop_sub, bop_mul, bop_mod, bop_fdiv, bop_addT, bop_mulT, dnE_lcStp])
  rintro _ rfl
  have o := (Own.nil h).alloc (.lst (n0.map .int))
  generalize h ++ [Ob.lst (List.map Dv.int n0)] = h1 at o ⊢
  generalize h.length = a at o ⊢
  refine forL_sim (fun q : Int × Nat => .tup [.int q.2, .int q.1]) ls.zipIdx (fun (s : List Int) σ h1 => ∃ x y, σ = [some (.tup (p.map iT)), some (.tup (ls.map .int)), x, some (.ref a), y, none, none, none, none] ∧ Own h h1 [(a, .lst (s.map .int))]) _ ?_ ?_ e2 ⟨_, _, rfl, o⟩ (by rw [List.length_zipIdx]; omega) ?_
  · exact fun s σ h1 _ => enum_list
  · rintro s t σ h1 ⟨y, k⟩ _ ⟨u, v, rfl, o⟩ e
    (try simp only [forall_const, reduceCtorEq, false_implies, implies_true, Bool.false_eq_true, Dv.tup.injEq, dnR_noX, dnS_toS, dnSL_cons, dnSL_nil, dn_par, dn_par3, dn_asg, dn_setlc, dn_exp, dn_ret, dn_iff, dn_aug, dn_forr, dn_whl, dn_brk, dn_cnt, dn_retn, start, wipeS, glLen, most, tyIs, Option.map_some, Option.bind_some, Option.some.injEq, List.map_cons, List.map_nil, List.cons_append, List.nil_append, List.length_cons, List.length_nil, List.reduceReplicate, List.getElem?_cons_zero, List.getElem?_cons_succ, List.set_cons_zero, List.set_cons_succ, Nat.reduceAdd, Nat.reduceSub, Nat.reduceLeDiff, decide_true, decide_false, if_true, Bool.true_and, Bool.and_true, Dv.bl.injEq, Dv.int.injEq, exists_eq_left, exists_eq_left', true_and, and_true, Bool.and_self, Bool.not_true, Bool.not_false, eq_self, ↓reduceIte, List.isEmpty_cons, Nat.zero_add, and_self, true_implies, decide_eq_true_eq, decide_eq_false_iff_not, dnE_var, dnE_gint, dnE_int, dnE_str, dnE_bl, dnE_non, dnE_tup, dnE_lst, dnE_bin, dnE_cmp, dnE_chain, dnE_not, dnE_neg, dnE_and, dnE_or, dnA_one, dnA_cons, dnO_one, dnO_cons, dnE_ife, dnE_ix, dnE_sl, dnS_slT, dnE_call, dnE_bi, dnE_bm, dnE_isi, dnE_dnew, dnE_disp, dnE_lc, dnE_lcStp, dnF_nil, dnF_cons, dnL_nil, dnL_cons, dnV_none, dnV_some, dnI_seq, dnI_rng1, dnI_rng2, dnI_enum, dnG_name, dnG_tup, dnG_sub, dnGL_nil, dnGL_cons, dnB_len_t, dnB_set0, dnB_int, ixs_t, src_t, cop_lt, cop_le, cop_gt, cop_ge, cop_eq, cop_ne, bop_add, bop_sub, bop_mul, bop_mod, bop_fdiv, bop_addT, bop_mulT, sets_l (o.at_ 0 rfl), sA_map, e])
    exact ⟨_, _, rfl, o.set 0 rfl _⟩
  rintro σ h1 ⟨x, y, rfl, o⟩
  (try simp only [forall_const, reduceCtorEq, false_implies, implies_true, Bool.false_eq_true, Dv.tup.injEq, dnR_noX, dnS_toS, dnSL_cons, dnSL_nil, dn_par, dn_par3, dn_asg, dn_setlc, dn_exp, dn_ret, dn_iff, dn_aug, dn_forr, dn_whl, dn_brk, dn_cnt, dn_retn, start, wipeS, glLen, most, tyIs, Option.map_some, Option.bind_some, Option.some.injEq, List.map_cons, List.map_nil, List.cons_append, List.nil_append, List.length_cons, List.length_nil, List.reduceReplicate, List.getElem?_cons_zero, List.getElem?_cons_succ, List.set_cons_zero, List.set_cons_succ, Nat.reduceAdd, Nat.reduceSub, Nat.reduceLeDiff, decide_true, decide_false, if_true, Bool.true_and, Bool.and_true, Dv.bl.injEq, Dv.int.injEq, exists_eq_left, exists_eq_left', true_and, and_true, Bool.and_self, Bool.not_true, Bool.not_false, eq_self, ↓reduceIte, List.isEmpty_cons, Nat.zero_add, and_self, true_implies, decide_eq_true_eq, decide_eq_false_iff_not, dnE_var, dnE_gint, dnE_int, dnE_str, dnE_bl, dnE_non, dnE_tup, dnE_lst, dnE_bin, dnE_cmp, dnE_chain, dnE_not, dnE_neg, dnE_and, dnE_or, dnA_one, dnA_cons, dnO_one, dnO_cons, dnE_ife, dnE_ix, dnE_sl, dnS_slT, dnE_call, dnE_bi, dnE_bm, dnE_isi, dnE_dnew, dnE_disp, dnE_lc, dnE_lcStp, dnF_nil, dnF_cons, dnL_nil, dnL_cons, dnV_none, dnV_some, dnI_seq, dnI_rng1, dnI_rng2, dnI_enum, dnG_name, dnG_tup, dnG_sub, dnGL_nil, dnGL_cons, dnB_len_t, dnB_set0, dnB_int, ixs_t, src_t, cop_lt, cop_le, cop_gt, cop_ge, cop_eq, cop_ne, bop_add, bop_sub, bop_mul, bop_mod, bop_fdiv, bop_addT, bop_mulT, dnE_lc, cut_take3])
  refine lcL_sim (Q := _) iT iT (p.take 3) (fun h1 => Own h h1 [(a, .lst (num.map .int))]) _ (fun _ _ => rfl) ?_ e3 o (by rw [List.length_take]; omega) (by unfold most; rw [List.length_take]; omega) ?_
  · rintro h1 c r _ o e
    obtain ⟨r, e', rfl⟩ := Option.map_eq_some_iff.mp e
    (try simp only [forall_const, reduceCtorEq, false_implies, implies_true, Bool.false_eq_true, Dv.tup.injEq, dnR_noX, dnS_toS, dnSL_cons, dnSL_nil, dn_par, dn_par3, dn_asg, dn_setlc, dn_exp, dn_ret, dn_iff, dn_aug, dn_forr, dn_whl, dn_brk, dn_cnt, dn_retn, start, wipeS, glLen, most, tyIs, Option.map_some, Option.bind_some, Option.some.injEq, List.map_cons, List.map_nil, List.cons_append, List.nil_append, List.length_cons, List.length_nil, List.reduceReplicate, List.getElem?_cons_zero, List.getElem?_cons_succ, List.set_cons_zero, List.set_cons_succ, Nat.reduceAdd, Nat.reduceSub, Nat.reduceLeDiff, decide_true, decide_false, if_true, Bool.true_and, Bool.and_true, Dv.bl.injEq, Dv.int.injEq, exists_eq_left, exists_eq_left', true_and, and_true, Bool.and_self, Bool.not_true, Bool.not_false, eq_self, ↓reduceIte, List.isEmpty_cons, Nat.zero_add, and_self, true_implies, decide_eq_true_eq, decide_eq_false_iff_not, dnE_var, dnE_gint, dnE_int, dnE_str, dnE_bl, dnE_non, dnE_tup, dnE_lst, dnE_bin, dnE_cmp, dnE_chain, dnE_not, dnE_neg, dnE_and, dnE_or, dnA_one, dnA_cons, dnO_one, dnO_cons, dnE_ife, dnE_ix, dnE_sl, dnS_slT, dnE_call, dnE_bi, dnE_bm, dnE_isi, dnE_dnew, dnE_disp, dnE_lc, dnE_lcStp, dnF_nil, dnF_cons, dnL_nil, dnL_cons, dnV_none, dnV_some, dnI_seq, dnI_rng1, dnI_rng2, dnI_enum, dnG_name, dnG_tup, dnG_sub, dnGL_nil, dnGL_cons, dnB_len_t, dnB_set0, dnB_int, ixs_t, src_t, cop_lt, cop_le, cop_gt, cop_ge, cop_eq, cop_ne, bop_add, bop_sub, bop_mul, bop_mod, bop_fdiv, bop_addT, bop_mulT, dnE_lcStp, dnE_lc, iT])
    refine lcL_sim (Q := _) Dv.int Dv.int ls (fun h1 => Own h h1 [(a, .lst (num.map .int))]) _ (fun _ _ => rfl) ?_ e' o (by omega) (by unfold most; omega) ?_
    · rintro h1 y r _ o e
      obtain ⟨z, q1, e⟩ := opt_bind e
      obtain ⟨w, q2, rfl⟩ := Option.map_eq_some_iff.mp e
      (try simp only [forall_const, reduceCtorEq, false_implies, implies_true, Bool.false_eq_true, Dv.tup.injEq, dnR_noX, dnS_toS, dnSL_cons, dnSL_nil, dn_par, dn_par3, dn_asg, dn_setlc, dn_exp, dn_ret, dn_iff, dn_aug, dn_forr, dn_whl, dn_brk, dn_cnt, dn_retn, start, wipeS, glLen, most, tyIs, Option.map_some, Option.bind_some, Option.some.injEq, List.map_cons, List.map_nil, List.cons_append, List.nil_append, List.length_cons, List.length_nil, List.reduceReplicate, List.getElem?_cons_zero, List.getElem?_cons_succ, List.set_cons_zero, List.set_cons_succ, Nat.reduceAdd, Nat.reduceSub, Nat.reduceLeDiff, decide_true, decide_false, if_true, Bool.true_and, Bool.and_true, Dv.bl.injEq, Dv.int.injEq, exists_eq_left, exists_eq_left', true_and, and_true, Bool.and_self, Bool.not_true, Bool.not_false, eq_self, ↓reduceIte, List.isEmpty_cons, Nat.zero_add, and_self, true_implies, decide_eq_true_eq, decide_eq_false_iff_not, dnE_var, dnE_gint, dnE_int, dnE_str, dnE_bl, dnE_non, dnE_tup, dnE_lst, dnE_bin, dnE_cmp, dnE_chain, dnE_not, dnE_neg, dnE_and, dnE_or, dnA_one, dnA_cons, dnO_one, dnO_cons, dnE_ife, dnE_ix, dnE_sl, dnS_slT, dnE_call, dnE_bi, dnE_bm, dnE_isi, dnE_dnew, dnE_disp, dnE_lc, dnE_lcStp, dnF_nil, dnF_cons, dnL_nil, dnL_cons, dnV_none, dnV_some, dnI_seq, dnI_rng1, dnI_rng2, dnI_enum, dnG_name, dnG_tup, dnG_sub, dnGL_nil, dnGL_cons, dnB_len_t, dnB_set0, dnB_int, ixs_t, src_t, cop_lt, cop_le, cop_gt, cop_ge, cop_eq, cop_ne, bop_add, bop_sub, bop_mul, bop_mod, bop_fdiv, bop_addT, bop_mulT, dnE_lcStp, iT, at0_map, q1, q2, ixs_l (o.at_ 0 rfl)])
      exact o
    intro h1 o
    (try simp only [forall_const, reduceCtorEq, false_implies, implies_true, Bool.false_eq_true, Dv.tup.injEq, dnR_noX, dnS_toS, dnSL_cons, dnSL_nil, dn_par, dn_par3, dn_asg, dn_setlc, dn_exp, dn_ret, dn_iff, dn_aug, dn_forr, dn_whl, dn_brk, dn_cnt, dn_retn, start, wipeS, glLen, most, tyIs, Option.map_some, Option.bind_some, Option.some.injEq, List.map_cons, List.map_nil, List.cons_append, List.nil_append, List.length_cons, List.length_nil, List.reduceReplicate, List.getElem?_cons_zero, List.getElem?_cons_succ, List.set_cons_zero, List.set_cons_succ, Nat.reduceAdd, Nat.reduceSub, Nat.reduceLeDiff, decide_true, decide_false, if_true, Bool.true_and, Bool.and_true, Dv.bl.injEq, Dv.int.injEq, exists_eq_left, exists_eq_left', true_and, and_true, Bool.and_self, Bool.not_true, Bool.not_false, eq_self, ↓reduceIte, List.isEmpty_cons, Nat.zero_add, and_self, true_implies, decide_eq_true_eq, decide_eq_false_iff_not, dnE_var, dnE_gint, dnE_int, dnE_str, dnE_bl, dnE_non, dnE_tup, dnE_lst, dnE_bin, dnE_cmp, dnE_chain, dnE_not, dnE_neg, dnE_and, dnE_or, dnA_one, dnA_cons, dnO_one, dnO_cons, dnE_ife, dnE_ix, dnE_sl, dnS_slT, dnE_call, dnE_bi, dnE_bm, dnE_isi, dnE_dnew, dnE_disp, dnE_lc, dnE_lcStp, dnF_nil, dnF_cons, dnL_nil, dnL_cons, dnV_none, dnV_some, dnI_seq, dnI_rng1, dnI_rng2, dnI_enum, dnG_name, dnG_tup, dnG_sub, dnGL_nil, dnGL_cons, dnB_len_t, dnB_set0, dnB_int, ixs_t, src_t, cop_lt, cop_le, cop_gt, cop_ge, cop_eq, cop_ne, bop_add, bop_sub, bop_mul, bop_mod, bop_fdiv, bop_addT, bop_mulT, dnB_tuple_fr])
    exact o.garb _
  intro h1 o
  have o := o.alloc (.lst (ch.map iT))
  generalize h1 ++ [Ob.lst (List.map iT ch)] = h2 at o ⊢
  generalize h1.length = b at o ⊢
  (try simp only [forall_const, reduceCtorEq, false_implies, implies_true, Bool.false_eq_true, Dv.tup.injEq, dnR_noX, dnS_toS, dnSL_cons, dnSL_nil, dn_par, dn_par3, dn_asg, dn_setlc, dn_exp, dn_ret, dn_iff, dn_aug, dn_forr, dn_whl, dn_brk, dn_cnt, dn_retn, start, wipeS, glLen, most, tyIs, Option.map_some, Option.bind_some, Option.some.injEq, List.map_cons, List.map_nil, List.cons_append, List.nil_append, List.length_cons, List.length_nil, List.reduceReplicate, List.getElem?_cons_zero, List.getElem?_cons_succ, List.set_cons_zero, List.set_cons_succ, Nat.reduceAdd, Nat.reduceSub, Nat.reduceLeDiff, decide_true, decide_false, if_true, Bool.true_and, Bool.and_true, Dv.bl.injEq, Dv.int.injEq, exists_eq_left, exists_eq_left', true_and, and_true, Bool.and_self, Bool.not_true, Bool.not_false, eq_self, ↓reduceIte, List.isEmpty_cons, Nat.zero_add, and_self, true_implies, decide_eq_true_eq, decide_eq_false_iff_not, dnE_var, dnE_gint, dnE_int, dnE_str, dnE_bl, dnE_non, dnE_tup, dnE_lst, dnE_bin, dnE_cmp, dnE_chain, dnE_not, dnE_neg, dnE_and, dnE_or, dnA_one, dnA_cons, dnO_one, dnO_cons, dnE_ife, dnE_ix, dnE_sl, dnS_slT, dnE_call, dnE_bi, dnE_bm, dnE_isi, dnE_dnew, dnE_disp, dnE_lc, dnE_lcStp, dnF_nil, dnF_cons, dnL_nil, dnL_cons, dnV_none, dnV_some, dnI_seq, dnI_rng1, dnI_rng2, dnI_enum, dnG_name, dnG_tup, dnG_sub, dnGL_nil, dnGL_cons, dnB_len_t, dnB_set0, dnB_int, ixs_t, src_t, cop_lt, cop_le, cop_gt, cop_ge, cop_eq, cop_ne, bop_add, bop_sub, bop_mul, bop_mod, bop_fdiv, bop_addT, bop_mulT, dnE_lc])
  refine lcL_sim (Q := _) Dv.int Dv.int ls (fun h1 => Own h h1 [(b, .lst (ch.map iT)), (a, .lst (num.map .int))]) _ (fun _ _ => rfl) ?_ e5 o (by omega) (by unfold most; omega) ?_
  · rintro h1 y r _ o e
    obtain ⟨w, q2, rfl⟩ := Option.map_eq_some_iff.mp e
    (try simp only [forall_const, reduceCtorEq, false_implies, implies_true, Bool.false_eq_true, Dv.tup.injEq, dnR_noX, dnS_toS, dnSL_cons, dnSL_nil, dn_par, dn_par3, dn_asg, dn_setlc, dn_exp, dn_ret, dn_iff, dn_aug, dn_forr, dn_whl, dn_brk, dn_cnt, dn_retn, start, wipeS, glLen, most, tyIs, Option.map_some, Option.bind_some, Option.some.injEq, List.map_cons, List.map_nil, List.cons_append, List.nil_append, List.length_cons, List.length_nil, List.reduceReplicate, List.getElem?_cons_zero, List.getElem?_cons_succ, List.set_cons_zero, List.set_cons_succ, Nat.reduceAdd, Nat.reduceSub, Nat.reduceLeDiff, decide_true, decide_false, if_true, Bool.true_and, Bool.and_true, Dv.bl.injEq, Dv.int.injEq, exists_eq_left, exists_eq_left', true_and, and_true, Bool.and_self, Bool.not_true, Bool.not_false, eq_self, ↓reduceIte, List.isEmpty_cons, Nat.zero_add, and_self, true_implies, decide_eq_true_eq, decide_eq_false_iff_not, dnE_var, dnE_gint, dnE_int, dnE_str, dnE_bl, dnE_non, dnE_tup, dnE_lst, dnE_bin, dnE_cmp, dnE_chain, dnE_not, dnE_neg, dnE_and, dnE_or, dnA_one, dnA_cons, dnO_one, dnO_cons, dnE_ife, dnE_ix, dnE_sl, dnS_slT, dnE_call, dnE_bi, dnE_bm, dnE_isi, dnE_dnew, dnE_disp, dnE_lc, dnE_lcStp, dnF_nil, dnF_cons, dnL_nil, dnL_cons, dnV_none, dnV_some, dnI_seq, dnI_rng1, dnI_rng2, dnI_enum, dnG_name, dnG_tup, dnG_sub, dnGL_nil, dnGL_cons, dnB_len_t, dnB_set0, dnB_int, ixs_t, src_t, cop_lt, cop_le, cop_gt, cop_ge, cop_eq, cop_ne, bop_add, bop_sub, bop_mul, bop_mod, bop_fdiv, bop_addT, bop_mulT, dnE_lcStp, iT, at0_map, e4, q2])
    exact o
  intro h3 o
  (try simp only [forall_const, reduceCtorEq, false_implies, implies_true, Bool.false_eq_true, Dv.tup.injEq, dnR_noX, dnS_toS, dnSL_cons, dnSL_nil, dn_par, dn_par3, dn_asg, dn_setlc, dn_exp, dn_ret, dn_iff, dn_aug, dn_forr, dn_whl, dn_brk, dn_cnt, dn_retn, start, wipeS, glLen, most, tyIs, Option.map_some, Option.bind_some, Option.some.injEq, List.map_cons, List.map_nil, List.cons_append, List.nil_append, List.length_cons, List.length_nil, List.reduceReplicate, List.getElem?_cons_zero, List.getElem?_cons_succ, List.set_cons_zero, List.set_cons_succ, Nat.reduceAdd, Nat.reduceSub, Nat.reduceLeDiff, decide_true, decide_false, if_true, Bool.true_and, Bool.and_true, Dv.bl.injEq, Dv.int.injEq, exists_eq_left, exists_eq_left', true_and, and_true, Bool.and_self, Bool.not_true, Bool.not_false, eq_self, ↓reduceIte, List.isEmpty_cons, Nat.zero_add, and_self, true_implies, decide_eq_true_eq, decide_eq_false_iff_not, dnE_var, dnE_gint, dnE_int, dnE_str, dnE_bl, dnE_non, dnE_tup, dnE_lst, dnE_bin, dnE_cmp, dnE_chain, dnE_not, dnE_neg, dnE_and, dnE_or, dnA_one, dnA_cons, dnO_one, dnO_cons, dnE_ife, dnE_ix, dnE_sl, dnS_slT, dnE_call, dnE_bi, dnE_bm, dnE_isi, dnE_dnew, dnE_disp, dnE_lc, dnE_lcStp, dnF_nil, dnF_cons, dnL_nil, dnL_cons, dnV_none, dnV_some, dnI_seq, dnI_rng1, dnI_rng2, dnI_enum, dnG_name, dnG_tup, dnG_sub, dnGL_nil, dnGL_cons, dnB_len_t, dnB_set0, dnB_int, ixs_t, src_t, cop_lt, cop_le, cop_gt, cop_ge, cop_eq, cop_ne, bop_add, bop_sub, bop_mul, bop_mod, bop_fdiv, bop_addT, bop_mulT, dnB_tuple_fr, dnE_lc])
  refine lcL_sim (Q := _) Dv.int Dv.int ls (fun h1 => Own h h1 [(b, .lst (ch.map iT)), (a, .lst (num.map .int))]) _ (fun _ _ => rfl) ?_ e7 (o.garb _) (by omega) (by unfold most; omega) ?_
  · rintro h1 y r _ o e
    obtain ⟨w, q2, rfl⟩ := Option.map_eq_some_iff.mp e
    (try simp only [forall_const, reduceCtorEq, false_implies, implies_true, Bool.false_eq_true, Dv.tup.injEq, dnR_noX, dnS_toS, dnSL_cons, dnSL_nil, dn_par, dn_par3, dn_asg, dn_setlc, dn_exp, dn_ret, dn_iff, dn_aug, dn_forr, dn_whl, dn_brk, dn_cnt, dn_retn, start, wipeS, glLen, most, tyIs, Option.map_some, Option.bind_some, Option.some.injEq, List.map_cons, List.map_nil, List.cons_append, List.nil_append, List.length_cons, List.length_nil, List.reduceReplicate, List.getElem?_cons_zero, List.getElem?_cons_succ, List.set_cons_zero, List.set_cons_succ, Nat.reduceAdd, Nat.reduceSub, Nat.reduceLeDiff, decide_true, decide_false, if_true, Bool.true_and, Bool.and_true, Dv.bl.injEq, Dv.int.injEq, exists_eq_left, exists_eq_left', true_and, and_true, Bool.and_self, Bool.not_true, Bool.not_false, eq_self, ↓reduceIte, List.isEmpty_cons, Nat.zero_add, and_self, true_implies, decide_eq_true_eq, decide_eq_false_iff_not, dnE_var, dnE_gint, dnE_int, dnE_str, dnE_bl, dnE_non, dnE_tup, dnE_lst, dnE_bin, dnE_cmp, dnE_chain, dnE_not, dnE_neg, dnE_and, dnE_or, dnA_one, dnA_cons, dnO_one, dnO_cons, dnE_ife, dnE_ix, dnE_sl, dnS_slT, dnE_call, dnE_bi, dnE_bm, dnE_isi, dnE_dnew, dnE_disp, dnE_lc, dnE_lcStp, dnF_nil, dnF_cons, dnL_nil, dnL_cons, dnV_none, dnV_some, dnI_seq, dnI_rng1, dnI_rng2, dnI_enum, dnG_name, dnG_tup, dnG_sub, dnGL_nil, dnGL_cons, dnB_len_t, dnB_set0, dnB_int, ixs_t, src_t, cop_lt, cop_le, cop_gt, cop_ge, cop_eq, cop_ne, bop_add, bop_sub, bop_mul, bop_mod, bop_fdiv, bop_addT, bop_mulT, dnE_lcStp, iT, at0_map, e6, q2])
    exact o
  intro h4 o
  have o' := o.garb [.lst (qq.map .int)]
  (try simp only [forall_const, reduceCtorEq, false_implies, implies_true, Bool.false_eq_true, Dv.tup.injEq, dnR_noX, dnS_toS, dnSL_cons, dnSL_nil, dn_par, dn_par3, dn_asg, dn_setlc, dn_exp, dn_ret, dn_iff, dn_aug, dn_forr, dn_whl, dn_brk, dn_cnt, dn_retn, start, wipeS, glLen, most, tyIs, Option.map_some, Option.bind_some, Option.some.injEq, List.map_cons, List.map_nil, List.cons_append, List.nil_append, List.length_cons, List.length_nil, List.reduceReplicate, List.getElem?_cons_zero, List.getElem?_cons_succ, List.set_cons_zero, List.set_cons_succ, Nat.reduceAdd, Nat.reduceSub, Nat.reduceLeDiff, decide_true, decide_false, if_true, Bool.true_and, Bool.and_true, Dv.bl.injEq, Dv.int.injEq, exists_eq_left, exists_eq_left', true_and, and_true, Bool.and_self, Bool.not_true, Bool.not_false, eq_self, ↓reduceIte, List.isEmpty_cons, Nat.zero_add, and_self, true_implies, decide_eq_true_eq, decide_eq_false_iff_not, dnE_var, dnE_gint, dnE_int, dnE_str, dnE_bl, dnE_non, dnE_tup, dnE_lst, dnE_bin, dnE_cmp, dnE_chain, dnE_not, dnE_neg, dnE_and, dnE_or, dnA_one, dnA_cons, dnO_one, dnO_cons, dnE_ife, dnE_ix, dnE_sl, dnS_slT, dnE_call, dnE_bi, dnE_bm, dnE_isi, dnE_dnew, dnE_disp, dnE_lc, dnE_lcStp, dnF_nil, dnF_cons, dnL_nil, dnL_cons, dnV_none, dnV_some, dnI_seq, dnI_rng1, dnI_rng2, dnI_enum, dnG_name, dnG_tup, dnG_sub, dnGL_nil, dnGL_cons, dnB_len_t, dnB_set0, dnB_int, ixs_t, src_t, cop_lt, cop_le, cop_gt, cop_ge, cop_eq, cop_ne, bop_add, bop_sub, bop_mul, bop_mod, bop_fdiv, bop_addT, bop_mulT, dnB_tuple_fr, ixs_l (o'.at_ 0 rfl), at0_map, e8, e9, e10])
  exact ⟨rfl, o'.pre⟩
end
end FF
end

section
set_option Elab.async false
set_option linter.all false
set_option maxRecDepth 100000
set_option maxHeartbeats 4000000
/-! PL7: the order of rows and patterns; least. -/
namespace FF
open PySem
def ltI : List Int → List Int → Bool
  | [], [] => false
  | [], _ :: _ => true
  | _ :: _, [] => false
  | x :: xs, y :: ys => if x = y then ltI xs ys else decide (x < y)
def ltP : List (List Int) → List (List Int) → Bool
  | [], [] => false
  | [], _ :: _ => true
  | _ :: _, [] => false
  | x :: xs, y :: ys => if x = y then ltP xs ys else ltI x y
def iD (xs : List Int) : PyData := .tuple (xs.map .int)
def pD (p : List (List Int)) : PyData := .tuple (p.map iD)
theorem eqv_int (a b : Int) : PyData.eqv (.int a) (.int b) = decide (a = b) := by
  simp only [PyData.eqv]
  by_cases h : a = b <;> simp [h]
theorem eqv_iD (a b : List Int) : PyData.eqv (iD a) (iD b) = decide (a = b) := by
  simp only [iD, PyData.eqv]
  induction a generalizing b with
  | nil => cases b <;> simp [PyData.eqvAll]
  | cons x r ih => cases b with
    | nil => simp [PyData.eqvAll]
    | cons y s => simp [PyData.eqvAll, ih, eqv_int]
theorem eqv_pD (a b : List (List Int)) : PyData.eqv (pD a) (pD b) = decide (a = b) := by
  simp only [pD, PyData.eqv]
  induction a generalizing b with
  | nil => cases b <;> simp [PyData.eqvAll]
  | cons x r ih => cases b with
    | nil => simp [PyData.eqvAll]
    | cons y s => simp [PyData.eqvAll, ih, eqv_iD]
theorem ltD_int (n : Nat) (a b : Int) : ltD false (n + 1) (.int a) (.int b) = some (decide (a < b)) := by simp [ltD]
theorem ltD_go_int (n : Nat) (a b : List Int) : ltD.go false (n + 1) (a.map .int) (b.map .int) = some (ltI a b) := by
  induction a generalizing b with
  | nil => cases b <;> simp [ltD.go_nn, ltD.go_nc, ltD.go_cn, ltD.go_cc, ltI, ltP]
  | cons x r ih => cases b with
    | nil => simp [ltD.go_nn, ltD.go_nc, ltD.go_cn, ltD.go_cc, ltI, ltP]
    | cons y s =>
      simp only [List.map_cons, ltD.go_cc, eqv_int, ltI, ih]
      by_cases h : x = y
      · simp [h]
      · simp only [h, decide_false, if_false, ltD_int, Bool.false_eq_true]
        rw [if_pos]
        rw [List.all_eq_true]
        rintro ⟨u, v⟩ m
        obtain ⟨m1, m2⟩ := List.of_mem_zip m
        obtain ⟨u, _, rfl⟩ := List.mem_map.mp m1
        obtain ⟨v, _, rfl⟩ := List.mem_map.mp m2
        simp [ltD_int]
theorem ltD_iD (n : Nat) (a b : List Int) : ltD false (n + 2) (iD a) (iD b) = some (ltI a b) := by
  simp only [ltD, iD]
  exact ltD_go_int n a b
theorem ltD_go_pat (n : Nat) (a b : List (List Int)) : ltD.go false (n + 2) (a.map iD) (b.map iD) = some (ltP a b) := by
  induction a generalizing b with
  | nil => cases b <;> simp [ltD.go_nn, ltD.go_nc, ltD.go_cn, ltD.go_cc, ltI, ltP]
  | cons x r ih => cases b with
    | nil => simp [ltD.go_nn, ltD.go_nc, ltD.go_cn, ltD.go_cc, ltI, ltP]
    | cons y s =>
      simp only [List.map_cons, ltD.go_cc, eqv_iD, ltP, ih]
      by_cases h : x = y
      · simp [h]
      · simp only [h, decide_false, if_false, ltD_iD, Bool.false_eq_true]
        rw [if_pos]
        rw [List.all_eq_true]
        rintro ⟨u, v⟩ m
        obtain ⟨m1, m2⟩ := List.of_mem_zip m
        obtain ⟨u, _, rfl⟩ := List.mem_map.mp m1
        obtain ⟨v, _, rfl⟩ := List.mem_map.mp m2
        simp [ltD_iD]
theorem ltD_pD (n : Nat) (a b : List (List Int)) : ltD false (n + 3) (pD a) (pD b) = some (ltP a b) := by
  simp only [ltD, pD]
  exact ltD_go_pat n a b
theorem toD_iT (n : Nat) (h : Hh) (a : List Int) : toD (n + 2) h (iT a) = some (iD a) := by
  unfold toD iT
  simp only [mapM_ints, Option.map_some, iD]
theorem toD_pT (n : Nat) (h : Hh) (a : List (List Int)) : toD (n + 3) h (pT a) = some (pD a) := by
  unfold toD pT
  simp only
  suffices (a.map iT).mapM (toD (n + 2) h) = some (a.map iD) by rw [this]; rfl
  induction a with
  | nil => rfl
  | cons i r ih => rw [List.map_cons, List.mapM_cons, ih, toD_iT]; rfl
theorem dlt_pT (h : Hh) (a b : List (List Int)) : dlt false h (pT a) (pT b) = some (ltP a b) := by
  have : dlt false h (pT a) (pT b) = match toD 8 h (pT a), toD 8 h (pT b) with
    | some a, some b => ltD false 8 a b
    | _, _ => none := by unfold dlt pT; rfl
  rw [this, toD_pT, toD_pT]
  exact ltD_pD 5 a b
theorem cop_ltP {h : Hh} {a b : List (List Int)} : cop .lt (pT a) (pT b) h = some (ltP a b) := by simp only [cop, dlt_pT]

theorem intOk_nat {n : Nat} (h : n < 1000) : intOk (n : Int) = true := by
  unfold intOk
  simp only [Bool.and_eq_true, decide_eq_true_eq]
  omega
/-! least -/
def leastM (p : List (List Int)) : Option (List (List Int)) :=
  (walkM p 0).bind fun w0 => (renumM p w0).bind fun b0 => (gA p 0).bind fun r0 =>
  if r0.length < 1000 then
    ((List.range (r0.length - 1)).foldlM (fun (best : List (List Int)) (i : Nat) => (walkM p (1 + (i : Int) * 1)).bind fun w => (renumM p w).bind fun b => some (if ltP b best then b else best)) b0)
  else none
section
variable {wf : Nat} (hw : 2000 ≤ wf)
include hw
theorem least_ok {n : Nat} {h : Hh} {p : List (List Int)} {r : List (List Int)} (e : leastM p = some r) : dnR (callN Lw.T wf (n + 2) 3 [pT p] h) fun v h' => v = pT r ∧ h <+: h' := by
  refine call_ir rfl rfl ?_
  unfold leastM at e
  obtain ⟨w0, e1, e⟩ := opt_bind e
  obtain ⟨b0, e2, e⟩ := opt_bind e
  obtain ⟨r0, e3, e⟩ := opt_bind e
  split at e
  case isFalse => cases e
  rename_i hl
  (try simp only [forall_const, reduceCtorEq, false_implies, implies_true, Bool.false_eq_true, Dv.tup.injEq, dnR_noX, dnS_toS, dnSL_cons, dnSL_nil, dn_par, dn_par3, dn_asg, dn_setlc, dn_exp, dn_ret, dn_iff, dn_aug, dn_forr, dn_whl, dn_brk, dn_cnt, dn_retn, start, wipeS, glLen, most, tyIs, Option.map_some, Option.bind_some, Option.some.injEq, List.map_cons, List.map_nil, List.cons_append, List.nil_append, List.length_cons, List.length_nil, List.reduceReplicate, List.getElem?_cons_zero, List.getElem?_cons_succ, List.set_cons_zero, List.set_cons_succ, Nat.reduceAdd, Nat.reduceSub, Nat.reduceLeDiff, decide_true, decide_false, if_true, Bool.true_and, Bool.and_true, Dv.bl.injEq, Dv.int.injEq, exists_eq_left, exists_eq_left', true_and, and_true, Bool.and_self, Bool.not_true, Bool.not_false, eq_self, ↓reduceIte, List.isEmpty_cons, Nat.zero_add, and_self, true_implies, decide_eq_true_eq, decide_eq_false_iff_not, dnE_var, dnE_gint, dnE_int, dnE_str, dnE_bl, dnE_non, dnE_tup, dnE_lst, dnE_bin, dnE_cmp, dnE_chain, dnE_not, dnE_neg, dnE_and, dnE_or, dnA_one, dnA_cons, dnO_one, dnO_cons, dnE_ife, dnE_ix, dnE_sl, dnS_slT, dnE_call, dnE_bi, dnE_bm, dnE_isi, dnE_dnew, dnE_disp, dnE_lc, dnE_lcStp, dnF_nil, dnF_cons, dnL_nil, dnL_cons, dnV_none, dnV_some, dnI_seq, dnI_rng1, dnI_rng2, dnI_enum, dnG_name, dnG_tup, dnG_sub, dnGL_nil, dnGL_cons, dnB_len_t, dnB_set0, dnB_int, ixs_t, src_t, cop_lt, cop_le, cop_gt, cop_ge, cop_eq, cop_ne, bop_add, bop_sub, bop_mul, bop_mod, bop_fdiv, bop_addT, bop_mulT, Lw.ir_least])
  refine dnR.imp (walk_ok hw e1) ?_
  rintro _ h1 ⟨rfl, x1⟩
  refine dnR.imp (renumbered_ok hw e2) ?_
  rintro _ h2 ⟨rfl, x2⟩
  have xx := x1.trans x2
  simp only [pT] at e3 ⊢
  (try simp only [forall_const, reduceCtorEq, false_implies, implies_true, Bool.false_eq_true, Dv.tup.injEq, dnR_noX, dnS_toS, dnSL_cons, dnSL_nil, dn_par, dn_par3, dn_asg, dn_setlc, dn_exp, dn_ret, dn_iff, dn_aug, dn_forr, dn_whl, dn_brk, dn_cnt, dn_retn, start, wipeS, glLen, most, tyIs, Option.map_some, Option.bind_some, Option.some.injEq, List.map_cons, List.map_nil, List.cons_append, List.nil_append, List.length_cons, List.length_nil, List.reduceReplicate, List.getElem?_cons_zero, List.getElem?_cons_succ, List.set_cons_zero, List.set_cons_succ, Nat.reduceAdd, Nat.reduceSub, Nat.reduceLeDiff, decide_true, decide_false, if_true, Bool.true_and, Bool.and_true, Dv.bl.injEq, Dv.int.injEq, exists_eq_left, exists_eq_left', true_and, and_true, Bool.and_self, Bool.not_true, Bool.not_false, eq_self, ↓reduceIte, List.isEmpty_cons, Nat.zero_add, and_self, true_implies, decide_eq_true_eq, decide_eq_false_iff_not, dnE_var, dnE_gint, dnE_int, dnE_str, dnE_bl, dnE_non, dnE_tup, dnE_lst, dnE_bin, dnE_cmp, dnE_chain, dnE_not, dnE_neg, dnE_and, dnE_or, dnA_one, dnA_cons, dnO_one, dnO_cons, dnE_ife, dnE_ix, dnE_sl, dnS_slT, dnE_call, dnE_bi, dnE_bm, dnE_isi, dnE_dnew, dnE_disp, dnE_lc, dnE_lcStp, dnF_nil, dnF_cons, dnL_nil, dnL_cons, dnV_none, dnV_some, dnI_seq, dnI_rng1, dnI_rng2, dnI_enum, dnG_name, dnG_tup, dnG_sub, dnGL_nil, dnGL_cons, dnB_len_t, dnB_set0, dnB_int, ixs_t, src_t, cop_lt, cop_le, cop_gt, cop_ge, cop_eq, cop_ne, bop_add, bop_sub, bop_mul, bop_mod, bop_fdiv, bop_addT, bop_mulT, at0_map, e3, iT, List.length_map, dnB_len_t])
  refine ⟨_, _, rfl, rfl, rfl, intOk_nat hl, ?_⟩
  have hn : ((r0.length : Int) - 1).toNat = r0.length - 1 := by omega
  rw [hn]
  refine forL_sim (fun i : Nat => Dv.int (1 + (i : Int) * 1)) (List.range (r0.length - 1)) (fun (s : List (List Int)) σ h1 => ∃ x y, σ = [some (pT p), some (pT s), x, y] ∧ h <+: h1) _ ?_ ?_ e ⟨_, _, rfl, xx⟩ (by rw [List.length_range]; omega) ?_
  · exact fun s σ h1 _ => rfl
  · rintro s t σ h1 i _ ⟨x, y, rfl, x0⟩ e
    obtain ⟨w, e4, e⟩ := opt_bind e
    obtain ⟨b, e5, e⟩ := opt_bind e
    cases e
    (try simp only [forall_const, reduceCtorEq, false_implies, implies_true, Bool.false_eq_true, Dv.tup.injEq, dnR_noX, dnS_toS, dnSL_cons, dnSL_nil, dn_par, dn_par3, dn_asg, dn_setlc, dn_exp, dn_ret, dn_iff, dn_aug, dn_forr, dn_whl, dn_brk, dn_cnt, dn_retn, start, wipeS, glLen, most, tyIs, Option.map_some, Option.bind_some, Option.some.injEq, List.map_cons, List.map_nil, List.cons_append, List.nil_append, List.length_cons, List.length_nil, List.reduceReplicate, List.getElem?_cons_zero, List.getElem?_cons_succ, List.set_cons_zero, List.set_cons_succ, Nat.reduceAdd, Nat.reduceSub, Nat.reduceLeDiff, decide_true, decide_false, if_true, Bool.true_and, Bool.and_true, Dv.bl.injEq, Dv.int.injEq, exists_eq_left, exists_eq_left', true_and, and_true, Bool.and_self, Bool.not_true, Bool.not_false, eq_self, ↓reduceIte, List.isEmpty_cons, Nat.zero_add, and_self, true_implies, decide_eq_true_eq, decide_eq_false_iff_not, dnE_var, dnE_gint, dnE_int, dnE_str, dnE_bl, dnE_non, dnE_tup, dnE_lst, dnE_bin, dnE_cmp, dnE_chain, dnE_not, dnE_neg, dnE_and, dnE_or, dnA_one, dnA_cons, dnO_one, dnO_cons, dnE_ife, dnE_ix, dnE_sl, dnS_slT, dnE_call, dnE_bi, dnE_bm, dnE_isi, dnE_dnew, dnE_disp, dnE_lc, dnE_lcStp, dnF_nil, dnF_cons, dnL_nil, dnL_cons, dnV_none, dnV_some, dnI_seq, dnI_rng1, dnI_rng2, dnI_enum, dnG_name, dnG_tup, dnG_sub, dnGL_nil, dnGL_cons, dnB_len_t, dnB_set0, dnB_int, ixs_t, src_t, cop_lt, cop_le, cop_gt, cop_ge, cop_eq, cop_ne, bop_add, bop_sub, bop_mul, bop_mod, bop_fdiv, bop_addT, bop_mulT])
    refine dnR.imp (walk_ok hw e4) ?_
    rintro _ h3 ⟨rfl, x3⟩
    refine dnR.imp (renumbered_ok hw e5) ?_
    rintro _ h4 ⟨rfl, x4⟩
    (try simp only [forall_const, reduceCtorEq, false_implies, implies_true, Bool.false_eq_true, Dv.tup.injEq, dnR_noX, dnS_toS, dnSL_cons, dnSL_nil, dn_par, dn_par3, dn_asg, dn_setlc, dn_exp, dn_ret, dn_iff, dn_aug, dn_forr, dn_whl, dn_brk, dn_cnt, dn_retn, start, wipeS, glLen, most, tyIs, Option.map_some, Option.bind_some, Option.some.injEq, List.map_cons, List.map_nil, List.cons_append, List.nil_append, List.length_cons, List.length_nil, List.reduceReplicate, List.getElem?_cons_zero, List.getElem?_cons_succ, List.set_cons_zero, List.set_cons_succ, Nat.reduceAdd, Nat.reduceSub, Nat.reduceLeDiff, decide_true, decide_false, if_true, Bool.true_and, Bool.and_true, Dv.bl.injEq, Dv.int.injEq, exists_eq_left, exists_eq_left', true_and, and_true, Bool.and_self, Bool.not_true, Bool.not_false, eq_self, ↓reduceIte, List.isEmpty_cons, Nat.zero_add, and_self, true_implies, decide_eq_true_eq, decide_eq_false_iff_not, dnE_var, dnE_gint, dnE_int, dnE_str, dnE_bl, dnE_non, dnE_tup, dnE_lst, dnE_bin, dnE_cmp, dnE_chain, dnE_not, dnE_neg, dnE_and, dnE_or, dnA_one, dnA_cons, dnO_one, dnO_cons, dnE_ife, dnE_ix, dnE_sl, dnS_slT, dnE_call, dnE_bi, dnE_bm, dnE_isi, dnE_dnew, dnE_disp, dnE_lc, dnE_lcStp, dnF_nil, dnF_cons, dnL_nil, dnL_cons, dnV_none, dnV_some, dnI_seq, dnI_rng1, dnI_rng2, dnI_enum, dnG_name, dnG_tup, dnG_sub, dnGL_nil, dnGL_cons, dnB_len_t, dnB_set0, dnB_int, ixs_t, src_t, cop_lt, cop_le, cop_gt, cop_ge, cop_eq, cop_ne, bop_add, bop_sub, bop_mul, bop_mod, bop_fdiv, bop_addT, bop_mulT, cop_ltP])
    have x5 := x0.trans (x3.trans x4)
    refine ⟨fun e => ?_, fun e => ?_⟩
    · rw [if_pos e]
      exact ⟨_, _, rfl, x5⟩
    · rw [if_neg (by rw [e]; decide)]
      exact ⟨_, _, rfl, x5⟩
  · rintro σ h1 ⟨x, y, rfl, x0⟩
    (try simp only [forall_const, reduceCtorEq, false_implies, implies_true, Bool.false_eq_true, Dv.tup.injEq, dnR_noX, dnS_toS, dnSL_cons, dnSL_nil, dn_par, dn_par3, dn_asg, dn_setlc, dn_exp, dn_ret, dn_iff, dn_aug, dn_forr, dn_whl, dn_brk, dn_cnt, dn_retn, start, wipeS, glLen, most, tyIs, Option.map_some, Option.bind_some, Option.some.injEq, List.map_cons, List.map_nil, List.cons_append, List.nil_append, List.length_cons, List.length_nil, List.reduceReplicate, List.getElem?_cons_zero, List.getElem?_cons_succ, List.set_cons_zero, List.set_cons_succ, Nat.reduceAdd, Nat.reduceSub, Nat.reduceLeDiff, decide_true, decide_false, if_true, Bool.true_and, Bool.and_true, Dv.bl.injEq, Dv.int.injEq, exists_eq_left, exists_eq_left', true_and, and_true, Bool.and_self, Bool.not_true, Bool.not_false, eq_self, ↓reduceIte, List.isEmpty_cons, Nat.zero_add, and_self, true_implies, decide_eq_true_eq, decide_eq_false_iff_not, dnE_var, dnE_gint, dnE_int, dnE_str, dnE_bl, dnE_non, dnE_tup, dnE_lst, dnE_bin, dnE_cmp, dnE_chain, dnE_not, dnE_neg, dnE_and, dnE_or, dnA_one, dnA_cons, dnO_one, dnO_cons, dnE_ife, dnE_ix, dnE_sl, dnS_slT, dnE_call, dnE_bi, dnE_bm, dnE_isi, dnE_dnew, dnE_disp, dnE_lc, dnE_lcStp, dnF_nil, dnF_cons, dnL_nil, dnL_cons, dnV_none, dnV_some, dnI_seq, dnI_rng1, dnI_rng2, dnI_enum, dnG_name, dnG_tup, dnG_sub, dnGL_nil, dnGL_cons, dnB_len_t, dnB_set0, dnB_int, ixs_t, src_t, cop_lt, cop_le, cop_gt, cop_ge, cop_eq, cop_ne, bop_add, bop_sub, bop_mul, bop_mod, bop_fdiv, bop_addT, bop_mulT])
    exact ⟨rfl, x0⟩
end
end FF
end

section
set_option Elab.async false
set_option linter.all false
set_option maxRecDepth 100000
set_option maxHeartbeats 4000000
/-! PL8: exchanges. -/
namespace FF
open PySem

theorem rng_list (h : Hh) (n : Nat) : It.list h (.ints 0 1 n) = some ((List.range n).map fun i : Nat => Dv.int (i : Int)) := by
  simp only [It.list, Int.zero_add, Int.mul_one]
theorem seq_l {h : Hh} {a : Nat} {xs : List Dv} (e : h[a]? = some (.lst xs)) : It.list h (.seq (.l a)) = some xs := by
  simp only [It.list, Src.look, e]
theorem cut_drop {α : Type} (g : α → Dv) (xs : List α) (k : Nat) (hk : k ≤ xs.length) : cut (xs.map g) (some (k : Int)) none = (xs.drop k).map g := by
  unfold cut bnd
  simp only [List.length_map]
  rw [if_neg (by omega), Int.toNat_natCast, Nat.min_eq_left hk, List.map_drop, List.take_of_length_le (by simp)]
theorem bl_or {c : Bool} {p q : Prop} (h1 : c = true → p) (h2 : c = false → q) : (c = true → p) ∧ (c = false → q) := ⟨h1, h2⟩
theorem toNat_sub0 (n : Nat) : ((n : Int) - 0).toNat = n := by omega
def exIn (entries : List Int) (flag : Nat) (l : List (List Int)) (o : Nat) : Option (List (List Int)) :=
  (gA entries (o : Int)).bind fun x => if x = (o : Int) then (if l.length < 999 ∧ o < entries.length then some (l ++ [((entries.take o ++ [(flag : Int)]) ++ entries.drop (o + 1)) ++ [(o : Int)]]) else none) else some l
def exMid (flag : Nat) (l : List (List Int)) (entries : List Int) : Option (List (List Int)) :=
  if l.length < 999 ∧ entries.length < 100 ∧ flag < 100 then (List.range flag).foldlM (exIn entries flag) (l ++ [entries ++ [(flag : Int)]]) else none
def exchangesM (count : Nat) : Option (List (List Int)) :=
  if count < 1000 then (List.range count).foldlM (fun found flag => if found.length < 999 then found.foldlM (exMid flag) [] else none) [[]] else none
section
variable {wf : Nat} (hw : 2000 ≤ wf)
include hw
theorem exchanges_ok {n : Nat} {h : Hh} {count : Nat} {c : Int} (hc : c = count) {r : List (List Int)} (e : exchangesM count = some r) : dnR (callN Lw.T wf (n + 1) 4 [.int c] h) fun v h' => ∃ a, v = .ref a ∧ Own h h' [(a, .lst (r.map iT))] := by
  refine call_ir rfl rfl ?_
  subst hc
  unfold exchangesM at e
  split at e
  case isFalse => cases e
  rename_i hl
  (try simp only [forall_const, reduceCtorEq, false_implies, implies_true, Bool.false_eq_true, Dv.tup.injEq, dnR_noX, dnS_toS, dnSL_cons, dnSL_nil, dn_par, dn_par3, dn_asg, dn_setlc, dn_exp, dn_ret, dn_iff, dn_aug, dn_forr, dn_whl, dn_brk, dn_cnt, dn_retn, start, wipeS, glLen, most, tyIs, Option.map_some, Option.bind_some, Option.some.injEq, List.map_cons, List.map_nil, List.cons_append, List.nil_append, List.length_cons, List.length_nil, List.reduceReplicate, List.getElem?_cons_zero, List.getElem?_cons_succ, List.set_cons_zero, List.set_cons_succ, Nat.reduceAdd, Nat.reduceSub, Nat.reduceLeDiff, decide_true, decide_false, if_true, Bool.true_and, Bool.and_true, Dv.bl.injEq, Dv.int.injEq, exists_eq_left, exists_eq_left', true_and, and_true, Bool.and_self, Bool.not_true, Bool.not_false, eq_self, ↓reduceIte, List.isEmpty_cons, Nat.zero_add, and_self, true_implies, decide_eq_true_eq, decide_eq_false_iff_not, dnE_var, dnE_gint, dnE_int, dnE_str, dnE_bl, dnE_non, dnE_tup, dnE_lst, dnE_bin, dnE_cmp, dnE_chain, dnE_not, dnE_neg, dnE_and, dnE_or, dnA_one, dnA_cons, dnO_one, dnO_cons, dnE_ife, dnE_ix, dnE_sl, dnS_slT, dnE_call, dnE_bi, dnE_bm, dnE_isi, dnE_dnew, dnE_disp, dnE_lc, dnE_lcStp, dnF_nil, dnF_cons, dnL_nil, dnL_cons, dnV_none, dnV_some, dnI_seq, dnI_rng1, dnI_rng2, dnI_enum, dnG_name, dnG_tup, dnG_sub, dnGL_nil, dnGL_cons, dnB_len_t, dnB_set0, dnB_int, ixs_t, src_t, cop_lt, cop_le, cop_gt, cop_ge, cop_eq, cop_ne, bop_add, bop_sub, bop_mul, bop_mod, bop_fdiv, bop_addT, bop_mulT, Lw.ir_exchanges])
  refine ⟨intOk_nat hl, ?_⟩
  rw [Int.toNat_natCast]
  have o := (Own.nil h).alloc (.lst [.tup []])
  generalize h ++ [Ob.lst [Dv.tup []]] = h1 at o ⊢
  generalize h.length = a at o ⊢
  refine forL_sim (fun i : Nat => Dv.int (i : Int)) (List.range count) (fun (s : List (List Int)) σ h1 => ∃ a x y z w, σ = [some (.int count), some (.ref a), x, y, z, w] ∧ Own h h1 [(a, .lst (s.map iT))]) _ ?_ ?_ e ⟨a, _, _, _, _, rfl, o⟩ (by rw [List.length_range]; omega) ?_
  · exact fun s σ h1 _ => rng_list _ _
  · rintro found t σ h1 flag _ ⟨a, x, y, z, w, rfl, o⟩ e
    split at e
    case isFalse => cases e
    rename_i hl1
    have o1 := o.alloc (.lst [])
    (try simp only [forall_const, reduceCtorEq, false_implies, implies_true, Bool.false_eq_true, Dv.tup.injEq, dnR_noX, dnS_toS, dnSL_cons, dnSL_nil, dn_par, dn_par3, dn_asg, dn_setlc, dn_exp, dn_ret, dn_iff, dn_aug, dn_forr, dn_whl, dn_brk, dn_cnt, dn_retn, start, wipeS, glLen, most, tyIs, Option.map_some, Option.bind_some, Option.some.injEq, List.map_cons, List.map_nil, List.cons_append, List.nil_append, List.length_cons, List.length_nil, List.reduceReplicate, List.getElem?_cons_zero, List.getElem?_cons_succ, List.set_cons_zero, List.set_cons_succ, Nat.reduceAdd, Nat.reduceSub, Nat.reduceLeDiff, decide_true, decide_false, if_true, Bool.true_and, Bool.and_true, Dv.bl.injEq, Dv.int.injEq, exists_eq_left, exists_eq_left', true_and, and_true, Bool.and_self, Bool.not_true, Bool.not_false, eq_self, ↓reduceIte, List.isEmpty_cons, Nat.zero_add, and_self, true_implies, decide_eq_true_eq, decide_eq_false_iff_not, dnE_var, dnE_gint, dnE_int, dnE_str, dnE_bl, dnE_non, dnE_tup, dnE_lst, dnE_bin, dnE_cmp, dnE_chain, dnE_not, dnE_neg, dnE_and, dnE_or, dnA_one, dnA_cons, dnO_one, dnO_cons, dnE_ife, dnE_ix, dnE_sl, dnS_slT, dnE_call, dnE_bi, dnE_bm, dnE_isi, dnE_dnew, dnE_disp, dnE_lc, dnE_lcStp, dnF_nil, dnF_cons, dnL_nil, dnL_cons, dnV_none, dnV_some, dnI_seq, dnI_rng1, dnI_rng2, dnI_enum, dnG_name, dnG_tup, dnG_sub, dnGL_nil, dnGL_cons, dnB_len_t, dnB_set0, dnB_int, ixs_t, src_t, cop_lt, cop_le, cop_gt, cop_ge, cop_eq, cop_ne, bop_add, bop_sub, bop_mul, bop_mod, bop_fdiv, bop_addT, bop_mulT, src_l (o1.at_ 1 rfl)])
    generalize h1 ++ [Ob.lst []] = h2 at o1 ⊢
    generalize h1.length = b at o1 ⊢
    refine forL_sim iT found (fun (s : List (List Int)) σ h1 => ∃ x y, σ = [some (.int count), some (.ref a), some (.int flag), some (.ref b), x, y] ∧ Own h h1 [(b, .lst (s.map iT)), (a, .lst (found.map iT))]) _ ?_ ?_ e ⟨_, _, rfl, o1⟩ (by omega) ?_
    · rintro s σ h1 ⟨x, y, rfl, o⟩
      exact seq_l (o.at_ 1 rfl)
    · rintro l t σ h1 entries _ ⟨x, y, rfl, o⟩ e
      unfold exMid at e
      split at e
      case isFalse => cases e
      rename_i hl2
      obtain ⟨l1, l2, l3⟩ := hl2
      (try simp only [forall_const, reduceCtorEq, false_implies, implies_true, Bool.false_eq_true, Dv.tup.injEq, dnR_noX, dnS_toS, dnSL_cons, dnSL_nil, dn_par, dn_par3, dn_asg, dn_setlc, dn_exp, dn_ret, dn_iff, dn_aug, dn_forr, dn_whl, dn_brk, dn_cnt, dn_retn, start, wipeS, glLen, most, tyIs, Option.map_some, Option.bind_some, Option.some.injEq, List.map_cons, List.map_nil, List.cons_append, List.nil_append, List.length_cons, List.length_nil, List.reduceReplicate, List.getElem?_cons_zero, List.getElem?_cons_succ, List.set_cons_zero, List.set_cons_succ, Nat.reduceAdd, Nat.reduceSub, Nat.reduceLeDiff, decide_true, decide_false, if_true, Bool.true_and, Bool.and_true, Dv.bl.injEq, Dv.int.injEq, exists_eq_left, exists_eq_left', true_and, and_true, Bool.and_self, Bool.not_true, Bool.not_false, eq_self, ↓reduceIte, List.isEmpty_cons, Nat.zero_add, and_self, true_implies, decide_eq_true_eq, decide_eq_false_iff_not, dnE_var, dnE_gint, dnE_int, dnE_str, dnE_bl, dnE_non, dnE_tup, dnE_lst, dnE_bin, dnE_cmp, dnE_chain, dnE_not, dnE_neg, dnE_and, dnE_or, dnA_one, dnA_cons, dnO_one, dnO_cons, dnE_ife, dnE_ix, dnE_sl, dnS_slT, dnE_call, dnE_bi, dnE_bm, dnE_isi, dnE_dnew, dnE_disp, dnE_lc, dnE_lcStp, dnF_nil, dnF_cons, dnL_nil, dnL_cons, dnV_none, dnV_some, dnI_seq, dnI_rng1, dnI_rng2, dnI_enum, dnG_name, dnG_tup, dnG_sub, dnGL_nil, dnGL_cons, dnB_len_t, dnB_set0, dnB_int, ixs_t, src_t, cop_lt, cop_le, cop_gt, cop_ge, cop_eq, cop_ne, bop_add, bop_sub, bop_mul, bop_mod, bop_fdiv, bop_addT, bop_mulT, dnK_append (o.at_ 0 rfl), iT, List.length_map, List.length_append])
      refine ⟨by omega, ?_⟩
      (try simp only [forall_const, reduceCtorEq, false_implies, implies_true, Bool.false_eq_true, Dv.tup.injEq, dnR_noX, dnS_toS, dnSL_cons, dnSL_nil, dn_par, dn_par3, dn_asg, dn_setlc, dn_exp, dn_ret, dn_iff, dn_aug, dn_forr, dn_whl, dn_brk, dn_cnt, dn_retn, start, wipeS, glLen, most, tyIs, Option.map_some, Option.bind_some, Option.some.injEq, List.map_cons, List.map_nil, List.cons_append, List.nil_append, List.length_cons, List.length_nil, List.reduceReplicate, List.getElem?_cons_zero, List.getElem?_cons_succ, List.set_cons_zero, List.set_cons_succ, Nat.reduceAdd, Nat.reduceSub, Nat.reduceLeDiff, decide_true, decide_false, if_true, Bool.true_and, Bool.and_true, Dv.bl.injEq, Dv.int.injEq, exists_eq_left, exists_eq_left', true_and, and_true, Bool.and_self, Bool.not_true, Bool.not_false, eq_self, ↓reduceIte, List.isEmpty_cons, Nat.zero_add, and_self, true_implies, decide_eq_true_eq, decide_eq_false_iff_not, dnE_var, dnE_gint, dnE_int, dnE_str, dnE_bl, dnE_non, dnE_tup, dnE_lst, dnE_bin, dnE_cmp, dnE_chain, dnE_not, dnE_neg, dnE_and, dnE_or, dnA_one, dnA_cons, dnO_one, dnO_cons, dnE_ife, dnE_ix, dnE_sl, dnS_slT, dnE_call, dnE_bi, dnE_bm, dnE_isi, dnE_dnew, dnE_disp, dnE_lc, dnE_lcStp, dnF_nil, dnF_cons, dnL_nil, dnL_cons, dnV_none, dnV_some, dnI_seq, dnI_rng1, dnI_rng2, dnI_enum, dnG_name, dnG_tup, dnG_sub, dnGL_nil, dnGL_cons, dnB_len_t, dnB_set0, dnB_int, ixs_t, src_t, cop_lt, cop_le, cop_gt, cop_ge, cop_eq, cop_ne, bop_add, bop_sub, bop_mul, bop_mod, bop_fdiv, bop_addT, bop_mulT, dnM_append (o.at_ 0 rfl), List.length_map])
      refine ⟨by omega, intOk_nat (by omega), ?_⟩
      rw [Int.toNat_natCast]
      have o2 := o.set 0 rfl (.lst ((l ++ [entries ++ [(flag : Int)]]).map iT))
      have eq1 : List.map iT l ++ [Dv.tup (List.map Dv.int entries ++ [Dv.int ↑flag])] = (l ++ [entries ++ [(flag : Int)]]).map iT := by simp [iT]
      rw [eq1]
      refine forL_sim (fun i : Nat => Dv.int (i : Int)) (List.range flag) (fun (s : List (List Int)) σ h1 => ∃ x, σ = [some (.int count), some (.ref a), some (.int flag), some (.ref b), some (iT entries), x] ∧ Own h h1 [(b, .lst (s.map iT)), (a, .lst (found.map iT))]) _ ?_ ?_ e ⟨_, rfl, o2⟩ (by rw [List.length_range]; omega) ?_
      · exact fun s σ h1 _ => rng_list _ _
      · rintro l t σ h1 k _ ⟨x, rfl, o⟩ e
        unfold exIn at e
        obtain ⟨u, e1, e⟩ := opt_bind e
        (try simp only [forall_const, reduceCtorEq, false_implies, implies_true, Bool.false_eq_true, Dv.tup.injEq, dnR_noX, dnS_toS, dnSL_cons, dnSL_nil, dn_par, dn_par3, dn_asg, dn_setlc, dn_exp, dn_ret, dn_iff, dn_aug, dn_forr, dn_whl, dn_brk, dn_cnt, dn_retn, start, wipeS, glLen, most, tyIs, Option.map_some, Option.bind_some, Option.some.injEq, List.map_cons, List.map_nil, List.cons_append, List.nil_append, List.length_cons, List.length_nil, List.reduceReplicate, List.getElem?_cons_zero, List.getElem?_cons_succ, List.set_cons_zero, List.set_cons_succ, Nat.reduceAdd, Nat.reduceSub, Nat.reduceLeDiff, decide_true, decide_false, if_true, Bool.true_and, Bool.and_true, Dv.bl.injEq, Dv.int.injEq, exists_eq_left, exists_eq_left', true_and, and_true, Bool.and_self, Bool.not_true, Bool.not_false, eq_self, ↓reduceIte, List.isEmpty_cons, Nat.zero_add, and_self, true_implies, decide_eq_true_eq, decide_eq_false_iff_not, dnE_var, dnE_gint, dnE_int, dnE_str, dnE_bl, dnE_non, dnE_tup, dnE_lst, dnE_bin, dnE_cmp, dnE_chain, dnE_not, dnE_neg, dnE_and, dnE_or, dnA_one, dnA_cons, dnO_one, dnO_cons, dnE_ife, dnE_ix, dnE_sl, dnS_slT, dnE_call, dnE_bi, dnE_bm, dnE_isi, dnE_dnew, dnE_disp, dnE_lc, dnE_lcStp, dnF_nil, dnF_cons, dnL_nil, dnL_cons, dnV_none, dnV_some, dnI_seq, dnI_rng1, dnI_rng2, dnI_enum, dnG_name, dnG_tup, dnG_sub, dnGL_nil, dnGL_cons, dnB_len_t, dnB_set0, dnB_int, ixs_t, src_t, cop_lt, cop_le, cop_gt, cop_ge, cop_eq, cop_ne, bop_add, bop_sub, bop_mul, bop_mod, bop_fdiv, bop_addT, bop_mulT, iT, at0_map, e1])
        split at e
        · rename_i hu
          subst hu
          split at e
          case isFalse => cases e
          rename_i hl4
          cases e
          refine ⟨fun _ => ?_, fun z => absurd rfl z⟩
          (try simp only [forall_const, reduceCtorEq, false_implies, implies_true, Bool.false_eq_true, Dv.tup.injEq, dnR_noX, dnS_toS, dnSL_cons, dnSL_nil, dn_par, dn_par3, dn_asg, dn_setlc, dn_exp, dn_ret, dn_iff, dn_aug, dn_forr, dn_whl, dn_brk, dn_cnt, dn_retn, start, wipeS, glLen, most, tyIs, Option.map_some, Option.bind_some, Option.some.injEq, List.map_cons, List.map_nil, List.cons_append, List.nil_append, List.length_cons, List.length_nil, List.reduceReplicate, List.getElem?_cons_zero, List.getElem?_cons_succ, List.set_cons_zero, List.set_cons_succ, Nat.reduceAdd, Nat.reduceSub, Nat.reduceLeDiff, decide_true, decide_false, if_true, Bool.true_and, Bool.and_true, Dv.bl.injEq, Dv.int.injEq, exists_eq_left, exists_eq_left', true_and, and_true, Bool.and_self, Bool.not_true, Bool.not_false, eq_self, ↓reduceIte, List.isEmpty_cons, Nat.zero_add, and_self, true_implies, decide_eq_true_eq, decide_eq_false_iff_not, dnE_var, dnE_gint, dnE_int, dnE_str, dnE_bl, dnE_non, dnE_tup, dnE_lst, dnE_bin, dnE_cmp, dnE_chain, dnE_not, dnE_neg, dnE_and, dnE_or, dnA_one, dnA_cons, dnO_one, dnO_cons, dnE_ife, dnE_ix, dnE_sl, dnS_slT, dnE_call, dnE_bi, dnE_bm, dnE_isi, dnE_dnew, dnE_disp, dnE_lc, dnE_lcStp, dnF_nil, dnF_cons, dnL_nil, dnL_cons, dnV_none, dnV_some, dnI_seq, dnI_rng1, dnI_rng2, dnI_enum, dnG_name, dnG_tup, dnG_sub, dnGL_nil, dnGL_cons, dnB_len_t, dnB_set0, dnB_int, ixs_t, src_t, cop_lt, cop_le, cop_gt, cop_ge, cop_eq, cop_ne, bop_add, bop_sub, bop_mul, bop_mod, bop_fdiv, bop_addT, bop_mulT, dnK_append (o.at_ 0 rfl), cut_take, List.length_map, List.length_append, List.length_take])
          refine ⟨by omega, ?_⟩
          have : ((k : Int) + 1) = ((k + 1 : Nat) : Int) := by omega
          rw [this]
          (try simp only [forall_const, reduceCtorEq, false_implies, implies_true, Bool.false_eq_true, Dv.tup.injEq, dnR_noX, dnS_toS, dnSL_cons, dnSL_nil, dn_par, dn_par3, dn_asg, dn_setlc, dn_exp, dn_ret, dn_iff, dn_aug, dn_forr, dn_whl, dn_brk, dn_cnt, dn_retn, start, wipeS, glLen, most, tyIs, Option.map_some, Option.bind_some, Option.some.injEq, List.map_cons, List.map_nil, List.cons_append, List.nil_append, List.length_cons, List.length_nil, List.reduceReplicate, List.getElem?_cons_zero, List.getElem?_cons_succ, List.set_cons_zero, List.set_cons_succ, Nat.reduceAdd, Nat.reduceSub, Nat.reduceLeDiff, decide_true, decide_false, if_true, Bool.true_and, Bool.and_true, Dv.bl.injEq, Dv.int.injEq, exists_eq_left, exists_eq_left', true_and, and_true, Bool.and_self, Bool.not_true, Bool.not_false, eq_self, ↓reduceIte, List.isEmpty_cons, Nat.zero_add, and_self, true_implies, decide_eq_true_eq, decide_eq_false_iff_not, dnE_var, dnE_gint, dnE_int, dnE_str, dnE_bl, dnE_non, dnE_tup, dnE_lst, dnE_bin, dnE_cmp, dnE_chain, dnE_not, dnE_neg, dnE_and, dnE_or, dnA_one, dnA_cons, dnO_one, dnO_cons, dnE_ife, dnE_ix, dnE_sl, dnS_slT, dnE_call, dnE_bi, dnE_bm, dnE_isi, dnE_dnew, dnE_disp, dnE_lc, dnE_lcStp, dnF_nil, dnF_cons, dnL_nil, dnL_cons, dnV_none, dnV_some, dnI_seq, dnI_rng1, dnI_rng2, dnI_enum, dnG_name, dnG_tup, dnG_sub, dnGL_nil, dnGL_cons, dnB_len_t, dnB_set0, dnB_int, ixs_t, src_t, cop_lt, cop_le, cop_gt, cop_ge, cop_eq, cop_ne, bop_add, bop_sub, bop_mul, bop_mod, bop_fdiv, bop_addT, bop_mulT, cut_drop Dv.int entries (k + 1) (by omega), List.length_map, List.length_append, List.length_take, List.length_drop])
          refine ⟨by omega, by omega, ?_⟩
          (try simp only [forall_const, reduceCtorEq, false_implies, implies_true, Bool.false_eq_true, Dv.tup.injEq, dnR_noX, dnS_toS, dnSL_cons, dnSL_nil, dn_par, dn_par3, dn_asg, dn_setlc, dn_exp, dn_ret, dn_iff, dn_aug, dn_forr, dn_whl, dn_brk, dn_cnt, dn_retn, start, wipeS, glLen, most, tyIs, Option.map_some, Option.bind_some, Option.some.injEq, List.map_cons, List.map_nil, List.cons_append, List.nil_append, List.length_cons, List.length_nil, List.reduceReplicate, List.getElem?_cons_zero, List.getElem?_cons_succ, List.set_cons_zero, List.set_cons_succ, Nat.reduceAdd, Nat.reduceSub, Nat.reduceLeDiff, decide_true, decide_false, if_true, Bool.true_and, Bool.and_true, Dv.bl.injEq, Dv.int.injEq, exists_eq_left, exists_eq_left', true_and, and_true, Bool.and_self, Bool.not_true, Bool.not_false, eq_self, ↓reduceIte, List.isEmpty_cons, Nat.zero_add, and_self, true_implies, decide_eq_true_eq, decide_eq_false_iff_not, dnE_var, dnE_gint, dnE_int, dnE_str, dnE_bl, dnE_non, dnE_tup, dnE_lst, dnE_bin, dnE_cmp, dnE_chain, dnE_not, dnE_neg, dnE_and, dnE_or, dnA_one, dnA_cons, dnO_one, dnO_cons, dnE_ife, dnE_ix, dnE_sl, dnS_slT, dnE_call, dnE_bi, dnE_bm, dnE_isi, dnE_dnew, dnE_disp, dnE_lc, dnE_lcStp, dnF_nil, dnF_cons, dnL_nil, dnL_cons, dnV_none, dnV_some, dnI_seq, dnI_rng1, dnI_rng2, dnI_enum, dnG_name, dnG_tup, dnG_sub, dnGL_nil, dnGL_cons, dnB_len_t, dnB_set0, dnB_int, ixs_t, src_t, cop_lt, cop_le, cop_gt, cop_ge, cop_eq, cop_ne, bop_add, bop_sub, bop_mul, bop_mod, bop_fdiv, bop_addT, bop_mulT, dnM_append (o.at_ 0 rfl), List.length_map])
          refine ⟨by omega, _, rfl, ?_⟩
          have o2 := o.set 0 rfl (.lst ((l ++ [entries.take k ++ [(flag : Int)] ++ entries.drop (k + 1) ++ [(k : Int)]]).map iT))
          simpa [iT] using o2
        · rename_i hu
          cases e
          refine ⟨fun z => absurd z hu, fun _ => ?_⟩
          exact ⟨_, rfl, o⟩
      · rintro σ h1 ⟨x, rfl, o⟩
        exact ⟨_, _, rfl, o⟩
    · rintro σ h1 ⟨x, y, rfl, o⟩
      (try simp only [forall_const, reduceCtorEq, false_implies, implies_true, Bool.false_eq_true, Dv.tup.injEq, dnR_noX, dnS_toS, dnSL_cons, dnSL_nil, dn_par, dn_par3, dn_asg, dn_setlc, dn_exp, dn_ret, dn_iff, dn_aug, dn_forr, dn_whl, dn_brk, dn_cnt, dn_retn, start, wipeS, glLen, most, tyIs, Option.map_some, Option.bind_some, Option.some.injEq, List.map_cons, List.map_nil, List.cons_append, List.nil_append, List.length_cons, List.length_nil, List.reduceReplicate, List.getElem?_cons_zero, List.getElem?_cons_succ, List.set_cons_zero, List.set_cons_succ, Nat.reduceAdd, Nat.reduceSub, Nat.reduceLeDiff, decide_true, decide_false, if_true, Bool.true_and, Bool.and_true, Dv.bl.injEq, Dv.int.injEq, exists_eq_left, exists_eq_left', true_and, and_true, Bool.and_self, Bool.not_true, Bool.not_false, eq_self, ↓reduceIte, List.isEmpty_cons, Nat.zero_add, and_self, true_implies, decide_eq_true_eq, decide_eq_false_iff_not, dnE_var, dnE_gint, dnE_int, dnE_str, dnE_bl, dnE_non, dnE_tup, dnE_lst, dnE_bin, dnE_cmp, dnE_chain, dnE_not, dnE_neg, dnE_and, dnE_or, dnA_one, dnA_cons, dnO_one, dnO_cons, dnE_ife, dnE_ix, dnE_sl, dnS_slT, dnE_call, dnE_bi, dnE_bm, dnE_isi, dnE_dnew, dnE_disp, dnE_lc, dnE_lcStp, dnF_nil, dnF_cons, dnL_nil, dnL_cons, dnV_none, dnV_some, dnI_seq, dnI_rng1, dnI_rng2, dnI_enum, dnG_name, dnG_tup, dnG_sub, dnGL_nil, dnGL_cons, dnB_len_t, dnB_set0, dnB_int, ixs_t, src_t, cop_lt, cop_le, cop_gt, cop_ge, cop_eq, cop_ne, bop_add, bop_sub, bop_mul, bop_mod, bop_fdiv, bop_addT, bop_mulT])
      exact ⟨_, _, _, _, _, rfl, o.drop _ (by simp)⟩
  · rintro σ h1 ⟨a, x, y, z, w, rfl, o⟩
    (try simp only [forall_const, reduceCtorEq, false_implies, implies_true, Bool.false_eq_true, Dv.tup.injEq, dnR_noX, dnS_toS, dnSL_cons, dnSL_nil, dn_par, dn_par3, dn_asg, dn_setlc, dn_exp, dn_ret, dn_iff, dn_aug, dn_forr, dn_whl, dn_brk, dn_cnt, dn_retn, start, wipeS, glLen, most, tyIs, Option.map_some, Option.bind_some, Option.some.injEq, List.map_cons, List.map_nil, List.cons_append, List.nil_append, List.length_cons, List.length_nil, List.reduceReplicate, List.getElem?_cons_zero, List.getElem?_cons_succ, List.set_cons_zero, List.set_cons_succ, Nat.reduceAdd, Nat.reduceSub, Nat.reduceLeDiff, decide_true, decide_false, if_true, Bool.true_and, Bool.and_true, Dv.bl.injEq, Dv.int.injEq, exists_eq_left, exists_eq_left', true_and, and_true, Bool.and_self, Bool.not_true, Bool.not_false, eq_self, ↓reduceIte, List.isEmpty_cons, Nat.zero_add, and_self, true_implies, decide_eq_true_eq, decide_eq_false_iff_not, dnE_var, dnE_gint, dnE_int, dnE_str, dnE_bl, dnE_non, dnE_tup, dnE_lst, dnE_bin, dnE_cmp, dnE_chain, dnE_not, dnE_neg, dnE_and, dnE_or, dnA_one, dnA_cons, dnO_one, dnO_cons, dnE_ife, dnE_ix, dnE_sl, dnS_slT, dnE_call, dnE_bi, dnE_bm, dnE_isi, dnE_dnew, dnE_disp, dnE_lc, dnE_lcStp, dnF_nil, dnF_cons, dnL_nil, dnL_cons, dnV_none, dnV_some, dnI_seq, dnI_rng1, dnI_rng2, dnI_enum, dnG_name, dnG_tup, dnG_sub, dnGL_nil, dnGL_cons, dnB_len_t, dnB_set0, dnB_int, ixs_t, src_t, cop_lt, cop_le, cop_gt, cop_ge, cop_eq, cop_ne, bop_add, bop_sub, bop_mul, bop_mod, bop_fdiv, bop_addT, bop_mulT])
    exact ⟨a, rfl, o⟩
end
end FF
end

section
set_option Elab.async false
set_option linter.all false
set_option maxRecDepth 100000
set_option maxHeartbeats 4000000
/-! PL9: frames. -/
namespace FF
open PySem

def nkI (r : List Int) : NestedKey := .tup (r.map .num)
def nkP (p : List (List Int)) : NestedKey := .tup (p.map nkI)
theorem nkOf_iT (n : Nat) (r : List Int) : nkOf (n + 2) (iT r) = some (nkI r) := by
  unfold nkOf iT nkI
  suffices (r.map Dv.int).mapM (nkOf (n + 1)) = some (r.map NestedKey.num) by simp only [this, Option.map_some]
  induction r with
  | nil => rfl
  | cons i r ih => rw [List.map_cons, List.mapM_cons, ih]; rfl
theorem nkOf_pT (n : Nat) (p : List (List Int)) : nkOf (n + 3) (.tup (p.map iT)) = some (nkP p) := by
  unfold nkOf nkP
  suffices (p.map iT).mapM (nkOf (n + 2)) = some (p.map nkI) by simp only [this, Option.map_some]
  induction p with
  | nil => rfl
  | cons i r ih => rw [List.map_cons, List.mapM_cons, ih, nkOf_iT]; rfl
theorem dvNs_map (ks : List NestedKey) : dvNs ks = ks.map dvN := by
  induction ks with
  | nil => rfl
  | cons k ks ih => rw [dvNs, ih]; rfl
theorem dvN_nkI (r : List Int) : dvN (nkI r) = iT r := by
  unfold nkI iT
  rw [dvN, dvNs_map, List.map_map]
  congr 1
theorem dvN_nkP (p : List (List Int)) : dvN (nkP p) = pT p := by
  unfold nkP pT
  rw [dvN, dvNs_map, List.map_map]
  congr 1
  apply List.map_congr_left
  intro a _
  exact dvN_nkI a
theorem iT_inj {a b : List Int} (e : iT a = iT b) : a = b := by
  unfold iT at e
  simp only [Dv.tup.injEq] at e
  exact (List.map_inj_right (fun x y z => by simpa using z)).mp e
theorem pT_inj {a b : List (List Int)} (e : pT a = pT b) : a = b := by
  unfold pT at e
  simp only [Dv.tup.injEq] at e
  exact (List.map_inj_right (fun x y z => iT_inj z)).mp e
theorem nkP_inj {a b : List (List Int)} : nkP a = nkP b ↔ a = b :=
  ⟨fun e => pT_inj (by rw [← dvN_nkP, ← dvN_nkP, e]), fun e => by rw [e]⟩
def keysK (fs : List (List (List Int))) : List (NestedKey × Dv) := fs.map fun p => (nkP p, .bl true)
theorem kPut_keysP (fs : List (List (List Int))) (p : List (List Int)) : kPut (keysK fs) (nkP p) (.bl true) = keysK (if p ∈ fs then fs else fs ++ [p]) := by
  induction fs with
  | nil => simp [keysK, kPut]
  | cons f fs ih =>
    simp only [keysK, List.map_cons, kPut, nkP_inj] at ih ⊢
    by_cases h : f = p
    · subst h
      simp
    · rw [if_neg h, ih]
      have : p ∈ f :: fs ↔ p ∈ fs := by simp [Ne.symm h]
      by_cases h2 : p ∈ fs
      · rw [if_pos h2, if_pos (this.mpr h2)]; rfl
      · rw [if_neg h2, if_neg (fun z => h2 (this.mp z))]; simp
def insP (x : List (List Int)) : List (List (List Int)) → List (List (List Int))
  | [] => [x]
  | y :: r => if ltP x y then x :: y :: r else y :: insP x r
def sortPt (ps : List (List (List Int))) : List (List (List Int)) := ps.foldl (fun acc x => insP x acc) []
theorem pureD_iT (n : Nat) (r : List Int) : pureD (n + 2) (iT r) = true := by
  simp [iT, pureD]
theorem pureD_pT (n : Nat) (p : List (List Int)) : pureD (n + 3) (pT p) = true := by
  simp only [pT, pureD, List.all_map, List.all_eq_true]
  intro x _
  exact pureD_iT n x
theorem headK_pT {p : List (List Int)} (e : p.isEmpty = false) : headK (pT p) = 2 := by
  cases p with
  | nil => cases e
  | cons r t => rfl
theorem insS_pT (h : Hh) (x : List (List Int)) (ps : List (List (List Int))) : insS (fun x z => (dlt false h x z).getD false) (pT x) (ps.map pT) = (insP x ps).map pT := by
  induction ps with
  | nil => rfl
  | cons y r ih =>
    simp only [List.map_cons, insS, insP, dlt_pT, Option.getD_some]
    split
    · rfl
    · rw [ih]; rfl
theorem sortI_pT (h : Hh) (ps : List (List (List Int))) : sortI (fun x z => (dlt false h x z).getD false) (ps.map pT) = (sortPt ps).map pT := by
  unfold sortI sortPt
  suffices ∀ acc : List (List (List Int)), (ps.map pT).foldl (fun acc x => insS (fun x z => (dlt false h x z).getD false) x acc) (acc.map pT) = (ps.foldl (fun acc x => insP x acc) acc).map pT from this []
  induction ps with
  | nil => intro acc; rfl
  | cons p r ih =>
    intro acc
    rw [List.map_cons, List.foldl_cons, List.foldl_cons, insS_pT, ih]
theorem sortS_pT {h : Hh} {ps : List (List (List Int))} (hp : (ps.all fun p => !p.isEmpty) = true) : sortS h (ps.map pT) = some ((sortPt ps).map pT) := by
  rw [List.all_eq_true] at hp
  have hk : ∀ p ∈ ps, headK (pT p) = 2 := fun p m => headK_pT (by simpa using hp p m)
  cases ps with
  | nil => rfl
  | cons y r =>
    rw [← sortI_pT h]
    simp only [sortS, List.map_cons]
    rw [if_pos]
    simp only [Bool.and_eq_true]
    refine ⟨⟨?_, ?_⟩, ?_⟩
    · rw [hk y List.mem_cons_self]; decide
    · rw [← List.map_cons (f := pT), List.all_eq_true]
      intro x m
      obtain ⟨p, mp, rfl⟩ := List.mem_map.mp m
      rw [hk p mp, hk y List.mem_cons_self, pureD_pT]
      rfl
    · rw [← List.map_cons (f := pT), List.all_eq_true]
      intro x m
      rw [List.all_eq_true]
      intro z mz
      obtain ⟨p, mp, rfl⟩ := List.mem_map.mp m
      obtain ⟨q, mq, rfl⟩ := List.mem_map.mp mz
      rw [dlt_pT]
      rfl
theorem insP_len (x : List (List Int)) (ps : List (List (List Int))) : (insP x ps).length = ps.length + 1 := by
  induction ps with
  | nil => rfl
  | cons y r ih =>
    unfold insP
    split
    · rfl
    · rw [List.length_cons, ih, List.length_cons]
theorem sortPt_len (ps : List (List (List Int))) : (sortPt ps).length = ps.length := by
  unfold sortPt
  suffices ∀ acc : List (List (List Int)), (ps.foldl (fun acc x => insP x acc) acc).length = acc.length + ps.length by simpa using this []
  induction ps with
  | nil => intro acc; rfl
  | cons p r ih => intro acc; rw [List.foldl_cons, ih, insP_len, List.length_cons]; omega
section
variable {h : Hh} {n : Nat} {Q : Dv → Hh → Prop}
theorem sets_nP {fs : List (List (List Int))} {p : List (List Int)} {Q : Unit → Hh → Prop} (e : h[n]? = some (.dn (keysK fs))) : dnR (sets (.ref n) (.tup (p.map iT)) (.bl true) h) Q = (fs.length < most ∧ Q () (h.set n (.dn (keysK (if p ∈ fs then fs else fs ++ [p]))))) := by
  have : nkOf 8 (.tup (p.map iT)) = some (.tup (p.map nkI)) := nkOf_pT 5 p
  have e2 := kPut_keysP fs p
  unfold nkP at e2
  simp only [sets, e, this, dn_iteP, dnR_ok, e2, decide_eq_true_eq]
  by_cases hx : fs.length < most <;> simp [keysK, hx]
theorem dnB_sorted_nP {fs : List (List (List Int))} (e : h[n]? = some (.dn (keysK fs))) (hp : (fs.all fun p => !p.isEmpty) = true) (hl : fs.length < 1000) : dnR (bis .sorted [.ref n] h) Q = Q (.ref h.length) (h ++ [.lst ((sortPt fs).map pT)]) := by
  have : (keysK fs).map (fun p => dvN p.1) = fs.map pT := by
    unfold keysK
    rw [List.map_map]
    exact List.map_congr_left fun a _ => dvN_nkP a
  simp only [bis, bis.keysOf, e, this, sortS_pT hp, dn_iteP, dnR_ok, List.length_map, sortPt_len]
  have : decide (fs.length ≤ most) = true := by unfold most; simp; omega
  simp [this]
end
theorem ones_rep (count : Nat) : (List.replicate count [Dv.int 1]).flatten = (List.replicate count (1 : Int)).map .int := by
  induction count with
  | zero => rfl
  | succ n ih => rw [List.replicate_succ, List.flatten_cons, ih]; rfl

/-! frames -/
def commM (s0 s2 : List Int) (count : Nat) : Option Bool :=
  (mapO (fun flag : Nat => (gA s2 (flag : Int)).bind fun a => (gA s0 a).bind fun b => (gA s0 (flag : Int)).bind fun c => (gA s2 c).bind fun d => some (some (!decide (b = d)))) (List.range count)).map fun bs => bs.any id
def fr1 (s0 s2 ones : List Int) (found : List (List (List Int))) (s1 : List Int) : Option (List (List (List Int))) :=
  (reachedM [s0, s1, s2]).bind fun rs => if rs.all id = true then (leastM [s0, s1, s2, ones, ones]).bind fun l => if found.length < 999 then some (if l.take 3 ∈ found then found else found ++ [l.take 3]) else none else some found
def fr2 (ways : List (List Int)) (ones : List Int) (count : Nat) (s0 : List Int) (found : List (List (List Int))) (s2 : List Int) : Option (List (List (List Int))) :=
  (commM s0 s2 count).bind fun b => if b = true then some found else ways.foldlM (fr1 s0 s2 ones) found
def framesM (count : Nat) : Option (List (List (List Int))) :=
  if 1 ≤ count ∧ count ≤ 4 then (exchangesM count).bind fun ways => if ways.length < 999 then
   (ways.foldlM (fun found s0 => ways.foldlM (fr2 ways (List.replicate count 1) count s0) found) []).bind fun found => if (found.all fun p => !p.isEmpty) = true ∧ found.length < 999 then some (sortPt found) else none else none else none
section
variable {wf : Nat} (hw : 2000 ≤ wf)
include hw
theorem frames_ok {n : Nat} {h : Hh} {count : Nat} {c : Int} (hc : c = count) {r : List (List (List Int))} (e : framesM count = some r) : dnR (callN Lw.T wf (n + 3) 5 [.int c] h) fun v h' => v = .tup (r.map pT) ∧ h <+: h' := by
  refine call_ir rfl rfl ?_
  subst hc
  unfold framesM at e
  split at e
  case isFalse => cases e
  rename_i hl
  obtain ⟨ways, e1, e⟩ := opt_bind e
  split at e
  case isFalse => cases e
  rename_i hl1
  obtain ⟨found, e2, e⟩ := opt_bind e
  split at e
  case isFalse => cases e
  rename_i hl2
  cases e
  (try simp only [forall_const, reduceCtorEq, false_implies, implies_true, Bool.false_eq_true, Dv.tup.injEq, dnR_noX, dnS_toS, dnSL_cons, dnSL_nil, dn_par, dn_par3, dn_asg, dn_setlc, dn_exp, dn_ret, dn_iff, dn_aug, dn_forr, dn_whl, dn_brk, dn_cnt, dn_retn, start, wipeS, glLen, most, tyIs, Option.map_some, Option.bind_some, Option.some.injEq, List.map_cons, List.map_nil, List.cons_append, List.nil_append, List.length_cons, List.length_nil, List.reduceReplicate, List.getElem?_cons_zero, List.getElem?_cons_succ, List.set_cons_zero, List.set_cons_succ, Nat.reduceAdd, Nat.reduceSub, Nat.reduceLeDiff, decide_true, decide_false, if_true, Bool.true_and, Bool.and_true, Dv.bl.injEq, Dv.int.injEq, exists_eq_left, exists_eq_left', true_and, and_true, Bool.and_self, Bool.not_true, Bool.not_false, eq_self, ↓reduceIte, List.isEmpty_cons, Nat.zero_add, and_self, true_implies, decide_eq_true_eq, decide_eq_false_iff_not, dnE_var, dnE_gint, dnE_int, dnE_str, dnE_bl, dnE_non, dnE_tup, dnE_lst, dnE_bin, dnE_cmp, dnE_chain, dnE_not, dnE_neg, dnE_and, dnE_or, dnA_one, dnA_cons, dnO_one, dnO_cons, dnE_ife, dnE_ix, dnE_sl, dnS_slT, dnE_call, dnE_bi, dnE_bm, dnE_isi, dnE_dnew, dnE_disp, dnE_lc, dnE_lcStp, dnF_nil, dnF_cons, dnL_nil, dnL_cons, dnV_none, dnV_some, dnI_seq, dnI_rng1, dnI_rng2, dnI_enum, dnG_name, dnG_tup, dnG_sub, dnGL_nil, dnGL_cons, dnB_len_t, dnB_set0, dnB_int, ixs_t, src_t, cop_lt, cop_le, cop_gt, cop_ge, cop_eq, cop_ne, bop_add, bop_sub, bop_mul, bop_mod, bop_fdiv, bop_addT, bop_mulT, Lw.ir_frames])
  refine ⟨fun z => absurd z (by omega), fun _ => ?_⟩
  refine dnR.imp (exchanges_ok hw rfl e1) ?_
  rintro _ h1 ⟨a, rfl, o⟩
  (try simp only [forall_const, reduceCtorEq, false_implies, implies_true, Bool.false_eq_true, Dv.tup.injEq, dnR_noX, dnS_toS, dnSL_cons, dnSL_nil, dn_par, dn_par3, dn_asg, dn_setlc, dn_exp, dn_ret, dn_iff, dn_aug, dn_forr, dn_whl, dn_brk, dn_cnt, dn_retn, start, wipeS, glLen, most, tyIs, Option.map_some, Option.bind_some, Option.some.injEq, List.map_cons, List.map_nil, List.cons_append, List.nil_append, List.length_cons, List.length_nil, List.reduceReplicate, List.getElem?_cons_zero, List.getElem?_cons_succ, List.set_cons_zero, List.set_cons_succ, Nat.reduceAdd, Nat.reduceSub, Nat.reduceLeDiff, decide_true, decide_false, if_true, Bool.true_and, Bool.and_true, Dv.bl.injEq, Dv.int.injEq, exists_eq_left, exists_eq_left', true_and, and_true, Bool.and_self, Bool.not_true, Bool.not_false, eq_self, ↓reduceIte, List.isEmpty_cons, Nat.zero_add, and_self, true_implies, decide_eq_true_eq, decide_eq_false_iff_not, dnE_var, dnE_gint, dnE_int, dnE_str, dnE_bl, dnE_non, dnE_tup, dnE_lst, dnE_bin, dnE_cmp, dnE_chain, dnE_not, dnE_neg, dnE_and, dnE_or, dnA_one, dnA_cons, dnO_one, dnO_cons, dnE_ife, dnE_ix, dnE_sl, dnS_slT, dnE_call, dnE_bi, dnE_bm, dnE_isi, dnE_dnew, dnE_disp, dnE_lc, dnE_lcStp, dnF_nil, dnF_cons, dnL_nil, dnL_cons, dnV_none, dnV_some, dnI_seq, dnI_rng1, dnI_rng2, dnI_enum, dnG_name, dnG_tup, dnG_sub, dnGL_nil, dnGL_cons, dnB_len_t, dnB_set0, dnB_int, ixs_t, src_t, cop_lt, cop_le, cop_gt, cop_ge, cop_eq, cop_ne, bop_add, bop_sub, bop_mul, bop_mod, bop_fdiv, bop_addT, bop_mulT, Int.toNat_natCast, ones_rep])
  refine ⟨by simp; omega, ?_⟩
  have o := o.alloc (.dn (keysK []))
  have hkk : Ob.dn [] = Ob.dn (keysK []) := rfl
  rw [hkk]
  generalize h1 ++ [Ob.dn (keysK [])] = h2 at o ⊢
  generalize h1.length = d at o ⊢
  (try simp only [forall_const, reduceCtorEq, false_implies, implies_true, Bool.false_eq_true, Dv.tup.injEq, dnR_noX, dnS_toS, dnSL_cons, dnSL_nil, dn_par, dn_par3, dn_asg, dn_setlc, dn_exp, dn_ret, dn_iff, dn_aug, dn_forr, dn_whl, dn_brk, dn_cnt, dn_retn, start, wipeS, glLen, most, tyIs, Option.map_some, Option.bind_some, Option.some.injEq, List.map_cons, List.map_nil, List.cons_append, List.nil_append, List.length_cons, List.length_nil, List.reduceReplicate, List.getElem?_cons_zero, List.getElem?_cons_succ, List.set_cons_zero, List.set_cons_succ, Nat.reduceAdd, Nat.reduceSub, Nat.reduceLeDiff, decide_true, decide_false, if_true, Bool.true_and, Bool.and_true, Dv.bl.injEq, Dv.int.injEq, exists_eq_left, exists_eq_left', true_and, and_true, Bool.and_self, Bool.not_true, Bool.not_false, eq_self, ↓reduceIte, List.isEmpty_cons, Nat.zero_add, and_self, true_implies, decide_eq_true_eq, decide_eq_false_iff_not, dnE_var, dnE_gint, dnE_int, dnE_str, dnE_bl, dnE_non, dnE_tup, dnE_lst, dnE_bin, dnE_cmp, dnE_chain, dnE_not, dnE_neg, dnE_and, dnE_or, dnA_one, dnA_cons, dnO_one, dnO_cons, dnE_ife, dnE_ix, dnE_sl, dnS_slT, dnE_call, dnE_bi, dnE_bm, dnE_isi, dnE_dnew, dnE_disp, dnE_lc, dnE_lcStp, dnF_nil, dnF_cons, dnL_nil, dnL_cons, dnV_none, dnV_some, dnI_seq, dnI_rng1, dnI_rng2, dnI_enum, dnG_name, dnG_tup, dnG_sub, dnGL_nil, dnGL_cons, dnB_len_t, dnB_set0, dnB_int, ixs_t, src_t, cop_lt, cop_le, cop_gt, cop_ge, cop_eq, cop_ne, bop_add, bop_sub, bop_mul, bop_mod, bop_fdiv, bop_addT, bop_mulT, src_l (o.at_ 1 rfl)])
  refine forL_sim iT ways (fun (s : List (List (List Int))) σ h1 => ∃ x y z w, σ = [some (.int count), some (.ref a), some (iT (List.replicate count 1)), some (.ref d), x, y, z, w] ∧ Own h h1 [(d, .dn (keysK s)), (a, .lst (ways.map iT))]) _ ?_ ?_ e2 ⟨_, _, _, _, rfl, o⟩ (by omega) ?_
  · rintro s σ h1 ⟨x, y, z, w, rfl, o⟩
    exact seq_l (o.at_ 1 rfl)
  · rintro s t σ h1 s0 _ ⟨x, y, z, w, rfl, o⟩ e
    (try simp only [forall_const, reduceCtorEq, false_implies, implies_true, Bool.false_eq_true, Dv.tup.injEq, dnR_noX, dnS_toS, dnSL_cons, dnSL_nil, dn_par, dn_par3, dn_asg, dn_setlc, dn_exp, dn_ret, dn_iff, dn_aug, dn_forr, dn_whl, dn_brk, dn_cnt, dn_retn, start, wipeS, glLen, most, tyIs, Option.map_some, Option.bind_some, Option.some.injEq, List.map_cons, List.map_nil, List.cons_append, List.nil_append, List.length_cons, List.length_nil, List.reduceReplicate, List.getElem?_cons_zero, List.getElem?_cons_succ, List.set_cons_zero, List.set_cons_succ, Nat.reduceAdd, Nat.reduceSub, Nat.reduceLeDiff, decide_true, decide_false, if_true, Bool.true_and, Bool.and_true, Dv.bl.injEq, Dv.int.injEq, exists_eq_left, exists_eq_left', true_and, and_true, Bool.and_self, Bool.not_true, Bool.not_false, eq_self, ↓reduceIte, List.isEmpty_cons, Nat.zero_add, and_self, true_implies, decide_eq_true_eq, decide_eq_false_iff_not, dnE_var, dnE_gint, dnE_int, dnE_str, dnE_bl, dnE_non, dnE_tup, dnE_lst, dnE_bin, dnE_cmp, dnE_chain, dnE_not, dnE_neg, dnE_and, dnE_or, dnA_one, dnA_cons, dnO_one, dnO_cons, dnE_ife, dnE_ix, dnE_sl, dnS_slT, dnE_call, dnE_bi, dnE_bm, dnE_isi, dnE_dnew, dnE_disp, dnE_lc, dnE_lcStp, dnF_nil, dnF_cons, dnL_nil, dnL_cons, dnV_none, dnV_some, dnI_seq, dnI_rng1, dnI_rng2, dnI_enum, dnG_name, dnG_tup, dnG_sub, dnGL_nil, dnGL_cons, dnB_len_t, dnB_set0, dnB_int, ixs_t, src_t, cop_lt, cop_le, cop_gt, cop_ge, cop_eq, cop_ne, bop_add, bop_sub, bop_mul, bop_mod, bop_fdiv, bop_addT, bop_mulT, src_l (o.at_ 1 rfl)])
    refine forL_sim iT ways (fun (s : List (List (List Int))) σ h1 => ∃ y z w, σ = [some (.int count), some (.ref a), some (iT (List.replicate count 1)), some (.ref d), some (iT s0), y, z, w] ∧ Own h h1 [(d, .dn (keysK s)), (a, .lst (ways.map iT))]) _ ?_ ?_ e ⟨_, _, _, rfl, o⟩ (by omega) ?_
    · rintro s σ h1 ⟨y, z, w, rfl, o⟩
      exact seq_l (o.at_ 1 rfl)
    · rintro s t σ h1 s2 _ ⟨y, z, w, rfl, o⟩ e
      unfold fr2 at e
      obtain ⟨b, e3, e⟩ := opt_bind e
      obtain ⟨bs, e4, rfl⟩ := Option.map_eq_some_iff.mp e3
      (try simp only [forall_const, reduceCtorEq, false_implies, implies_true, Bool.false_eq_true, Dv.tup.injEq, dnR_noX, dnS_toS, dnSL_cons, dnSL_nil, dn_par, dn_par3, dn_asg, dn_setlc, dn_exp, dn_ret, dn_iff, dn_aug, dn_forr, dn_whl, dn_brk, dn_cnt, dn_retn, start, wipeS, glLen, most, tyIs, Option.map_some, Option.bind_some, Option.some.injEq, List.map_cons, List.map_nil, List.cons_append, List.nil_append, List.length_cons, List.length_nil, List.reduceReplicate, List.getElem?_cons_zero, List.getElem?_cons_succ, List.set_cons_zero, List.set_cons_succ, Nat.reduceAdd, Nat.reduceSub, Nat.reduceLeDiff, decide_true, decide_false, if_true, Bool.true_and, Bool.and_true, Dv.bl.injEq, Dv.int.injEq, exists_eq_left, exists_eq_left', true_and, and_true, Bool.and_self, Bool.not_true, Bool.not_false, eq_self, ↓reduceIte, List.isEmpty_cons, Nat.zero_add, and_self, true_implies, decide_eq_true_eq, decide_eq_false_iff_not, dnE_var, dnE_gint, dnE_int, dnE_str, dnE_bl, dnE_non, dnE_tup, dnE_lst, dnE_bin, dnE_cmp, dnE_chain, dnE_not, dnE_neg, dnE_and, dnE_or, dnA_one, dnA_cons, dnO_one, dnO_cons, dnE_ife, dnE_ix, dnE_sl, dnS_slT, dnE_call, dnE_bi, dnE_bm, dnE_isi, dnE_dnew, dnE_disp, dnE_lc, dnE_lcStp, dnF_nil, dnF_cons, dnL_nil, dnL_cons, dnV_none, dnV_some, dnI_seq, dnI_rng1, dnI_rng2, dnI_enum, dnG_name, dnG_tup, dnG_sub, dnGL_nil, dnGL_cons, dnB_len_t, dnB_set0, dnB_int, ixs_t, src_t, cop_lt, cop_le, cop_gt, cop_ge, cop_eq, cop_ne, bop_add, bop_sub, bop_mul, bop_mod, bop_fdiv, bop_addT, bop_mulT, Int.toNat_natCast])
      refine ⟨intOk_nat (by omega), ?_⟩
      refine lcL_sim (Q := _) (fun i : Nat => Dv.int (i : Int)) Dv.bl (List.range count) (fun h1 => Own h h1 [(d, .dn (keysK s)), (a, .lst (ways.map iT))]) _ (fun _ _ => rng_list _ _) ?_ e4 o (by rw [List.length_range]; omega) (by unfold most; rw [List.length_range]; omega) ?_
      · rintro h1 y r _ o e
        obtain ⟨a1, q1, e⟩ := opt_bind e
        obtain ⟨a2, q2, e⟩ := opt_bind e
        obtain ⟨a3, q3, e⟩ := opt_bind e
        obtain ⟨a4, q4, e⟩ := opt_bind e
        cases e
        (try simp only [forall_const, reduceCtorEq, false_implies, implies_true, Bool.false_eq_true, Dv.tup.injEq, dnR_noX, dnS_toS, dnSL_cons, dnSL_nil, dn_par, dn_par3, dn_asg, dn_setlc, dn_exp, dn_ret, dn_iff, dn_aug, dn_forr, dn_whl, dn_brk, dn_cnt, dn_retn, start, wipeS, glLen, most, tyIs, Option.map_some, Option.bind_some, Option.some.injEq, List.map_cons, List.map_nil, List.cons_append, List.nil_append, List.length_cons, List.length_nil, List.reduceReplicate, List.getElem?_cons_zero, List.getElem?_cons_succ, List.set_cons_zero, List.set_cons_succ, Nat.reduceAdd, Nat.reduceSub, Nat.reduceLeDiff, decide_true, decide_false, if_true, Bool.true_and, Bool.and_true, Dv.bl.injEq, Dv.int.injEq, exists_eq_left, exists_eq_left', true_and, and_true, Bool.and_self, Bool.not_true, Bool.not_false, eq_self, ↓reduceIte, List.isEmpty_cons, Nat.zero_add, and_self, true_implies, decide_eq_true_eq, decide_eq_false_iff_not, dnE_var, dnE_gint, dnE_int, dnE_str, dnE_bl, dnE_non, dnE_tup, dnE_lst, dnE_bin, dnE_cmp, dnE_chain, dnE_not, dnE_neg, dnE_and, dnE_or, dnA_one, dnA_cons, dnO_one, dnO_cons, dnE_ife, dnE_ix, dnE_sl, dnS_slT, dnE_call, dnE_bi, dnE_bm, dnE_isi, dnE_dnew, dnE_disp, dnE_lc, dnE_lcStp, dnF_nil, dnF_cons, dnL_nil, dnL_cons, dnV_none, dnV_some, dnI_seq, dnI_rng1, dnI_rng2, dnI_enum, dnG_name, dnG_tup, dnG_sub, dnGL_nil, dnGL_cons, dnB_len_t, dnB_set0, dnB_int, ixs_t, src_t, cop_lt, cop_le, cop_gt, cop_ge, cop_eq, cop_ne, bop_add, bop_sub, bop_mul, bop_mod, bop_fdiv, bop_addT, bop_mulT, iT, at0_map, q1, q2, q3, q4])
        exact o
      intro h3 o
      (try simp only [forall_const, reduceCtorEq, false_implies, implies_true, Bool.false_eq_true, Dv.tup.injEq, dnR_noX, dnS_toS, dnSL_cons, dnSL_nil, dn_par, dn_par3, dn_asg, dn_setlc, dn_exp, dn_ret, dn_iff, dn_aug, dn_forr, dn_whl, dn_brk, dn_cnt, dn_retn, start, wipeS, glLen, most, tyIs, Option.map_some, Option.bind_some, Option.some.injEq, List.map_cons, List.map_nil, List.cons_append, List.nil_append, List.length_cons, List.length_nil, List.reduceReplicate, List.getElem?_cons_zero, List.getElem?_cons_succ, List.set_cons_zero, List.set_cons_succ, Nat.reduceAdd, Nat.reduceSub, Nat.reduceLeDiff, decide_true, decide_false, if_true, Bool.true_and, Bool.and_true, Dv.bl.injEq, Dv.int.injEq, exists_eq_left, exists_eq_left', true_and, and_true, Bool.and_self, Bool.not_true, Bool.not_false, eq_self, ↓reduceIte, List.isEmpty_cons, Nat.zero_add, and_self, true_implies, decide_eq_true_eq, decide_eq_false_iff_not, dnE_var, dnE_gint, dnE_int, dnE_str, dnE_bl, dnE_non, dnE_tup, dnE_lst, dnE_bin, dnE_cmp, dnE_chain, dnE_not, dnE_neg, dnE_and, dnE_or, dnA_one, dnA_cons, dnO_one, dnO_cons, dnE_ife, dnE_ix, dnE_sl, dnS_slT, dnE_call, dnE_bi, dnE_bm, dnE_isi, dnE_dnew, dnE_disp, dnE_lc, dnE_lcStp, dnF_nil, dnF_cons, dnL_nil, dnL_cons, dnV_none, dnV_some, dnI_seq, dnI_rng1, dnI_rng2, dnI_enum, dnG_name, dnG_tup, dnG_sub, dnGL_nil, dnGL_cons, dnB_len_t, dnB_set0, dnB_int, ixs_t, src_t, cop_lt, cop_le, cop_gt, cop_ge, cop_eq, cop_ne, bop_add, bop_sub, bop_mul, bop_mod, bop_fdiv, bop_addT, bop_mulT, dnB_any_fr])
      have o := o.garb [.lst (bs.map .bl)]
      generalize h3 ++ [Ob.lst (List.map Dv.bl bs)] = h4 at o ⊢
      refine ⟨fun hb => ?_, fun hb => ?_⟩
      · rw [if_pos hb] at e
        cases e
        exact ⟨_, _, _, rfl, o⟩
      rw [if_neg (by rw [hb]; decide)] at e
      (try simp only [forall_const, reduceCtorEq, false_implies, implies_true, Bool.false_eq_true, Dv.tup.injEq, dnR_noX, dnS_toS, dnSL_cons, dnSL_nil, dn_par, dn_par3, dn_asg, dn_setlc, dn_exp, dn_ret, dn_iff, dn_aug, dn_forr, dn_whl, dn_brk, dn_cnt, dn_retn, start, wipeS, glLen, most, tyIs, Option.map_some, Option.bind_some, Option.some.injEq, List.map_cons, List.map_nil, List.cons_append, List.nil_append, List.length_cons, List.length_nil, List.reduceReplicate, List.getElem?_cons_zero, List.getElem?_cons_succ, List.set_cons_zero, List.set_cons_succ, Nat.reduceAdd, Nat.reduceSub, Nat.reduceLeDiff, decide_true, decide_false, if_true, Bool.true_and, Bool.and_true, Dv.bl.injEq, Dv.int.injEq, exists_eq_left, exists_eq_left', true_and, and_true, Bool.and_self, Bool.not_true, Bool.not_false, eq_self, ↓reduceIte, List.isEmpty_cons, Nat.zero_add, and_self, true_implies, decide_eq_true_eq, decide_eq_false_iff_not, dnE_var, dnE_gint, dnE_int, dnE_str, dnE_bl, dnE_non, dnE_tup, dnE_lst, dnE_bin, dnE_cmp, dnE_chain, dnE_not, dnE_neg, dnE_and, dnE_or, dnA_one, dnA_cons, dnO_one, dnO_cons, dnE_ife, dnE_ix, dnE_sl, dnS_slT, dnE_call, dnE_bi, dnE_bm, dnE_isi, dnE_dnew, dnE_disp, dnE_lc, dnE_lcStp, dnF_nil, dnF_cons, dnL_nil, dnL_cons, dnV_none, dnV_some, dnI_seq, dnI_rng1, dnI_rng2, dnI_enum, dnG_name, dnG_tup, dnG_sub, dnGL_nil, dnGL_cons, dnB_len_t, dnB_set0, dnB_int, ixs_t, src_t, cop_lt, cop_le, cop_gt, cop_ge, cop_eq, cop_ne, bop_add, bop_sub, bop_mul, bop_mod, bop_fdiv, bop_addT, bop_mulT, src_l (o.at_ 1 rfl)])
      refine forL_sim iT ways (fun (s : List (List (List Int))) σ h1 => ∃ z w, σ = [some (.int count), some (.ref a), some (iT (List.replicate count 1)), some (.ref d), some (iT s0), some (iT s2), z, w] ∧ Own h h1 [(d, .dn (keysK s)), (a, .lst (ways.map iT))]) _ ?_ ?_ e ⟨_, _, rfl, o⟩ (by omega) ?_
      · rintro s σ h1 ⟨z, w, rfl, o⟩
        exact seq_l (o.at_ 1 rfl)
      · rintro s t σ h1 s1 _ ⟨z, w, rfl, o⟩ e
        unfold fr1 at e
        obtain ⟨rs, q1, e⟩ := opt_bind e
        (try simp only [forall_const, reduceCtorEq, false_implies, implies_true, Bool.false_eq_true, Dv.tup.injEq, dnR_noX, dnS_toS, dnSL_cons, dnSL_nil, dn_par, dn_par3, dn_asg, dn_setlc, dn_exp, dn_ret, dn_iff, dn_aug, dn_forr, dn_whl, dn_brk, dn_cnt, dn_retn, start, wipeS, glLen, most, tyIs, Option.map_some, Option.bind_some, Option.some.injEq, List.map_cons, List.map_nil, List.cons_append, List.nil_append, List.length_cons, List.length_nil, List.reduceReplicate, List.getElem?_cons_zero, List.getElem?_cons_succ, List.set_cons_zero, List.set_cons_succ, Nat.reduceAdd, Nat.reduceSub, Nat.reduceLeDiff, decide_true, decide_false, if_true, Bool.true_and, Bool.and_true, Dv.bl.injEq, Dv.int.injEq, exists_eq_left, exists_eq_left', true_and, and_true, Bool.and_self, Bool.not_true, Bool.not_false, eq_self, ↓reduceIte, List.isEmpty_cons, Nat.zero_add, and_self, true_implies, decide_eq_true_eq, decide_eq_false_iff_not, dnE_var, dnE_gint, dnE_int, dnE_str, dnE_bl, dnE_non, dnE_tup, dnE_lst, dnE_bin, dnE_cmp, dnE_chain, dnE_not, dnE_neg, dnE_and, dnE_or, dnA_one, dnA_cons, dnO_one, dnO_cons, dnE_ife, dnE_ix, dnE_sl, dnS_slT, dnE_call, dnE_bi, dnE_bm, dnE_isi, dnE_dnew, dnE_disp, dnE_lc, dnE_lcStp, dnF_nil, dnF_cons, dnL_nil, dnL_cons, dnV_none, dnV_some, dnI_seq, dnI_rng1, dnI_rng2, dnI_enum, dnG_name, dnG_tup, dnG_sub, dnGL_nil, dnGL_cons, dnB_len_t, dnB_set0, dnB_int, ixs_t, src_t, cop_lt, cop_le, cop_gt, cop_ge, cop_eq, cop_ne, bop_add, bop_sub, bop_mul, bop_mod, bop_fdiv, bop_addT, bop_mulT])
        refine dnR.imp (reached_ok (p := [s0, s1, s2]) hw q1) ?_
        rintro _ h5 ⟨c, rfl, o5⟩
        (try simp only [forall_const, reduceCtorEq, false_implies, implies_true, Bool.false_eq_true, Dv.tup.injEq, dnR_noX, dnS_toS, dnSL_cons, dnSL_nil, dn_par, dn_par3, dn_asg, dn_setlc, dn_exp, dn_ret, dn_iff, dn_aug, dn_forr, dn_whl, dn_brk, dn_cnt, dn_retn, start, wipeS, glLen, most, tyIs, Option.map_some, Option.bind_some, Option.some.injEq, List.map_cons, List.map_nil, List.cons_append, List.nil_append, List.length_cons, List.length_nil, List.reduceReplicate, List.getElem?_cons_zero, List.getElem?_cons_succ, List.set_cons_zero, List.set_cons_succ, Nat.reduceAdd, Nat.reduceSub, Nat.reduceLeDiff, decide_true, decide_false, if_true, Bool.true_and, Bool.and_true, Dv.bl.injEq, Dv.int.injEq, exists_eq_left, exists_eq_left', true_and, and_true, Bool.and_self, Bool.not_true, Bool.not_false, eq_self, ↓reduceIte, List.isEmpty_cons, Nat.zero_add, and_self, true_implies, decide_eq_true_eq, decide_eq_false_iff_not, dnE_var, dnE_gint, dnE_int, dnE_str, dnE_bl, dnE_non, dnE_tup, dnE_lst, dnE_bin, dnE_cmp, dnE_chain, dnE_not, dnE_neg, dnE_and, dnE_or, dnA_one, dnA_cons, dnO_one, dnO_cons, dnE_ife, dnE_ix, dnE_sl, dnS_slT, dnE_call, dnE_bi, dnE_bm, dnE_isi, dnE_dnew, dnE_disp, dnE_lc, dnE_lcStp, dnF_nil, dnF_cons, dnL_nil, dnL_cons, dnV_none, dnV_some, dnI_seq, dnI_rng1, dnI_rng2, dnI_enum, dnG_name, dnG_tup, dnG_sub, dnGL_nil, dnGL_cons, dnB_len_t, dnB_set0, dnB_int, ixs_t, src_t, cop_lt, cop_le, cop_gt, cop_ge, cop_eq, cop_ne, bop_add, bop_sub, bop_mul, bop_mod, bop_fdiv, bop_addT, bop_mulT, dnB_all (o5.at_ 0 rfl)])
        have o := o.ext o5.pre
        refine ⟨fun hb => ?_, fun hb => ?_⟩
        · rw [if_pos hb] at e
          obtain ⟨l, q2, e⟩ := opt_bind e
          split at e
          case isFalse => cases e
          rename_i hl4
          cases e
          refine dnR.imp (least_ok (p := [s0, s1, s2, List.replicate count 1, List.replicate count 1]) hw q2) ?_
          rintro _ h6 ⟨rfl, o6⟩
          have o := o.ext o6
          simp only [pT]
          (try simp only [forall_const, reduceCtorEq, false_implies, implies_true, Bool.false_eq_true, Dv.tup.injEq, dnR_noX, dnS_toS, dnSL_cons, dnSL_nil, dn_par, dn_par3, dn_asg, dn_setlc, dn_exp, dn_ret, dn_iff, dn_aug, dn_forr, dn_whl, dn_brk, dn_cnt, dn_retn, start, wipeS, glLen, most, tyIs, Option.map_some, Option.bind_some, Option.some.injEq, List.map_cons, List.map_nil, List.cons_append, List.nil_append, List.length_cons, List.length_nil, List.reduceReplicate, List.getElem?_cons_zero, List.getElem?_cons_succ, List.set_cons_zero, List.set_cons_succ, Nat.reduceAdd, Nat.reduceSub, Nat.reduceLeDiff, decide_true, decide_false, if_true, Bool.true_and, Bool.and_true, Dv.bl.injEq, Dv.int.injEq, exists_eq_left, exists_eq_left', true_and, and_true, Bool.and_self, Bool.not_true, Bool.not_false, eq_self, ↓reduceIte, List.isEmpty_cons, Nat.zero_add, and_self, true_implies, decide_eq_true_eq, decide_eq_false_iff_not, dnE_var, dnE_gint, dnE_int, dnE_str, dnE_bl, dnE_non, dnE_tup, dnE_lst, dnE_bin, dnE_cmp, dnE_chain, dnE_not, dnE_neg, dnE_and, dnE_or, dnA_one, dnA_cons, dnO_one, dnO_cons, dnE_ife, dnE_ix, dnE_sl, dnS_slT, dnE_call, dnE_bi, dnE_bm, dnE_isi, dnE_dnew, dnE_disp, dnE_lc, dnE_lcStp, dnF_nil, dnF_cons, dnL_nil, dnL_cons, dnV_none, dnV_some, dnI_seq, dnI_rng1, dnI_rng2, dnI_enum, dnG_name, dnG_tup, dnG_sub, dnGL_nil, dnGL_cons, dnB_len_t, dnB_set0, dnB_int, ixs_t, src_t, cop_lt, cop_le, cop_gt, cop_ge, cop_eq, cop_ne, bop_add, bop_sub, bop_mul, bop_mod, bop_fdiv, bop_addT, bop_mulT, cut_take3, sets_nP (o.at_ 0 rfl)])
          refine ⟨by omega, _, _, rfl, ?_⟩
          exact o.set 0 rfl _
        · rw [if_neg (by rw [hb]; decide)] at e
          cases e
          exact ⟨_, _, rfl, o⟩
      · rintro σ h1 ⟨z, w, rfl, o⟩
        exact ⟨_, _, _, rfl, o⟩
    · rintro σ h1 ⟨y, z, w, rfl, o⟩
      exact ⟨_, _, _, _, rfl, o⟩
  · rintro σ h1 ⟨x, y, z, w, rfl, o⟩
    (try simp only [forall_const, reduceCtorEq, false_implies, implies_true, Bool.false_eq_true, Dv.tup.injEq, dnR_noX, dnS_toS, dnSL_cons, dnSL_nil, dn_par, dn_par3, dn_asg, dn_setlc, dn_exp, dn_ret, dn_iff, dn_aug, dn_forr, dn_whl, dn_brk, dn_cnt, dn_retn, start, wipeS, glLen, most, tyIs, Option.map_some, Option.bind_some, Option.some.injEq, List.map_cons, List.map_nil, List.cons_append, List.nil_append, List.length_cons, List.length_nil, List.reduceReplicate, List.getElem?_cons_zero, List.getElem?_cons_succ, List.set_cons_zero, List.set_cons_succ, Nat.reduceAdd, Nat.reduceSub, Nat.reduceLeDiff, decide_true, decide_false, if_true, Bool.true_and, Bool.and_true, Dv.bl.injEq, Dv.int.injEq, exists_eq_left, exists_eq_left', true_and, and_true, Bool.and_self, Bool.not_true, Bool.not_false, eq_self, ↓reduceIte, List.isEmpty_cons, Nat.zero_add, and_self, true_implies, decide_eq_true_eq, decide_eq_false_iff_not, dnE_var, dnE_gint, dnE_int, dnE_str, dnE_bl, dnE_non, dnE_tup, dnE_lst, dnE_bin, dnE_cmp, dnE_chain, dnE_not, dnE_neg, dnE_and, dnE_or, dnA_one, dnA_cons, dnO_one, dnO_cons, dnE_ife, dnE_ix, dnE_sl, dnS_slT, dnE_call, dnE_bi, dnE_bm, dnE_isi, dnE_dnew, dnE_disp, dnE_lc, dnE_lcStp, dnF_nil, dnF_cons, dnL_nil, dnL_cons, dnV_none, dnV_some, dnI_seq, dnI_rng1, dnI_rng2, dnI_enum, dnG_name, dnG_tup, dnG_sub, dnGL_nil, dnGL_cons, dnB_len_t, dnB_set0, dnB_int, ixs_t, src_t, cop_lt, cop_le, cop_gt, cop_ge, cop_eq, cop_ne, bop_add, bop_sub, bop_mul, bop_mod, bop_fdiv, bop_addT, bop_mulT, dnB_sorted_nP (o.at_ 0 rfl) hl2.1 (by omega), dnB_tuple_fr])
    exact (o.garb _).pre
end
end FF
end

section
set_option Elab.async false
set_option linter.all false
set_option maxRecDepth 100000
set_option maxHeartbeats 4000000
/-! PL10: the law's walk, listing, least. -/
namespace FF
open PySem

theorem mapO_some {β γ : Type} (g : β → γ) (ys : List β) : mapO (fun y => some (some (g y))) ys = some (ys.map g) := by
  induction ys with
  | nil => rfl
  | cons y r ih => simp only [mapO, ih, Option.map_some, List.map_cons]
/-! walk -/
def lwStep (k : Nat) (t : List Int × List Bool) (c : List Int) : Option (List Int × List Bool) :=
  (gA t.1 (k : Int)).bind fun f => (gA c f).bind fun far => (gA t.2 far).bind fun b => if b = true then some t else (sA t.2 far true).bind fun s' => if t.1.length < 999 then some (t.1 ++ [far], s') else none
def lwalkM (p : List (List Int)) (flag : Int) : Option (List Int) :=
  (gA p 0).bind fun r0 => if r0.length < 1000 then
    ((List.range r0.length).foldlM (fun (t : List Int × List Bool) (k : Nat) => if k < t.1.length then (p.take 3).foldlM (lwStep k) t else some t) ([flag], (List.range r0.length).map fun one : Nat => decide ((one : Int) = flag))).map (·.1) else none
section
variable {wf : Nat} (hw : 2000 ≤ wf)
include hw
theorem lwalk_ok {n : Nat} {h : Hh} {p : List (List Int)} {flag : Int} {r : List Int} (e : lwalkM p flag = some r) : dnR (callN Lw.T wf (n + 1) 15 [pT p, .int flag] h) fun v h' => ∃ a, v = .ref a ∧ Own h h' [(a, .lst (r.map .int))] := by
  refine call_ir rfl rfl ?_
  unfold lwalkM at e
  obtain ⟨r0, e1, e⟩ := opt_bind e
  split at e
  case isFalse => cases e
  rename_i hl
  obtain ⟨⟨l2, s2⟩, e2, rfl⟩ := Option.map_eq_some_iff.mp e
  simp only [pT]
  (try simp only [forall_const, reduceCtorEq, false_implies, implies_true, Bool.false_eq_true, Dv.tup.injEq, dnR_noX, dnS_toS, dnSL_cons, dnSL_nil, dn_par, dn_par3, dn_asg, dn_setlc, dn_exp, dn_ret, dn_iff, dn_aug, dn_forr, dn_whl, dn_brk, dn_cnt, dn_retn, start, wipeS, glLen, most, tyIs, Option.map_some, Option.bind_some, Option.some.injEq, List.map_cons, List.map_nil, List.cons_append, List.nil_append, List.length_cons, List.length_nil, List.reduceReplicate, List.getElem?_cons_zero, List.getElem?_cons_succ, List.set_cons_zero, List.set_cons_succ, Nat.reduceAdd, Nat.reduceSub, Nat.reduceLeDiff, decide_true, decide_false, if_true, Bool.true_and, Bool.and_true, Dv.bl.injEq, Dv.int.injEq, exists_eq_left, exists_eq_left', true_and, and_true, Bool.and_self, Bool.not_true, Bool.not_false, eq_self, ↓reduceIte, List.isEmpty_cons, Nat.zero_add, and_self, true_implies, decide_eq_true_eq, decide_eq_false_iff_not, dnE_var, dnE_gint, dnE_int, dnE_str, dnE_bl, dnE_non, dnE_tup, dnE_lst, dnE_bin, dnE_cmp, dnE_chain, dnE_not, dnE_neg, dnE_and, dnE_or, dnA_one, dnA_cons, dnO_one, dnO_cons, dnE_ife, dnE_ix, dnE_sl, dnS_slT, dnE_call, dnE_bi, dnE_bm, dnE_isi, dnE_dnew, dnE_disp, dnE_lc, dnE_lcStp, dnF_nil, dnF_cons, dnL_nil, dnL_cons, dnV_none, dnV_some, dnI_seq, dnI_rng1, dnI_rng2, dnI_enum, dnG_name, dnG_tup, dnG_sub, dnGL_nil, dnGL_cons, dnB_len_t, dnB_set0, dnB_int, ixs_t, src_t, cop_lt, cop_le, cop_gt, cop_ge, cop_eq, cop_ne, bop_add, bop_sub, bop_mul, bop_mod, bop_fdiv, bop_addT, bop_mulT, Lw.ir__law_walk, at0_map, e1, iT, List.length_map])
  refine ⟨intOk_nat hl, ?_⟩
  rw [Int.toNat_natCast]
  have o := (Own.nil h).alloc (.lst [.int flag])
  generalize h ++ [Ob.lst [Dv.int flag]] = h1 at o ⊢
  generalize h.length = a at o ⊢
  refine lcL_sim (Q := _) (fun i : Nat => Dv.int (i : Int)) Dv.bl (List.range r0.length) (fun h1 => Own h h1 [(a, .lst [.int flag])]) (fun one : Nat => some (some (decide ((one : Int) = flag)))) (fun _ _ => rng_list _ _) ?_ (mapO_some _ _) o (by rw [List.length_range]; omega) (by unfold most; rw [List.length_range]; omega) ?_
  · rintro h1 y r _ o e
    cases e
    (try simp only [forall_const, reduceCtorEq, false_implies, implies_true, Bool.false_eq_true, Dv.tup.injEq, dnR_noX, dnS_toS, dnSL_cons, dnSL_nil, dn_par, dn_par3, dn_asg, dn_setlc, dn_exp, dn_ret, dn_iff, dn_aug, dn_forr, dn_whl, dn_brk, dn_cnt, dn_retn, start, wipeS, glLen, most, tyIs, Option.map_some, Option.bind_some, Option.some.injEq, List.map_cons, List.map_nil, List.cons_append, List.nil_append, List.length_cons, List.length_nil, List.reduceReplicate, List.getElem?_cons_zero, List.getElem?_cons_succ, List.set_cons_zero, List.set_cons_succ, Nat.reduceAdd, Nat.reduceSub, Nat.reduceLeDiff, decide_true, decide_false, if_true, Bool.true_and, Bool.and_true, Dv.bl.injEq, Dv.int.injEq, exists_eq_left, exists_eq_left', true_and, and_true, Bool.and_self, Bool.not_true, Bool.not_false, eq_self, ↓reduceIte, List.isEmpty_cons, Nat.zero_add, and_self, true_implies, decide_eq_true_eq, decide_eq_false_iff_not, dnE_var, dnE_gint, dnE_int, dnE_str, dnE_bl, dnE_non, dnE_tup, dnE_lst, dnE_bin, dnE_cmp, dnE_chain, dnE_not, dnE_neg, dnE_and, dnE_or, dnA_one, dnA_cons, dnO_one, dnO_cons, dnE_ife, dnE_ix, dnE_sl, dnS_slT, dnE_call, dnE_bi, dnE_bm, dnE_isi, dnE_dnew, dnE_disp, dnE_lc, dnE_lcStp, dnF_nil, dnF_cons, dnL_nil, dnL_cons, dnV_none, dnV_some, dnI_seq, dnI_rng1, dnI_rng2, dnI_enum, dnG_name, dnG_tup, dnG_sub, dnGL_nil, dnGL_cons, dnB_len_t, dnB_set0, dnB_int, ixs_t, src_t, cop_lt, cop_le, cop_gt, cop_ge, cop_eq, cop_ne, bop_add, bop_sub, bop_mul, bop_mod, bop_fdiv, bop_addT, bop_mulT])
    exact o
  intro h3 o
  have o := o.alloc (.lst (((List.range r0.length).map fun one : Nat => decide ((one : Int) = flag)).map .bl))
  generalize h3 ++ [Ob.lst (((List.range r0.length).map fun one : Nat => decide ((one : Int) = flag)).map .bl)] = h4 at o ⊢
  generalize h3.length = b at o ⊢
  refine ⟨intOk_nat hl, ?_⟩
  refine forL_sim (fun i : Nat => Dv.int (i : Int)) (List.range r0.length) (fun (s : List Int × List Bool) σ h1 => ∃ x y z w, σ = [some (pT p), some (.int flag), some (.ref a), some (.ref b), x, y, z, w] ∧ Own h h1 [(b, .lst (s.2.map .bl)), (a, .lst (s.1.map .int))]) _ ?_ ?_ e2 ⟨_, _, _, _, rfl, o⟩ (by rw [List.length_range]; omega) ?_
  · exact fun s σ h1 _ => rng_list _ _
  · rintro ⟨l, s⟩ t σ h1 k _ ⟨x, y, z, w, rfl, o⟩ e
    simp only at e
    simp only [pT]
    (try simp only [forall_const, reduceCtorEq, false_implies, implies_true, Bool.false_eq_true, Dv.tup.injEq, dnR_noX, dnS_toS, dnSL_cons, dnSL_nil, dn_par, dn_par3, dn_asg, dn_setlc, dn_exp, dn_ret, dn_iff, dn_aug, dn_forr, dn_whl, dn_brk, dn_cnt, dn_retn, start, wipeS, glLen, most, tyIs, Option.map_some, Option.bind_some, Option.some.injEq, List.map_cons, List.map_nil, List.cons_append, List.nil_append, List.length_cons, List.length_nil, List.reduceReplicate, List.getElem?_cons_zero, List.getElem?_cons_succ, List.set_cons_zero, List.set_cons_succ, Nat.reduceAdd, Nat.reduceSub, Nat.reduceLeDiff, decide_true, decide_false, if_true, Bool.true_and, Bool.and_true, Dv.bl.injEq, Dv.int.injEq, exists_eq_left, exists_eq_left', true_and, and_true, Bool.and_self, Bool.not_true, Bool.not_false, eq_self, ↓reduceIte, List.isEmpty_cons, Nat.zero_add, and_self, true_implies, decide_eq_true_eq, decide_eq_false_iff_not, dnE_var, dnE_gint, dnE_int, dnE_str, dnE_bl, dnE_non, dnE_tup, dnE_lst, dnE_bin, dnE_cmp, dnE_chain, dnE_not, dnE_neg, dnE_and, dnE_or, dnA_one, dnA_cons, dnO_one, dnO_cons, dnE_ife, dnE_ix, dnE_sl, dnS_slT, dnE_call, dnE_bi, dnE_bm, dnE_isi, dnE_dnew, dnE_disp, dnE_lc, dnE_lcStp, dnF_nil, dnF_cons, dnL_nil, dnL_cons, dnV_none, dnV_some, dnI_seq, dnI_rng1, dnI_rng2, dnI_enum, dnG_name, dnG_tup, dnG_sub, dnGL_nil, dnGL_cons, dnB_len_t, dnB_set0, dnB_int, ixs_t, src_t, cop_lt, cop_le, cop_gt, cop_ge, cop_eq, cop_ne, bop_add, bop_sub, bop_mul, bop_mod, bop_fdiv, bop_addT, bop_mulT, dnB_len_l (o.at_ 1 rfl), List.length_map, cut_take3])
    refine ⟨fun hk => ?_, fun hk => ?_⟩
    · rw [if_pos (by omega)] at e
      refine forL_sim iT (p.take 3) (fun (s : List Int × List Bool) σ h1 => ∃ x y, σ = [some (pT p), some (.int flag), some (.ref a), some (.ref b), some (.int k), x, y, w] ∧ Own h h1 [(b, .lst (s.2.map .bl)), (a, .lst (s.1.map .int))]) (lwStep k) ?_ ?_ e ⟨_, _, rfl, o⟩ (by rw [List.length_take]; omega) ?_
      · exact fun s σ h1 _ => rfl
      · rintro ⟨l, s⟩ t σ h1 c _ ⟨x, y, rfl, o⟩ e
        simp only [lwStep] at e
        obtain ⟨f, q1, e⟩ := opt_bind e
        obtain ⟨far, q2, e⟩ := opt_bind e
        obtain ⟨b', q3, e⟩ := opt_bind e
        (try simp only [forall_const, reduceCtorEq, false_implies, implies_true, Bool.false_eq_true, Dv.tup.injEq, dnR_noX, dnS_toS, dnSL_cons, dnSL_nil, dn_par, dn_par3, dn_asg, dn_setlc, dn_exp, dn_ret, dn_iff, dn_aug, dn_forr, dn_whl, dn_brk, dn_cnt, dn_retn, start, wipeS, glLen, most, tyIs, Option.map_some, Option.bind_some, Option.some.injEq, List.map_cons, List.map_nil, List.cons_append, List.nil_append, List.length_cons, List.length_nil, List.reduceReplicate, List.getElem?_cons_zero, List.getElem?_cons_succ, List.set_cons_zero, List.set_cons_succ, Nat.reduceAdd, Nat.reduceSub, Nat.reduceLeDiff, decide_true, decide_false, if_true, Bool.true_and, Bool.and_true, Dv.bl.injEq, Dv.int.injEq, exists_eq_left, exists_eq_left', true_and, and_true, Bool.and_self, Bool.not_true, Bool.not_false, eq_self, ↓reduceIte, List.isEmpty_cons, Nat.zero_add, and_self, true_implies, decide_eq_true_eq, decide_eq_false_iff_not, dnE_var, dnE_gint, dnE_int, dnE_str, dnE_bl, dnE_non, dnE_tup, dnE_lst, dnE_bin, dnE_cmp, dnE_chain, dnE_not, dnE_neg, dnE_and, dnE_or, dnA_one, dnA_cons, dnO_one, dnO_cons, dnE_ife, dnE_ix, dnE_sl, dnS_slT, dnE_call, dnE_bi, dnE_bm, dnE_isi, dnE_dnew, dnE_disp, dnE_lc, dnE_lcStp, dnF_nil, dnF_cons, dnL_nil, dnL_cons, dnV_none, dnV_some, dnI_seq, dnI_rng1, dnI_rng2, dnI_enum, dnG_name, dnG_tup, dnG_sub, dnGL_nil, dnGL_cons, dnB_len_t, dnB_set0, dnB_int, ixs_t, src_t, cop_lt, cop_le, cop_gt, cop_ge, cop_eq, cop_ne, bop_add, bop_sub, bop_mul, bop_mod, bop_fdiv, bop_addT, bop_mulT, ixs_l (o.at_ 1 rfl), ixs_l (o.at_ 0 rfl), iT, at0_map, q1, q2, q3])
        cases b' with
        | true =>
          rw [if_pos rfl] at e
          cases e
          exact ⟨fun z => by simp at z, fun _ => ⟨_, _, rfl, o⟩⟩
        | false =>
          rw [if_neg (by decide)] at e
          obtain ⟨f', q4, e⟩ := opt_bind e
          split at e
          case isFalse => cases e
          rename_i hl
          cases e
          refine ⟨fun _ => ?_, fun z => by simp at z⟩
          (try simp only [forall_const, reduceCtorEq, false_implies, implies_true, Bool.false_eq_true, Dv.tup.injEq, dnR_noX, dnS_toS, dnSL_cons, dnSL_nil, dn_par, dn_par3, dn_asg, dn_setlc, dn_exp, dn_ret, dn_iff, dn_aug, dn_forr, dn_whl, dn_brk, dn_cnt, dn_retn, start, wipeS, glLen, most, tyIs, Option.map_some, Option.bind_some, Option.some.injEq, List.map_cons, List.map_nil, List.cons_append, List.nil_append, List.length_cons, List.length_nil, List.reduceReplicate, List.getElem?_cons_zero, List.getElem?_cons_succ, List.set_cons_zero, List.set_cons_succ, Nat.reduceAdd, Nat.reduceSub, Nat.reduceLeDiff, decide_true, decide_false, if_true, Bool.true_and, Bool.and_true, Dv.bl.injEq, Dv.int.injEq, exists_eq_left, exists_eq_left', true_and, and_true, Bool.and_self, Bool.not_true, Bool.not_false, eq_self, ↓reduceIte, List.isEmpty_cons, Nat.zero_add, and_self, true_implies, decide_eq_true_eq, decide_eq_false_iff_not, dnE_var, dnE_gint, dnE_int, dnE_str, dnE_bl, dnE_non, dnE_tup, dnE_lst, dnE_bin, dnE_cmp, dnE_chain, dnE_not, dnE_neg, dnE_and, dnE_or, dnA_one, dnA_cons, dnO_one, dnO_cons, dnE_ife, dnE_ix, dnE_sl, dnS_slT, dnE_call, dnE_bi, dnE_bm, dnE_isi, dnE_dnew, dnE_disp, dnE_lc, dnE_lcStp, dnF_nil, dnF_cons, dnL_nil, dnL_cons, dnV_none, dnV_some, dnI_seq, dnI_rng1, dnI_rng2, dnI_enum, dnG_name, dnG_tup, dnG_sub, dnGL_nil, dnGL_cons, dnB_len_t, dnB_set0, dnB_int, ixs_t, src_t, cop_lt, cop_le, cop_gt, cop_ge, cop_eq, cop_ne, bop_add, bop_sub, bop_mul, bop_mod, bop_fdiv, bop_addT, bop_mulT, sets_l (o.at_ 0 rfl), sA_map, q4])
          have o' := o.set 0 rfl (.lst (f'.map .bl))
          generalize List.set h1 b (.lst (f'.map .bl)) = h2 at o' ⊢
          (try simp only [forall_const, reduceCtorEq, false_implies, implies_true, Bool.false_eq_true, Dv.tup.injEq, dnR_noX, dnS_toS, dnSL_cons, dnSL_nil, dn_par, dn_par3, dn_asg, dn_setlc, dn_exp, dn_ret, dn_iff, dn_aug, dn_forr, dn_whl, dn_brk, dn_cnt, dn_retn, start, wipeS, glLen, most, tyIs, Option.map_some, Option.bind_some, Option.some.injEq, List.map_cons, List.map_nil, List.cons_append, List.nil_append, List.length_cons, List.length_nil, List.reduceReplicate, List.getElem?_cons_zero, List.getElem?_cons_succ, List.set_cons_zero, List.set_cons_succ, Nat.reduceAdd, Nat.reduceSub, Nat.reduceLeDiff, decide_true, decide_false, if_true, Bool.true_and, Bool.and_true, Dv.bl.injEq, Dv.int.injEq, exists_eq_left, exists_eq_left', true_and, and_true, Bool.and_self, Bool.not_true, Bool.not_false, eq_self, ↓reduceIte, List.isEmpty_cons, Nat.zero_add, and_self, true_implies, decide_eq_true_eq, decide_eq_false_iff_not, dnE_var, dnE_gint, dnE_int, dnE_str, dnE_bl, dnE_non, dnE_tup, dnE_lst, dnE_bin, dnE_cmp, dnE_chain, dnE_not, dnE_neg, dnE_and, dnE_or, dnA_one, dnA_cons, dnO_one, dnO_cons, dnE_ife, dnE_ix, dnE_sl, dnS_slT, dnE_call, dnE_bi, dnE_bm, dnE_isi, dnE_dnew, dnE_disp, dnE_lc, dnE_lcStp, dnF_nil, dnF_cons, dnL_nil, dnL_cons, dnV_none, dnV_some, dnI_seq, dnI_rng1, dnI_rng2, dnI_enum, dnG_name, dnG_tup, dnG_sub, dnGL_nil, dnGL_cons, dnB_len_t, dnB_set0, dnB_int, ixs_t, src_t, cop_lt, cop_le, cop_gt, cop_ge, cop_eq, cop_ne, bop_add, bop_sub, bop_mul, bop_mod, bop_fdiv, bop_addT, bop_mulT, dnK_append (o'.at_ 1 rfl), dnM_append (o'.at_ 1 rfl), List.length_map, at0_map])
          refine ⟨by omega, _, _, rfl, ?_⟩
          have o'' := o'.set 1 rfl (.lst (l.map .int ++ [.int far]))
          rw [List.map_append]
          exact o''
      · rintro σ h1 ⟨x, y, rfl, o⟩
        exact ⟨_, _, _, _, rfl, o⟩
    · rw [if_neg (by omega)] at e
      cases e
      exact ⟨_, _, _, _, rfl, o⟩
  · rintro σ h1 ⟨x, y, z, w, rfl, o⟩
    (try simp only [forall_const, reduceCtorEq, false_implies, implies_true, Bool.false_eq_true, Dv.tup.injEq, dnR_noX, dnS_toS, dnSL_cons, dnSL_nil, dn_par, dn_par3, dn_asg, dn_setlc, dn_exp, dn_ret, dn_iff, dn_aug, dn_forr, dn_whl, dn_brk, dn_cnt, dn_retn, start, wipeS, glLen, most, tyIs, Option.map_some, Option.bind_some, Option.some.injEq, List.map_cons, List.map_nil, List.cons_append, List.nil_append, List.length_cons, List.length_nil, List.reduceReplicate, List.getElem?_cons_zero, List.getElem?_cons_succ, List.set_cons_zero, List.set_cons_succ, Nat.reduceAdd, Nat.reduceSub, Nat.reduceLeDiff, decide_true, decide_false, if_true, Bool.true_and, Bool.and_true, Dv.bl.injEq, Dv.int.injEq, exists_eq_left, exists_eq_left', true_and, and_true, Bool.and_self, Bool.not_true, Bool.not_false, eq_self, ↓reduceIte, List.isEmpty_cons, Nat.zero_add, and_self, true_implies, decide_eq_true_eq, decide_eq_false_iff_not, dnE_var, dnE_gint, dnE_int, dnE_str, dnE_bl, dnE_non, dnE_tup, dnE_lst, dnE_bin, dnE_cmp, dnE_chain, dnE_not, dnE_neg, dnE_and, dnE_or, dnA_one, dnA_cons, dnO_one, dnO_cons, dnE_ife, dnE_ix, dnE_sl, dnS_slT, dnE_call, dnE_bi, dnE_bm, dnE_isi, dnE_dnew, dnE_disp, dnE_lc, dnE_lcStp, dnF_nil, dnF_cons, dnL_nil, dnL_cons, dnV_none, dnV_some, dnI_seq, dnI_rng1, dnI_rng2, dnI_enum, dnG_name, dnG_tup, dnG_sub, dnGL_nil, dnGL_cons, dnB_len_t, dnB_set0, dnB_int, ixs_t, src_t, cop_lt, cop_le, cop_gt, cop_ge, cop_eq, cop_ne, bop_add, bop_sub, bop_mul, bop_mod, bop_fdiv, bop_addT, bop_mulT])
    exact ⟨a, rfl, o.drop _ (by simp)⟩
end
/-! listed -/
def llistM (p : List (List Int)) (ls : List Int) : Option (List (List Int)) :=
  if ls.length < 1000 then
    ((List.range ls.length).foldlM (fun (s : List Int) (k : Nat) => (gA ls (k : Int)).bind fun f => sA s f (k : Int)) (ls.map fun _ => 0)).bind fun num =>
    (mapO (fun c : List Int => (mapO (fun f : Int => (gA c f).bind fun y => (gA num y).map some) ls).map some) (p.take 3)).bind fun ch =>
    (gA p 3).bind fun p3 => (mapO (fun f : Int => (gA p3 f).map some) ls).bind fun pp =>
    (gA p 4).bind fun p4 => (mapO (fun f : Int => (gA p4 f).map some) ls).bind fun qq =>
    (gA ch 0).bind fun c0 => (gA ch 1).bind fun c1 => (gA ch 2).bind fun c2 => some [c0, c1, c2, pp, qq]
  else none
section
variable {wf : Nat} (hw : 2000 ≤ wf)
include hw
theorem listed_ok {n : Nat} {h : Hh} {p : List (List Int)} {ls : List Int} {z : Nat} (hz : h[z]? = some (.lst (ls.map .int))) {r : List (List Int)} (e : llistM p ls = some r) : dnR (callN Lw.T wf (n + 1) 16 [pT p, .ref z] h) fun v h' => v = pT r ∧ h <+: h' := by
  refine call_ir rfl rfl ?_
  unfold llistM at e
  split at e
  case isFalse => cases e
  rename_i hl
  obtain ⟨num, e2, e⟩ := opt_bind e
  obtain ⟨ch, e3, e⟩ := opt_bind e
  obtain ⟨p3, e4, e⟩ := opt_bind e
  obtain ⟨pp, e5, e⟩ := opt_bind e
  obtain ⟨p4, e6, e⟩ := opt_bind e
  obtain ⟨qq, e7, e⟩ := opt_bind e
  obtain ⟨c0, e8, e⟩ := opt_bind e
  obtain ⟨c1, e9, e⟩ := opt_bind e
  obtain ⟨c2, e10, e⟩ := opt_bind e
  cases e
  simp only [pT]
  (try simp only [forall_const, reduceCtorEq, false_implies, implies_true, Bool.false_eq_true, Dv.tup.injEq, dnR_noX, dnS_toS, dnSL_cons, dnSL_nil, dn_par, dn_par3, dn_asg, dn_setlc, dn_exp, dn_ret, dn_iff, dn_aug, dn_forr, dn_whl, dn_brk, dn_cnt, dn_retn, start, wipeS, glLen, most, tyIs, Option.map_some, Option.bind_some, Option.some.injEq, List.map_cons, List.map_nil, List.cons_append, List.nil_append, List.length_cons, List.length_nil, List.reduceReplicate, List.getElem?_cons_zero, List.getElem?_cons_succ, List.set_cons_zero, List.set_cons_succ, Nat.reduceAdd, Nat.reduceSub, Nat.reduceLeDiff, decide_true, decide_false, if_true, Bool.true_and, Bool.and_true, Dv.bl.injEq, Dv.int.injEq, exists_eq_left, exists_eq_left', true_and, and_true, Bool.and_self, Bool.not_true, Bool.not_false, eq_self, ↓reduceIte, List.isEmpty_cons, Nat.zero_add, and_self, true_implies, decide_eq_true_eq, decide_eq_false_iff_not, dnE_var, dnE_gint, dnE_int, dnE_str, dnE_bl, dnE_non, dnE_tup, dnE_lst, dnE_bin, dnE_cmp, dnE_chain, dnE_not, dnE_neg, dnE_and, dnE_or, dnA_one, dnA_cons, dnO_one, dnO_cons, dnE_ife, dnE_ix, dnE_sl, dnS_slT, dnE_call, dnE_bi, dnE_bm, dnE_isi, dnE_dnew, dnE_disp, dnE_lc, dnE_lcStp, dnF_nil, dnF_cons, dnL_nil, dnL_cons, dnV_none, dnV_some, dnI_seq, dnI_rng1, dnI_rng2, dnI_enum, dnG_name, dnG_tup, dnG_sub, dnGL_nil, dnGL_cons, dnB_len_t, dnB_set0, dnB_int, ixs_t, src_t, cop_lt, cop_le, cop_gt, cop_ge, cop_eq, cop_ne, bop_add, bop_sub, bop_mul, bop_mod, bop_fdiv, bop_addT, bop_mulT, Lw.ir__law_listed, src_l hz])
  refine lcL_sim (Q := _) Dv.int Dv.int ls (fun h1 => h = h1) (fun _ : Int => some (some (0 : Int))) (fun h1 e => by subst e; exact seq_l hz) ?_ (mapO_some _ _) rfl (by omega) (by unfold most; omega) ?_
  · rintro h1 y o _ rfl e
    cases e
    (try simp only [forall_const, reduceCtorEq, false_implies, implies_true, Bool.false_eq_true, Dv.tup.injEq, dnR_noX, dnS_toS, dnSL_cons, dnSL_nil, dn_par, dn_par3, dn_asg, dn_setlc, dn_exp, dn_ret, dn_iff, dn_aug, dn_forr, dn_whl, dn_brk, dn_cnt, dn_retn, start, wipeS, glLen, most, tyIs, Option.map_some, Option.bind_some, Option.some.injEq, List.map_cons, List.map_nil, List.cons_append, List.nil_append, List.length_cons, List.length_nil, List.reduceReplicate, List.getElem?_cons_zero, List.getElem?_cons_succ, List.set_cons_zero, List.set_cons_succ, Nat.reduceAdd, Nat.reduceSub, Nat.reduceLeDiff, decide_true, decide_false, if_true, Bool.true_and, Bool.and_true, Dv.bl.injEq, Dv.int.injEq, exists_eq_left, exists_eq_left', true_and, and_true, Bool.and_self, Bool.not_true, Bool.not_false, eq_self, ↓reduceIte, List.isEmpty_cons, Nat.zero_add, and_self, true_implies, decide_eq_true_eq, decide_eq_false_iff_not, dnE_var, dnE_gint, dnE_int, dnE_str, dnE_bl, dnE_non, dnE_tup, dnE_lst, dnE_bin, dnE_cmp, dnE_chain, dnE_not, dnE_neg, dnE_and, dnE_or, dnA_one, dnA_cons, dnO_one, dnO_cons, dnE_ife, dnE_ix, dnE_sl, dnS_slT, dnE_call, dnE_bi, dnE_bm, dnE_isi, dnE_dnew, dnE_disp, dnE_lc, dnE_lcStp, dnF_nil, dnF_cons, dnL_nil, dnL_cons, dnV_none, dnV_some, dnI_seq, dnI_rng1, dnI_rng2, dnI_enum, dnG_name, dnG_tup, dnG_sub, dnGL_nil, dnGL_cons, dnB_len_t, dnB_set0, dnB_int, ixs_t, src_t, cop_lt, cop_le, cop_gt, cop_ge, cop_eq, cop_ne, bop_add, bop_sub, bop_mul, bop_mod, bop_fdiv, bop_addT, bop_mulT])
  rintro _ rfl
  have o := (Own.nil h).alloc (.lst ((ls.map fun _ => (0 : Int)).map .int))
  generalize h ++ [Ob.lst ((ls.map fun _ => (0 : Int)).map .int)] = h1 at o ⊢
  generalize h.length = a at o ⊢
  (try simp only [forall_const, reduceCtorEq, false_implies, implies_true, Bool.false_eq_true, Dv.tup.injEq, dnR_noX, dnS_toS, dnSL_cons, dnSL_nil, dn_par, dn_par3, dn_asg, dn_setlc, dn_exp, dn_ret, dn_iff, dn_aug, dn_forr, dn_whl, dn_brk, dn_cnt, dn_retn, start, wipeS, glLen, most, tyIs, Option.map_some, Option.bind_some, Option.some.injEq, List.map_cons, List.map_nil, List.cons_append, List.nil_append, List.length_cons, List.length_nil, List.reduceReplicate, List.getElem?_cons_zero, List.getElem?_cons_succ, List.set_cons_zero, List.set_cons_succ, Nat.reduceAdd, Nat.reduceSub, Nat.reduceLeDiff, decide_true, decide_false, if_true, Bool.true_and, Bool.and_true, Dv.bl.injEq, Dv.int.injEq, exists_eq_left, exists_eq_left', true_and, and_true, Bool.and_self, Bool.not_true, Bool.not_false, eq_self, ↓reduceIte, List.isEmpty_cons, Nat.zero_add, and_self, true_implies, decide_eq_true_eq, decide_eq_false_iff_not, dnE_var, dnE_gint, dnE_int, dnE_str, dnE_bl, dnE_non, dnE_tup, dnE_lst, dnE_bin, dnE_cmp, dnE_chain, dnE_not, dnE_neg, dnE_and, dnE_or, dnA_one, dnA_cons, dnO_one, dnO_cons, dnE_ife, dnE_ix, dnE_sl, dnS_slT, dnE_call, dnE_bi, dnE_bm, dnE_isi, dnE_dnew, dnE_disp, dnE_lc, dnE_lcStp, dnF_nil, dnF_cons, dnL_nil, dnL_cons, dnV_none, dnV_some, dnI_seq, dnI_rng1, dnI_rng2, dnI_enum, dnG_name, dnG_tup, dnG_sub, dnGL_nil, dnGL_cons, dnB_len_t, dnB_set0, dnB_int, ixs_t, src_t, cop_lt, cop_le, cop_gt, cop_ge, cop_eq, cop_ne, bop_add, bop_sub, bop_mul, bop_mod, bop_fdiv, bop_addT, bop_mulT, dnB_len_l (o.base hz), List.length_map])
  refine ⟨intOk_nat hl, ?_⟩
  rw [Int.toNat_natCast]
  refine forL_sim (fun i : Nat => Dv.int (i : Int)) (List.range ls.length) (fun (s : List Int) σ h1 => ∃ x, σ = [some (.tup (p.map iT)), some (.ref z), some (.ref a), x, none, none, none, none, none] ∧ Own h h1 [(a, .lst (s.map .int))]) _ ?_ ?_ e2 ⟨_, rfl, o⟩ (by rw [List.length_range]; omega) ?_
  · exact fun s σ h1 _ => rng_list _ _
  · rintro s t σ h1 k _ ⟨u, rfl, o⟩ e
    obtain ⟨f, q1, e⟩ := opt_bind e
    (try simp only [forall_const, reduceCtorEq, false_implies, implies_true, Bool.false_eq_true, Dv.tup.injEq, dnR_noX, dnS_toS, dnSL_cons, dnSL_nil, dn_par, dn_par3, dn_asg, dn_setlc, dn_exp, dn_ret, dn_iff, dn_aug, dn_forr, dn_whl, dn_brk, dn_cnt, dn_retn, start, wipeS, glLen, most, tyIs, Option.map_some, Option.bind_some, Option.some.injEq, List.map_cons, List.map_nil, List.cons_append, List.nil_append, List.length_cons, List.length_nil, List.reduceReplicate, List.getElem?_cons_zero, List.getElem?_cons_succ, List.set_cons_zero, List.set_cons_succ, Nat.reduceAdd, Nat.reduceSub, Nat.reduceLeDiff, decide_true, decide_false, if_true, Bool.true_and, Bool.and_true, Dv.bl.injEq, Dv.int.injEq, exists_eq_left, exists_eq_left', true_and, and_true, Bool.and_self, Bool.not_true, Bool.not_false, eq_self, ↓reduceIte, List.isEmpty_cons, Nat.zero_add, and_self, true_implies, decide_eq_true_eq, decide_eq_false_iff_not, dnE_var, dnE_gint, dnE_int, dnE_str, dnE_bl, dnE_non, dnE_tup, dnE_lst, dnE_bin, dnE_cmp, dnE_chain, dnE_not, dnE_neg, dnE_and, dnE_or, dnA_one, dnA_cons, dnO_one, dnO_cons, dnE_ife, dnE_ix, dnE_sl, dnS_slT, dnE_call, dnE_bi, dnE_bm, dnE_isi, dnE_dnew, dnE_disp, dnE_lc, dnE_lcStp, dnF_nil, dnF_cons, dnL_nil, dnL_cons, dnV_none, dnV_some, dnI_seq, dnI_rng1, dnI_rng2, dnI_enum, dnG_name, dnG_tup, dnG_sub, dnGL_nil, dnGL_cons, dnB_len_t, dnB_set0, dnB_int, ixs_t, src_t, cop_lt, cop_le, cop_gt, cop_ge, cop_eq, cop_ne, bop_add, bop_sub, bop_mul, bop_mod, bop_fdiv, bop_addT, bop_mulT, ixs_l (o.base hz), at0_map, q1, sets_l (o.at_ 0 rfl), sA_map, e])
    exact ⟨_, rfl, o.set 0 rfl _⟩
  rintro σ h1 ⟨x, rfl, o⟩
  (try simp only [forall_const, reduceCtorEq, false_implies, implies_true, Bool.false_eq_true, Dv.tup.injEq, dnR_noX, dnS_toS, dnSL_cons, dnSL_nil, dn_par, dn_par3, dn_asg, dn_setlc, dn_exp, dn_ret, dn_iff, dn_aug, dn_forr, dn_whl, dn_brk, dn_cnt, dn_retn, start, wipeS, glLen, most, tyIs, Option.map_some, Option.bind_some, Option.some.injEq, List.map_cons, List.map_nil, List.cons_append, List.nil_append, List.length_cons, List.length_nil, List.reduceReplicate, List.getElem?_cons_zero, List.getElem?_cons_succ, List.set_cons_zero, List.set_cons_succ, Nat.reduceAdd, Nat.reduceSub, Nat.reduceLeDiff, decide_true, decide_false, if_true, Bool.true_and, Bool.and_true, Dv.bl.injEq, Dv.int.injEq, exists_eq_left, exists_eq_left', true_and, and_true, Bool.and_self, Bool.not_true, Bool.not_false, eq_self, ↓reduceIte, List.isEmpty_cons, Nat.zero_add, and_self, true_implies, decide_eq_true_eq, decide_eq_false_iff_not, dnE_var, dnE_gint, dnE_int, dnE_str, dnE_bl, dnE_non, dnE_tup, dnE_lst, dnE_bin, dnE_cmp, dnE_chain, dnE_not, dnE_neg, dnE_and, dnE_or, dnA_one, dnA_cons, dnO_one, dnO_cons, dnE_ife, dnE_ix, dnE_sl, dnS_slT, dnE_call, dnE_bi, dnE_bm, dnE_isi, dnE_dnew, dnE_disp, dnE_lc, dnE_lcStp, dnF_nil, dnF_cons, dnL_nil, dnL_cons, dnV_none, dnV_some, dnI_seq, dnI_rng1, dnI_rng2, dnI_enum, dnG_name, dnG_tup, dnG_sub, dnGL_nil, dnGL_cons, dnB_len_t, dnB_set0, dnB_int, ixs_t, src_t, cop_lt, cop_le, cop_gt, cop_ge, cop_eq, cop_ne, bop_add, bop_sub, bop_mul, bop_mod, bop_fdiv, bop_addT, bop_mulT, cut_take3])
  refine lcL_sim (Q := _) iT iT (p.take 3) (fun h1 => Own h h1 [(a, .lst (num.map .int))]) _ (fun _ _ => rfl) ?_ e3 o (by rw [List.length_take]; omega) (by unfold most; rw [List.length_take]; omega) ?_
  · rintro h1 c r _ o e
    obtain ⟨r, e', rfl⟩ := Option.map_eq_some_iff.mp e
    (try simp only [forall_const, reduceCtorEq, false_implies, implies_true, Bool.false_eq_true, Dv.tup.injEq, dnR_noX, dnS_toS, dnSL_cons, dnSL_nil, dn_par, dn_par3, dn_asg, dn_setlc, dn_exp, dn_ret, dn_iff, dn_aug, dn_forr, dn_whl, dn_brk, dn_cnt, dn_retn, start, wipeS, glLen, most, tyIs, Option.map_some, Option.bind_some, Option.some.injEq, List.map_cons, List.map_nil, List.cons_append, List.nil_append, List.length_cons, List.length_nil, List.reduceReplicate, List.getElem?_cons_zero, List.getElem?_cons_succ, List.set_cons_zero, List.set_cons_succ, Nat.reduceAdd, Nat.reduceSub, Nat.reduceLeDiff, decide_true, decide_false, if_true, Bool.true_and, Bool.and_true, Dv.bl.injEq, Dv.int.injEq, exists_eq_left, exists_eq_left', true_and, and_true, Bool.and_self, Bool.not_true, Bool.not_false, eq_self, ↓reduceIte, List.isEmpty_cons, Nat.zero_add, and_self, true_implies, decide_eq_true_eq, decide_eq_false_iff_not, dnE_var, dnE_gint, dnE_int, dnE_str, dnE_bl, dnE_non, dnE_tup, dnE_lst, dnE_bin, dnE_cmp, dnE_chain, dnE_not, dnE_neg, dnE_and, dnE_or, dnA_one, dnA_cons, dnO_one, dnO_cons, dnE_ife, dnE_ix, dnE_sl, dnS_slT, dnE_call, dnE_bi, dnE_bm, dnE_isi, dnE_dnew, dnE_disp, dnE_lc, dnE_lcStp, dnF_nil, dnF_cons, dnL_nil, dnL_cons, dnV_none, dnV_some, dnI_seq, dnI_rng1, dnI_rng2, dnI_enum, dnG_name, dnG_tup, dnG_sub, dnGL_nil, dnGL_cons, dnB_len_t, dnB_set0, dnB_int, ixs_t, src_t, cop_lt, cop_le, cop_gt, cop_ge, cop_eq, cop_ne, bop_add, bop_sub, bop_mul, bop_mod, bop_fdiv, bop_addT, bop_mulT, iT, src_l (o.base hz)])
    refine lcL_sim (Q := _) Dv.int Dv.int ls (fun h1 => Own h h1 [(a, .lst (num.map .int))]) _ (fun h1 o => seq_l (o.base hz)) ?_ e' o (by omega) (by unfold most; omega) ?_
    · rintro h1 y r _ o e
      obtain ⟨z, q1, e⟩ := opt_bind e
      obtain ⟨w, q2, rfl⟩ := Option.map_eq_some_iff.mp e
      (try simp only [forall_const, reduceCtorEq, false_implies, implies_true, Bool.false_eq_true, Dv.tup.injEq, dnR_noX, dnS_toS, dnSL_cons, dnSL_nil, dn_par, dn_par3, dn_asg, dn_setlc, dn_exp, dn_ret, dn_iff, dn_aug, dn_forr, dn_whl, dn_brk, dn_cnt, dn_retn, start, wipeS, glLen, most, tyIs, Option.map_some, Option.bind_some, Option.some.injEq, List.map_cons, List.map_nil, List.cons_append, List.nil_append, List.length_cons, List.length_nil, List.reduceReplicate, List.getElem?_cons_zero, List.getElem?_cons_succ, List.set_cons_zero, List.set_cons_succ, Nat.reduceAdd, Nat.reduceSub, Nat.reduceLeDiff, decide_true, decide_false, if_true, Bool.true_and, Bool.and_true, Dv.bl.injEq, Dv.int.injEq, exists_eq_left, exists_eq_left', true_and, and_true, Bool.and_self, Bool.not_true, Bool.not_false, eq_self, ↓reduceIte, List.isEmpty_cons, Nat.zero_add, and_self, true_implies, decide_eq_true_eq, decide_eq_false_iff_not, dnE_var, dnE_gint, dnE_int, dnE_str, dnE_bl, dnE_non, dnE_tup, dnE_lst, dnE_bin, dnE_cmp, dnE_chain, dnE_not, dnE_neg, dnE_and, dnE_or, dnA_one, dnA_cons, dnO_one, dnO_cons, dnE_ife, dnE_ix, dnE_sl, dnS_slT, dnE_call, dnE_bi, dnE_bm, dnE_isi, dnE_dnew, dnE_disp, dnE_lc, dnE_lcStp, dnF_nil, dnF_cons, dnL_nil, dnL_cons, dnV_none, dnV_some, dnI_seq, dnI_rng1, dnI_rng2, dnI_enum, dnG_name, dnG_tup, dnG_sub, dnGL_nil, dnGL_cons, dnB_len_t, dnB_set0, dnB_int, ixs_t, src_t, cop_lt, cop_le, cop_gt, cop_ge, cop_eq, cop_ne, bop_add, bop_sub, bop_mul, bop_mod, bop_fdiv, bop_addT, bop_mulT, iT, at0_map, q1, q2, ixs_l (o.at_ 0 rfl)])
      exact o
    intro h1 o
    (try simp only [forall_const, reduceCtorEq, false_implies, implies_true, Bool.false_eq_true, Dv.tup.injEq, dnR_noX, dnS_toS, dnSL_cons, dnSL_nil, dn_par, dn_par3, dn_asg, dn_setlc, dn_exp, dn_ret, dn_iff, dn_aug, dn_forr, dn_whl, dn_brk, dn_cnt, dn_retn, start, wipeS, glLen, most, tyIs, Option.map_some, Option.bind_some, Option.some.injEq, List.map_cons, List.map_nil, List.cons_append, List.nil_append, List.length_cons, List.length_nil, List.reduceReplicate, List.getElem?_cons_zero, List.getElem?_cons_succ, List.set_cons_zero, List.set_cons_succ, Nat.reduceAdd, Nat.reduceSub, Nat.reduceLeDiff, decide_true, decide_false, if_true, Bool.true_and, Bool.and_true, Dv.bl.injEq, Dv.int.injEq, exists_eq_left, exists_eq_left', true_and, and_true, Bool.and_self, Bool.not_true, Bool.not_false, eq_self, ↓reduceIte, List.isEmpty_cons, Nat.zero_add, and_self, true_implies, decide_eq_true_eq, decide_eq_false_iff_not, dnE_var, dnE_gint, dnE_int, dnE_str, dnE_bl, dnE_non, dnE_tup, dnE_lst, dnE_bin, dnE_cmp, dnE_chain, dnE_not, dnE_neg, dnE_and, dnE_or, dnA_one, dnA_cons, dnO_one, dnO_cons, dnE_ife, dnE_ix, dnE_sl, dnS_slT, dnE_call, dnE_bi, dnE_bm, dnE_isi, dnE_dnew, dnE_disp, dnE_lc, dnE_lcStp, dnF_nil, dnF_cons, dnL_nil, dnL_cons, dnV_none, dnV_some, dnI_seq, dnI_rng1, dnI_rng2, dnI_enum, dnG_name, dnG_tup, dnG_sub, dnGL_nil, dnGL_cons, dnB_len_t, dnB_set0, dnB_int, ixs_t, src_t, cop_lt, cop_le, cop_gt, cop_ge, cop_eq, cop_ne, bop_add, bop_sub, bop_mul, bop_mod, bop_fdiv, bop_addT, bop_mulT, dnB_tuple_fr])
    exact o.garb _
  intro h1 o
  have o := o.alloc (.lst (ch.map iT))
  generalize h1 ++ [Ob.lst (List.map iT ch)] = h2 at o ⊢
  generalize h1.length = b at o ⊢
  (try simp only [forall_const, reduceCtorEq, false_implies, implies_true, Bool.false_eq_true, Dv.tup.injEq, dnR_noX, dnS_toS, dnSL_cons, dnSL_nil, dn_par, dn_par3, dn_asg, dn_setlc, dn_exp, dn_ret, dn_iff, dn_aug, dn_forr, dn_whl, dn_brk, dn_cnt, dn_retn, start, wipeS, glLen, most, tyIs, Option.map_some, Option.bind_some, Option.some.injEq, List.map_cons, List.map_nil, List.cons_append, List.nil_append, List.length_cons, List.length_nil, List.reduceReplicate, List.getElem?_cons_zero, List.getElem?_cons_succ, List.set_cons_zero, List.set_cons_succ, Nat.reduceAdd, Nat.reduceSub, Nat.reduceLeDiff, decide_true, decide_false, if_true, Bool.true_and, Bool.and_true, Dv.bl.injEq, Dv.int.injEq, exists_eq_left, exists_eq_left', true_and, and_true, Bool.and_self, Bool.not_true, Bool.not_false, eq_self, ↓reduceIte, List.isEmpty_cons, Nat.zero_add, and_self, true_implies, decide_eq_true_eq, decide_eq_false_iff_not, dnE_var, dnE_gint, dnE_int, dnE_str, dnE_bl, dnE_non, dnE_tup, dnE_lst, dnE_bin, dnE_cmp, dnE_chain, dnE_not, dnE_neg, dnE_and, dnE_or, dnA_one, dnA_cons, dnO_one, dnO_cons, dnE_ife, dnE_ix, dnE_sl, dnS_slT, dnE_call, dnE_bi, dnE_bm, dnE_isi, dnE_dnew, dnE_disp, dnE_lc, dnE_lcStp, dnF_nil, dnF_cons, dnL_nil, dnL_cons, dnV_none, dnV_some, dnI_seq, dnI_rng1, dnI_rng2, dnI_enum, dnG_name, dnG_tup, dnG_sub, dnGL_nil, dnGL_cons, dnB_len_t, dnB_set0, dnB_int, ixs_t, src_t, cop_lt, cop_le, cop_gt, cop_ge, cop_eq, cop_ne, bop_add, bop_sub, bop_mul, bop_mod, bop_fdiv, bop_addT, bop_mulT, src_l (o.base hz)])
  refine lcL_sim (Q := _) Dv.int Dv.int ls (fun h1 => Own h h1 [(b, .lst (ch.map iT)), (a, .lst (num.map .int))]) _ (fun h1 o => seq_l (o.base hz)) ?_ e5 o (by omega) (by unfold most; omega) ?_
  · rintro h1 y r _ o e
    obtain ⟨w, q2, rfl⟩ := Option.map_eq_some_iff.mp e
    (try simp only [forall_const, reduceCtorEq, false_implies, implies_true, Bool.false_eq_true, Dv.tup.injEq, dnR_noX, dnS_toS, dnSL_cons, dnSL_nil, dn_par, dn_par3, dn_asg, dn_setlc, dn_exp, dn_ret, dn_iff, dn_aug, dn_forr, dn_whl, dn_brk, dn_cnt, dn_retn, start, wipeS, glLen, most, tyIs, Option.map_some, Option.bind_some, Option.some.injEq, List.map_cons, List.map_nil, List.cons_append, List.nil_append, List.length_cons, List.length_nil, List.reduceReplicate, List.getElem?_cons_zero, List.getElem?_cons_succ, List.set_cons_zero, List.set_cons_succ, Nat.reduceAdd, Nat.reduceSub, Nat.reduceLeDiff, decide_true, decide_false, if_true, Bool.true_and, Bool.and_true, Dv.bl.injEq, Dv.int.injEq, exists_eq_left, exists_eq_left', true_and, and_true, Bool.and_self, Bool.not_true, Bool.not_false, eq_self, ↓reduceIte, List.isEmpty_cons, Nat.zero_add, and_self, true_implies, decide_eq_true_eq, decide_eq_false_iff_not, dnE_var, dnE_gint, dnE_int, dnE_str, dnE_bl, dnE_non, dnE_tup, dnE_lst, dnE_bin, dnE_cmp, dnE_chain, dnE_not, dnE_neg, dnE_and, dnE_or, dnA_one, dnA_cons, dnO_one, dnO_cons, dnE_ife, dnE_ix, dnE_sl, dnS_slT, dnE_call, dnE_bi, dnE_bm, dnE_isi, dnE_dnew, dnE_disp, dnE_lc, dnE_lcStp, dnF_nil, dnF_cons, dnL_nil, dnL_cons, dnV_none, dnV_some, dnI_seq, dnI_rng1, dnI_rng2, dnI_enum, dnG_name, dnG_tup, dnG_sub, dnGL_nil, dnGL_cons, dnB_len_t, dnB_set0, dnB_int, ixs_t, src_t, cop_lt, cop_le, cop_gt, cop_ge, cop_eq, cop_ne, bop_add, bop_sub, bop_mul, bop_mod, bop_fdiv, bop_addT, bop_mulT, iT, at0_map, e4, q2])
    exact o
  intro h3 o
  have o := o.garb [.lst (pp.map .int)]
  (try simp only [forall_const, reduceCtorEq, false_implies, implies_true, Bool.false_eq_true, Dv.tup.injEq, dnR_noX, dnS_toS, dnSL_cons, dnSL_nil, dn_par, dn_par3, dn_asg, dn_setlc, dn_exp, dn_ret, dn_iff, dn_aug, dn_forr, dn_whl, dn_brk, dn_cnt, dn_retn, start, wipeS, glLen, most, tyIs, Option.map_some, Option.bind_some, Option.some.injEq, List.map_cons, List.map_nil, List.cons_append, List.nil_append, List.length_cons, List.length_nil, List.reduceReplicate, List.getElem?_cons_zero, List.getElem?_cons_succ, List.set_cons_zero, List.set_cons_succ, Nat.reduceAdd, Nat.reduceSub, Nat.reduceLeDiff, decide_true, decide_false, if_true, Bool.true_and, Bool.and_true, Dv.bl.injEq, Dv.int.injEq, exists_eq_left, exists_eq_left', true_and, and_true, Bool.and_self, Bool.not_true, Bool.not_false, eq_self, ↓reduceIte, List.isEmpty_cons, Nat.zero_add, and_self, true_implies, decide_eq_true_eq, decide_eq_false_iff_not, dnE_var, dnE_gint, dnE_int, dnE_str, dnE_bl, dnE_non, dnE_tup, dnE_lst, dnE_bin, dnE_cmp, dnE_chain, dnE_not, dnE_neg, dnE_and, dnE_or, dnA_one, dnA_cons, dnO_one, dnO_cons, dnE_ife, dnE_ix, dnE_sl, dnS_slT, dnE_call, dnE_bi, dnE_bm, dnE_isi, dnE_dnew, dnE_disp, dnE_lc, dnE_lcStp, dnF_nil, dnF_cons, dnL_nil, dnL_cons, dnV_none, dnV_some, dnI_seq, dnI_rng1, dnI_rng2, dnI_enum, dnG_name, dnG_tup, dnG_sub, dnGL_nil, dnGL_cons, dnB_len_t, dnB_set0, dnB_int, ixs_t, src_t, cop_lt, cop_le, cop_gt, cop_ge, cop_eq, cop_ne, bop_add, bop_sub, bop_mul, bop_mod, bop_fdiv, bop_addT, bop_mulT, dnB_tuple_fr, src_l (o.base hz)])
  refine lcL_sim (Q := _) Dv.int Dv.int ls (fun h1 => Own h h1 [(b, .lst (ch.map iT)), (a, .lst (num.map .int))]) _ (fun h1 o => seq_l (o.base hz)) ?_ e7 o (by omega) (by unfold most; omega) ?_
  · rintro h1 y r _ o e
    obtain ⟨w, q2, rfl⟩ := Option.map_eq_some_iff.mp e
    (try simp only [forall_const, reduceCtorEq, false_implies, implies_true, Bool.false_eq_true, Dv.tup.injEq, dnR_noX, dnS_toS, dnSL_cons, dnSL_nil, dn_par, dn_par3, dn_asg, dn_setlc, dn_exp, dn_ret, dn_iff, dn_aug, dn_forr, dn_whl, dn_brk, dn_cnt, dn_retn, start, wipeS, glLen, most, tyIs, Option.map_some, Option.bind_some, Option.some.injEq, List.map_cons, List.map_nil, List.cons_append, List.nil_append, List.length_cons, List.length_nil, List.reduceReplicate, List.getElem?_cons_zero, List.getElem?_cons_succ, List.set_cons_zero, List.set_cons_succ, Nat.reduceAdd, Nat.reduceSub, Nat.reduceLeDiff, decide_true, decide_false, if_true, Bool.true_and, Bool.and_true, Dv.bl.injEq, Dv.int.injEq, exists_eq_left, exists_eq_left', true_and, and_true, Bool.and_self, Bool.not_true, Bool.not_false, eq_self, ↓reduceIte, List.isEmpty_cons, Nat.zero_add, and_self, true_implies, decide_eq_true_eq, decide_eq_false_iff_not, dnE_var, dnE_gint, dnE_int, dnE_str, dnE_bl, dnE_non, dnE_tup, dnE_lst, dnE_bin, dnE_cmp, dnE_chain, dnE_not, dnE_neg, dnE_and, dnE_or, dnA_one, dnA_cons, dnO_one, dnO_cons, dnE_ife, dnE_ix, dnE_sl, dnS_slT, dnE_call, dnE_bi, dnE_bm, dnE_isi, dnE_dnew, dnE_disp, dnE_lc, dnE_lcStp, dnF_nil, dnF_cons, dnL_nil, dnL_cons, dnV_none, dnV_some, dnI_seq, dnI_rng1, dnI_rng2, dnI_enum, dnG_name, dnG_tup, dnG_sub, dnGL_nil, dnGL_cons, dnB_len_t, dnB_set0, dnB_int, ixs_t, src_t, cop_lt, cop_le, cop_gt, cop_ge, cop_eq, cop_ne, bop_add, bop_sub, bop_mul, bop_mod, bop_fdiv, bop_addT, bop_mulT, iT, at0_map, e6, q2])
    exact o
  intro h4 o
  have o' := o.garb [.lst (qq.map .int)]
  (try simp only [forall_const, reduceCtorEq, false_implies, implies_true, Bool.false_eq_true, Dv.tup.injEq, dnR_noX, dnS_toS, dnSL_cons, dnSL_nil, dn_par, dn_par3, dn_asg, dn_setlc, dn_exp, dn_ret, dn_iff, dn_aug, dn_forr, dn_whl, dn_brk, dn_cnt, dn_retn, start, wipeS, glLen, most, tyIs, Option.map_some, Option.bind_some, Option.some.injEq, List.map_cons, List.map_nil, List.cons_append, List.nil_append, List.length_cons, List.length_nil, List.reduceReplicate, List.getElem?_cons_zero, List.getElem?_cons_succ, List.set_cons_zero, List.set_cons_succ, Nat.reduceAdd, Nat.reduceSub, Nat.reduceLeDiff, decide_true, decide_false, if_true, Bool.true_and, Bool.and_true, Dv.bl.injEq, Dv.int.injEq, exists_eq_left, exists_eq_left', true_and, and_true, Bool.and_self, Bool.not_true, Bool.not_false, eq_self, ↓reduceIte, List.isEmpty_cons, Nat.zero_add, and_self, true_implies, decide_eq_true_eq, decide_eq_false_iff_not, dnE_var, dnE_gint, dnE_int, dnE_str, dnE_bl, dnE_non, dnE_tup, dnE_lst, dnE_bin, dnE_cmp, dnE_chain, dnE_not, dnE_neg, dnE_and, dnE_or, dnA_one, dnA_cons, dnO_one, dnO_cons, dnE_ife, dnE_ix, dnE_sl, dnS_slT, dnE_call, dnE_bi, dnE_bm, dnE_isi, dnE_dnew, dnE_disp, dnE_lc, dnE_lcStp, dnF_nil, dnF_cons, dnL_nil, dnL_cons, dnV_none, dnV_some, dnI_seq, dnI_rng1, dnI_rng2, dnI_enum, dnG_name, dnG_tup, dnG_sub, dnGL_nil, dnGL_cons, dnB_len_t, dnB_set0, dnB_int, ixs_t, src_t, cop_lt, cop_le, cop_gt, cop_ge, cop_eq, cop_ne, bop_add, bop_sub, bop_mul, bop_mod, bop_fdiv, bop_addT, bop_mulT, dnB_tuple_fr, ixs_l (o'.at_ 0 rfl), at0_map, e8, e9, e10])
  exact ⟨rfl, o'.pre⟩
end
/-! least -/
def minP (b : List (List Int)) (r : List (List (List Int))) : List (List Int) := r.foldl (fun b x => if ltP x b = true then x else b) b
theorem minS_pT (h : Hh) (b : List (List Int)) (r : List (List (List Int))) : minS h (pT b) (r.map pT) = some (pT (minP b r)) := by
  induction r generalizing b with
  | nil => rfl
  | cons x r ih =>
    simp only [List.map_cons, minS, dlt_pT, minP, List.foldl_cons]
    cases hx : ltP x b with
    | true => exact ih x
    | false => exact ih b
def lleastM (p : List (List Int)) : Option (List (List Int)) :=
  (gA p 0).bind fun r0 => if r0.length < 1000 then (mapO (fun flag : Nat => (lwalkM p (flag : Int)).bind fun w => (llistM p w).map some) (List.range r0.length)).bind fun ls => match ls with
    | [] => none
    | b :: r => some (minP b r)
  else none
theorem dnB_min_fr {h : Hh} {b : List (List Int)} {r : List (List (List Int))} {Q : Dv → Hh → Prop} : dnR (bis .min [.ref h.length] (h ++ [.lst (pT b :: r.map pT)])) Q = Q (pT (minP b r)) (h ++ [.lst (pT b :: r.map pT)]) := by
  simp only [bis, items, get_fr, List.map_cons, minS_pT, dnR_ofs]
section
variable {wf : Nat} (hw : 2000 ≤ wf)
include hw
theorem lleast_ok {n : Nat} {h : Hh} {p : List (List Int)} {r : List (List Int)} (e : lleastM p = some r) : dnR (callN Lw.T wf (n + 2) 17 [pT p] h) fun v h' => v = pT r ∧ h <+: h' := by
  refine call_ir rfl rfl ?_
  unfold lleastM at e
  obtain ⟨r0, e1, e⟩ := opt_bind e
  split at e
  case isFalse => cases e
  rename_i hl
  obtain ⟨ls, e2, e⟩ := opt_bind e
  cases ls with
  | nil => cases e
  | cons b ls =>
    cases e
    simp only [pT]
    (try simp only [forall_const, reduceCtorEq, false_implies, implies_true, Bool.false_eq_true, Dv.tup.injEq, dnR_noX, dnS_toS, dnSL_cons, dnSL_nil, dn_par, dn_par3, dn_asg, dn_setlc, dn_exp, dn_ret, dn_iff, dn_aug, dn_forr, dn_whl, dn_brk, dn_cnt, dn_retn, start, wipeS, glLen, most, tyIs, Option.map_some, Option.bind_some, Option.some.injEq, List.map_cons, List.map_nil, List.cons_append, List.nil_append, List.length_cons, List.length_nil, List.reduceReplicate, List.getElem?_cons_zero, List.getElem?_cons_succ, List.set_cons_zero, List.set_cons_succ, Nat.reduceAdd, Nat.reduceSub, Nat.reduceLeDiff, decide_true, decide_false, if_true, Bool.true_and, Bool.and_true, Dv.bl.injEq, Dv.int.injEq, exists_eq_left, exists_eq_left', true_and, and_true, Bool.and_self, Bool.not_true, Bool.not_false, eq_self, ↓reduceIte, List.isEmpty_cons, Nat.zero_add, and_self, true_implies, decide_eq_true_eq, decide_eq_false_iff_not, dnE_var, dnE_gint, dnE_int, dnE_str, dnE_bl, dnE_non, dnE_tup, dnE_lst, dnE_bin, dnE_cmp, dnE_chain, dnE_not, dnE_neg, dnE_and, dnE_or, dnA_one, dnA_cons, dnO_one, dnO_cons, dnE_ife, dnE_ix, dnE_sl, dnS_slT, dnE_call, dnE_bi, dnE_bm, dnE_isi, dnE_dnew, dnE_disp, dnE_lc, dnE_lcStp, dnF_nil, dnF_cons, dnL_nil, dnL_cons, dnV_none, dnV_some, dnI_seq, dnI_rng1, dnI_rng2, dnI_enum, dnG_name, dnG_tup, dnG_sub, dnGL_nil, dnGL_cons, dnB_len_t, dnB_set0, dnB_int, ixs_t, src_t, cop_lt, cop_le, cop_gt, cop_ge, cop_eq, cop_ne, bop_add, bop_sub, bop_mul, bop_mod, bop_fdiv, bop_addT, bop_mulT, Lw.ir__law_least, at0_map, e1, iT, List.length_map])
    refine ⟨intOk_nat hl, ?_⟩
    rw [Int.toNat_natCast]
    refine lcL_sim (Q := _) (fun i : Nat => Dv.int (i : Int)) pT (List.range r0.length) (fun h1 => h <+: h1) _ (fun _ _ => rng_list _ _) ?_ e2 (List.prefix_refl _) (by rw [List.length_range]; omega) (by unfold most; rw [List.length_range]; omega) ?_
    · rintro h1 y o _ x0 e
      obtain ⟨w, q1, e⟩ := opt_bind e
      obtain ⟨l, q2, rfl⟩ := Option.map_eq_some_iff.mp e
      (try simp only [forall_const, reduceCtorEq, false_implies, implies_true, Bool.false_eq_true, Dv.tup.injEq, dnR_noX, dnS_toS, dnSL_cons, dnSL_nil, dn_par, dn_par3, dn_asg, dn_setlc, dn_exp, dn_ret, dn_iff, dn_aug, dn_forr, dn_whl, dn_brk, dn_cnt, dn_retn, start, wipeS, glLen, most, tyIs, Option.map_some, Option.bind_some, Option.some.injEq, List.map_cons, List.map_nil, List.cons_append, List.nil_append, List.length_cons, List.length_nil, List.reduceReplicate, List.getElem?_cons_zero, List.getElem?_cons_succ, List.set_cons_zero, List.set_cons_succ, Nat.reduceAdd, Nat.reduceSub, Nat.reduceLeDiff, decide_true, decide_false, if_true, Bool.true_and, Bool.and_true, Dv.bl.injEq, Dv.int.injEq, exists_eq_left, exists_eq_left', true_and, and_true, Bool.and_self, Bool.not_true, Bool.not_false, eq_self, ↓reduceIte, List.isEmpty_cons, Nat.zero_add, and_self, true_implies, decide_eq_true_eq, decide_eq_false_iff_not, dnE_var, dnE_gint, dnE_int, dnE_str, dnE_bl, dnE_non, dnE_tup, dnE_lst, dnE_bin, dnE_cmp, dnE_chain, dnE_not, dnE_neg, dnE_and, dnE_or, dnA_one, dnA_cons, dnO_one, dnO_cons, dnE_ife, dnE_ix, dnE_sl, dnS_slT, dnE_call, dnE_bi, dnE_bm, dnE_isi, dnE_dnew, dnE_disp, dnE_lc, dnE_lcStp, dnF_nil, dnF_cons, dnL_nil, dnL_cons, dnV_none, dnV_some, dnI_seq, dnI_rng1, dnI_rng2, dnI_enum, dnG_name, dnG_tup, dnG_sub, dnGL_nil, dnGL_cons, dnB_len_t, dnB_set0, dnB_int, ixs_t, src_t, cop_lt, cop_le, cop_gt, cop_ge, cop_eq, cop_ne, bop_add, bop_sub, bop_mul, bop_mod, bop_fdiv, bop_addT, bop_mulT])
      refine dnR.imp (lwalk_ok hw q1) ?_
      rintro _ h2 ⟨a, rfl, o⟩
      refine dnR.imp (listed_ok hw (o.at_ 0 rfl) q2) ?_
      rintro _ h3 ⟨rfl, x1⟩
      exact ⟨rfl, (x0.trans o.pre).trans x1⟩
    · intro h1 x
      (try simp only [forall_const, reduceCtorEq, false_implies, implies_true, Bool.false_eq_true, Dv.tup.injEq, dnR_noX, dnS_toS, dnSL_cons, dnSL_nil, dn_par, dn_par3, dn_asg, dn_setlc, dn_exp, dn_ret, dn_iff, dn_aug, dn_forr, dn_whl, dn_brk, dn_cnt, dn_retn, start, wipeS, glLen, most, tyIs, Option.map_some, Option.bind_some, Option.some.injEq, List.map_cons, List.map_nil, List.cons_append, List.nil_append, List.length_cons, List.length_nil, List.reduceReplicate, List.getElem?_cons_zero, List.getElem?_cons_succ, List.set_cons_zero, List.set_cons_succ, Nat.reduceAdd, Nat.reduceSub, Nat.reduceLeDiff, decide_true, decide_false, if_true, Bool.true_and, Bool.and_true, Dv.bl.injEq, Dv.int.injEq, exists_eq_left, exists_eq_left', true_and, and_true, Bool.and_self, Bool.not_true, Bool.not_false, eq_self, ↓reduceIte, List.isEmpty_cons, Nat.zero_add, and_self, true_implies, decide_eq_true_eq, decide_eq_false_iff_not, dnE_var, dnE_gint, dnE_int, dnE_str, dnE_bl, dnE_non, dnE_tup, dnE_lst, dnE_bin, dnE_cmp, dnE_chain, dnE_not, dnE_neg, dnE_and, dnE_or, dnA_one, dnA_cons, dnO_one, dnO_cons, dnE_ife, dnE_ix, dnE_sl, dnS_slT, dnE_call, dnE_bi, dnE_bm, dnE_isi, dnE_dnew, dnE_disp, dnE_lc, dnE_lcStp, dnF_nil, dnF_cons, dnL_nil, dnL_cons, dnV_none, dnV_some, dnI_seq, dnI_rng1, dnI_rng2, dnI_enum, dnG_name, dnG_tup, dnG_sub, dnGL_nil, dnGL_cons, dnB_len_t, dnB_set0, dnB_int, ixs_t, src_t, cop_lt, cop_le, cop_gt, cop_ge, cop_eq, cop_ne, bop_add, bop_sub, bop_mul, bop_mod, bop_fdiv, bop_addT, bop_mulT, dnB_min_fr])
      exact ⟨rfl, x.trans (List.prefix_append _ _)⟩
end
end FF
end

section
set_option Elab.async false
set_option linter.all false
set_option maxRecDepth 100000
set_option maxHeartbeats 4000000
/-! PL11: the law's ways and frames. -/
namespace FF
open PySem

theorem get_fr2 {h : Hh} {x y : Ob} : (h ++ [x] ++ [y])[h.length]? = some x := by
  rw [List.append_assoc, List.getElem?_append_right (by omega)]
  simp
theorem get_fr3 {h : Hh} {x y : Ob} : (h ++ [x] ++ [y])[(h ++ [x]).length]? = some y := get_fr
theorem cop_ne_fr {h : Hh} {is : List Int} : cop .ne (.ref h.length) (.ref (h ++ [Ob.lst (is.map .int)]).length) (h ++ [Ob.lst (is.map .int)] ++ [Ob.lst []]) = some (!is.isEmpty) := cop_ne_nil get_fr2 get_fr3
theorem cop_eq_nil {h : Hh} {a b : Nat} {is : List Int} (e1 : h[a]? = some (.lst (is.map .int))) (e2 : h[b]? = some (.lst [])) : cop .eq (.ref a) (.ref b) h = some is.isEmpty := by
  have := cop_ne_nil e1 e2
  simp only [cop] at this ⊢
  cases hx : deq h (.ref a) (.ref b) with
  | none => rw [hx] at this; cases this
  | some b => rw [hx] at this; simp at this; simp [this]
theorem cop_eq_fr {h : Hh} {is : List Int} : cop .eq (.ref h.length) (.ref (h ++ [Ob.lst (is.map .int)]).length) (h ++ [Ob.lst (is.map .int)] ++ [Ob.lst []]) = some is.isEmpty := cop_eq_nil get_fr2 get_fr3
theorem ixs_fr {h : Hh} {xs : List Dv} {i : Int} : ixs (.ref h.length) (.int i) (h ++ [.lst xs]) = at0 xs i := ixs_l get_fr
theorem toD_pL {h : Hh} {a : Nat} {fs : List (List (List Int))} (n : Nat) (e : h[a]? = some (.lst (fs.map pT))) : toD (n + 4) h (.ref a) = some (.list (fs.map pD)) := by
  unfold toD
  simp only [e]
  suffices (fs.map pT).mapM (toD (n + 3) h) = some (fs.map pD) by rw [this]; rfl
  clear e
  induction fs with
  | nil => rfl
  | cons i r ih => rw [List.map_cons, List.mapM_cons, ih, toD_pT]; rfl
theorem cop_mem_pT {h : Hh} {a : Nat} {fs : List (List (List Int))} {p : List (List Int)} (e : h[a]? = some (.lst (fs.map pT))) : cop .mem (pT p) (.ref a) h = some (decide (p ∈ fs)) := by
  simp only [cop, isMem, e, isMem.memL, toD_pL 4 e, toD_pT, Option.some.injEq]
  induction fs with
  | nil => simp
  | cons f fs ih =>
    clear e
    simp only [List.map_cons, List.any_cons, eqv_pD, List.mem_cons] at ih ⊢
    by_cases hf : f = p
    · subst hf; simp
    · have : ¬ p = f := fun z => hf z.symm
      simp only [hf, this, decide_false, Bool.false_or, false_or]
      have q := ih
      clear ih
      suffices (List.map pD fs).any (fun z => z.eqv (pD p)) = decide (p ∈ fs) from this
      clear q
      induction fs with
      | nil => simp
      | cons g gs ih2 =>
        simp only [List.map_cons, List.any_cons, eqv_pD, List.mem_cons, ih2]
        by_cases hg : g = p
        · subst hg; simp
        · have : ¬ p = g := fun z => hg z.symm
          simp [hg, this]
theorem cop_nmem_pT {h : Hh} {a : Nat} {fs : List (List (List Int))} {p : List (List Int)} (e : h[a]? = some (.lst (fs.map pT))) : cop .nmem (pT p) (.ref a) h = some (!decide (p ∈ fs)) := by
  have := cop_mem_pT (p := p) e
  simp only [cop] at this ⊢
  rw [this]
  rfl
theorem dnB_sorted_lP {h : Hh} {n : Nat} {Q : Dv → Hh → Prop} {fs : List (List (List Int))} (e : h[n]? = some (.lst (fs.map pT))) (hp : (fs.all fun p => !p.isEmpty) = true) (hl : fs.length < 1000) : dnR (bis .sorted [.ref n] h) Q = Q (.ref h.length) (h ++ [.lst ((sortPt fs).map pT)]) := by
  simp only [bis, bis.keysOf, e, sortS_pT hp, dn_iteP, dnR_ok, List.length_map, sortPt_len]
  have : decide (fs.length ≤ most) = true := by unfold most; simp; omega
  simp [this]
/-! ways -/
def lwayStep (count : Nat) (found : List (List Int)) (code : Nat) : Option (List (List Int)) :=
  ((List.range count).foldlM (fun (s : List Int × Int) (_ : Nat) => if s.1.length < 999 then some (s.1 ++ [s.2.fmod (count : Int)], s.2.fdiv (count : Int)) else none) ([], (code : Int))).bind fun rr =>
  (mapO (fun place : Nat => (gA rr.1 (place : Int)).bind fun a => (gA rr.1 a).bind fun b => some (if b = (place : Int) then none else some (place : Int))) (List.range count)).bind fun bad =>
  if bad.isEmpty = true then (if found.length < 999 then some (found ++ [rr.1]) else none) else some found
def lwaysM (count : Nat) : Option (List (List Int)) :=
  if 1 ≤ count ∧ count ≤ 3 then (gA ([0, 1, 4, 27] : List Int) (count : Int)).bind fun m => if 0 ≤ m ∧ m < 100 then (List.range m.toNat).foldlM (lwayStep count) [] else none else none
section
variable {wf : Nat} (hw : 2000 ≤ wf)
include hw
theorem lways_ok {n : Nat} {h : Hh} {count : Nat} {c : Int} (hc : c = count) {r : List (List Int)} (e : lwaysM count = some r) : dnR (callN Lw.T wf (n + 1) 18 [.int c] h) fun v h' => ∃ a, v = .ref a ∧ Own h h' [(a, .lst (r.map iT))] := by
  refine call_ir rfl rfl ?_
  subst hc
  unfold lwaysM at e
  split at e
  case isFalse => cases e
  rename_i hl
  obtain ⟨m, e1, e⟩ := opt_bind e
  split at e
  case isFalse => cases e
  rename_i hm
  have e1' : at0 [.int 0, .int 1, .int 4, .int 27] (count : Int) = some (.int m) := by
    have := at0_map Dv.int [0, 1, 4, 27] (count : Int)
    rw [e1] at this
    exact this
  (try simp only [forall_const, reduceCtorEq, false_implies, implies_true, Bool.false_eq_true, Dv.tup.injEq, dnR_noX, dnS_toS, dnSL_cons, dnSL_nil, dn_par, dn_par3, dn_asg, dn_setlc, dn_exp, dn_ret, dn_iff, dn_aug, dn_forr, dn_whl, dn_brk, dn_cnt, dn_retn, start, wipeS, glLen, most, tyIs, Option.map_some, Option.bind_some, Option.some.injEq, List.map_cons, List.map_nil, List.cons_append, List.nil_append, List.length_cons, List.length_nil, List.reduceReplicate, List.getElem?_cons_zero, List.getElem?_cons_succ, List.set_cons_zero, List.set_cons_succ, Nat.reduceAdd, Nat.reduceSub, Nat.reduceLeDiff, decide_true, decide_false, if_true, Bool.true_and, Bool.and_true, Dv.bl.injEq, Dv.int.injEq, exists_eq_left, exists_eq_left', true_and, and_true, Bool.and_self, Bool.not_true, Bool.not_false, eq_self, ↓reduceIte, List.isEmpty_cons, Nat.zero_add, and_self, true_implies, decide_eq_true_eq, decide_eq_false_iff_not, dnE_var, dnE_gint, dnE_int, dnE_str, dnE_bl, dnE_non, dnE_tup, dnE_lst, dnE_bin, dnE_cmp, dnE_chain, dnE_not, dnE_neg, dnE_and, dnE_or, dnA_one, dnA_cons, dnO_one, dnO_cons, dnE_ife, dnE_ix, dnE_sl, dnS_slT, dnE_call, dnE_bi, dnE_bm, dnE_isi, dnE_dnew, dnE_disp, dnE_lc, dnE_lcStp, dnF_nil, dnF_cons, dnL_nil, dnL_cons, dnV_none, dnV_some, dnI_seq, dnI_rng1, dnI_rng2, dnI_enum, dnG_name, dnG_tup, dnG_sub, dnGL_nil, dnGL_cons, dnB_len_t, dnB_set0, dnB_int, ixs_t, src_t, cop_lt, cop_le, cop_gt, cop_ge, cop_eq, cop_ne, bop_add, bop_sub, bop_mul, bop_mod, bop_fdiv, bop_addT, bop_mulT, Lw.ir__law_ways, ixs_fr, e1'])
  refine ⟨intOk_nat (n := m.toNat) (by omega) |> fun x => by rwa [Int.toNat_of_nonneg hm.1] at x, ?_⟩
  have o := ((Own.nil h).alloc (.lst [])).garb [.lst [.int 0, .int 1, .int 4, .int 27]]
  generalize h ++ [Ob.lst []] ++ [.lst [.int 0, .int 1, .int 4, .int 27]] = h1 at o ⊢
  generalize h.length = a at o ⊢
  refine forL_sim (fun i : Nat => Dv.int (i : Int)) (List.range m.toNat) (fun (s : List (List Int)) σ h1 => ∃ x y z w, σ = [some (.int count), some (.ref a), x, y, z, w] ∧ Own h h1 [(a, .lst (s.map iT))]) _ ?_ ?_ e ⟨_, _, _, _, rfl, o⟩ (by rw [List.length_range]; omega) ?_
  · exact fun s σ h1 _ => rng_list _ _
  · rintro found t σ h1 code _ ⟨x, y, z, w, rfl, o⟩ e
    unfold lwayStep at e
    obtain ⟨⟨row, rest⟩, q1, e⟩ := opt_bind e
    obtain ⟨bad, q2, e⟩ := opt_bind e
    have o1 := o.alloc (.lst [])
    (try simp only [forall_const, reduceCtorEq, false_implies, implies_true, Bool.false_eq_true, Dv.tup.injEq, dnR_noX, dnS_toS, dnSL_cons, dnSL_nil, dn_par, dn_par3, dn_asg, dn_setlc, dn_exp, dn_ret, dn_iff, dn_aug, dn_forr, dn_whl, dn_brk, dn_cnt, dn_retn, start, wipeS, glLen, most, tyIs, Option.map_some, Option.bind_some, Option.some.injEq, List.map_cons, List.map_nil, List.cons_append, List.nil_append, List.length_cons, List.length_nil, List.reduceReplicate, List.getElem?_cons_zero, List.getElem?_cons_succ, List.set_cons_zero, List.set_cons_succ, Nat.reduceAdd, Nat.reduceSub, Nat.reduceLeDiff, decide_true, decide_false, if_true, Bool.true_and, Bool.and_true, Dv.bl.injEq, Dv.int.injEq, exists_eq_left, exists_eq_left', true_and, and_true, Bool.and_self, Bool.not_true, Bool.not_false, eq_self, ↓reduceIte, List.isEmpty_cons, Nat.zero_add, and_self, true_implies, decide_eq_true_eq, decide_eq_false_iff_not, dnE_var, dnE_gint, dnE_int, dnE_str, dnE_bl, dnE_non, dnE_tup, dnE_lst, dnE_bin, dnE_cmp, dnE_chain, dnE_not, dnE_neg, dnE_and, dnE_or, dnA_one, dnA_cons, dnO_one, dnO_cons, dnE_ife, dnE_ix, dnE_sl, dnS_slT, dnE_call, dnE_bi, dnE_bm, dnE_isi, dnE_dnew, dnE_disp, dnE_lc, dnE_lcStp, dnF_nil, dnF_cons, dnL_nil, dnL_cons, dnV_none, dnV_some, dnI_seq, dnI_rng1, dnI_rng2, dnI_enum, dnG_name, dnG_tup, dnG_sub, dnGL_nil, dnGL_cons, dnB_len_t, dnB_set0, dnB_int, ixs_t, src_t, cop_lt, cop_le, cop_gt, cop_ge, cop_eq, cop_ne, bop_add, bop_sub, bop_mul, bop_mod, bop_fdiv, bop_addT, bop_mulT, Int.toNat_natCast])
    refine ⟨intOk_nat (by omega), ?_⟩
    generalize h1 ++ [Ob.lst []] = h2 at o1 ⊢
    generalize h1.length = b at o1 ⊢
    refine forL_sim (fun i : Nat => Dv.int (i : Int)) (List.range count) (fun (s : List Int × Int) σ h1 => ∃ w, σ = [some (.int count), some (.ref a), some (.int code), some (.ref b), some (.int s.2), w] ∧ Own h h1 [(b, .lst (s.1.map .int)), (a, .lst (found.map iT))]) _ ?_ ?_ q1 ⟨_, rfl, o1⟩ (by rw [List.length_range]; omega) ?_
    · exact fun s σ h1 _ => rng_list _ _
    · rintro ⟨l, rs⟩ t σ h1 k _ ⟨w, rfl, o⟩ e
      split at e
      case isFalse => cases e
      rename_i hl4
      cases e
      (try simp only [forall_const, reduceCtorEq, false_implies, implies_true, Bool.false_eq_true, Dv.tup.injEq, dnR_noX, dnS_toS, dnSL_cons, dnSL_nil, dn_par, dn_par3, dn_asg, dn_setlc, dn_exp, dn_ret, dn_iff, dn_aug, dn_forr, dn_whl, dn_brk, dn_cnt, dn_retn, start, wipeS, glLen, most, tyIs, Option.map_some, Option.bind_some, Option.some.injEq, List.map_cons, List.map_nil, List.cons_append, List.nil_append, List.length_cons, List.length_nil, List.reduceReplicate, List.getElem?_cons_zero, List.getElem?_cons_succ, List.set_cons_zero, List.set_cons_succ, Nat.reduceAdd, Nat.reduceSub, Nat.reduceLeDiff, decide_true, decide_false, if_true, Bool.true_and, Bool.and_true, Dv.bl.injEq, Dv.int.injEq, exists_eq_left, exists_eq_left', true_and, and_true, Bool.and_self, Bool.not_true, Bool.not_false, eq_self, ↓reduceIte, List.isEmpty_cons, Nat.zero_add, and_self, true_implies, decide_eq_true_eq, decide_eq_false_iff_not, dnE_var, dnE_gint, dnE_int, dnE_str, dnE_bl, dnE_non, dnE_tup, dnE_lst, dnE_bin, dnE_cmp, dnE_chain, dnE_not, dnE_neg, dnE_and, dnE_or, dnA_one, dnA_cons, dnO_one, dnO_cons, dnE_ife, dnE_ix, dnE_sl, dnS_slT, dnE_call, dnE_bi, dnE_bm, dnE_isi, dnE_dnew, dnE_disp, dnE_lc, dnE_lcStp, dnF_nil, dnF_cons, dnL_nil, dnL_cons, dnV_none, dnV_some, dnI_seq, dnI_rng1, dnI_rng2, dnI_enum, dnG_name, dnG_tup, dnG_sub, dnGL_nil, dnGL_cons, dnB_len_t, dnB_set0, dnB_int, ixs_t, src_t, cop_lt, cop_le, cop_gt, cop_ge, cop_eq, cop_ne, bop_add, bop_sub, bop_mul, bop_mod, bop_fdiv, bop_addT, bop_mulT, dnK_append (o.at_ 0 rfl)])
      refine ⟨by simp; omega, ?_⟩
      (try simp only [forall_const, reduceCtorEq, false_implies, implies_true, Bool.false_eq_true, Dv.tup.injEq, dnR_noX, dnS_toS, dnSL_cons, dnSL_nil, dn_par, dn_par3, dn_asg, dn_setlc, dn_exp, dn_ret, dn_iff, dn_aug, dn_forr, dn_whl, dn_brk, dn_cnt, dn_retn, start, wipeS, glLen, most, tyIs, Option.map_some, Option.bind_some, Option.some.injEq, List.map_cons, List.map_nil, List.cons_append, List.nil_append, List.length_cons, List.length_nil, List.reduceReplicate, List.getElem?_cons_zero, List.getElem?_cons_succ, List.set_cons_zero, List.set_cons_succ, Nat.reduceAdd, Nat.reduceSub, Nat.reduceLeDiff, decide_true, decide_false, if_true, Bool.true_and, Bool.and_true, Dv.bl.injEq, Dv.int.injEq, exists_eq_left, exists_eq_left', true_and, and_true, Bool.and_self, Bool.not_true, Bool.not_false, eq_self, ↓reduceIte, List.isEmpty_cons, Nat.zero_add, and_self, true_implies, decide_eq_true_eq, decide_eq_false_iff_not, dnE_var, dnE_gint, dnE_int, dnE_str, dnE_bl, dnE_non, dnE_tup, dnE_lst, dnE_bin, dnE_cmp, dnE_chain, dnE_not, dnE_neg, dnE_and, dnE_or, dnA_one, dnA_cons, dnO_one, dnO_cons, dnE_ife, dnE_ix, dnE_sl, dnS_slT, dnE_call, dnE_bi, dnE_bm, dnE_isi, dnE_dnew, dnE_disp, dnE_lc, dnE_lcStp, dnF_nil, dnF_cons, dnL_nil, dnL_cons, dnV_none, dnV_some, dnI_seq, dnI_rng1, dnI_rng2, dnI_enum, dnG_name, dnG_tup, dnG_sub, dnGL_nil, dnGL_cons, dnB_len_t, dnB_set0, dnB_int, ixs_t, src_t, cop_lt, cop_le, cop_gt, cop_ge, cop_eq, cop_ne, bop_add, bop_sub, bop_mul, bop_mod, bop_fdiv, bop_addT, bop_mulT, dnM_append (o.at_ 0 rfl), List.length_map])
      refine ⟨by simp only at hl4; omega, by simp; omega, _, rfl, ?_⟩
      have o2 := o.set 0 rfl (.lst (l.map .int ++ [.int (rs.fmod count)]))
      rw [List.map_append]
      exact o2
    · rintro σ h1 ⟨w, rfl, o⟩
      (try simp only [forall_const, reduceCtorEq, false_implies, implies_true, Bool.false_eq_true, Dv.tup.injEq, dnR_noX, dnS_toS, dnSL_cons, dnSL_nil, dn_par, dn_par3, dn_asg, dn_setlc, dn_exp, dn_ret, dn_iff, dn_aug, dn_forr, dn_whl, dn_brk, dn_cnt, dn_retn, start, wipeS, glLen, most, tyIs, Option.map_some, Option.bind_some, Option.some.injEq, List.map_cons, List.map_nil, List.cons_append, List.nil_append, List.length_cons, List.length_nil, List.reduceReplicate, List.getElem?_cons_zero, List.getElem?_cons_succ, List.set_cons_zero, List.set_cons_succ, Nat.reduceAdd, Nat.reduceSub, Nat.reduceLeDiff, decide_true, decide_false, if_true, Bool.true_and, Bool.and_true, Dv.bl.injEq, Dv.int.injEq, exists_eq_left, exists_eq_left', true_and, and_true, Bool.and_self, Bool.not_true, Bool.not_false, eq_self, ↓reduceIte, List.isEmpty_cons, Nat.zero_add, and_self, true_implies, decide_eq_true_eq, decide_eq_false_iff_not, dnE_var, dnE_gint, dnE_int, dnE_str, dnE_bl, dnE_non, dnE_tup, dnE_lst, dnE_bin, dnE_cmp, dnE_chain, dnE_not, dnE_neg, dnE_and, dnE_or, dnA_one, dnA_cons, dnO_one, dnO_cons, dnE_ife, dnE_ix, dnE_sl, dnS_slT, dnE_call, dnE_bi, dnE_bm, dnE_isi, dnE_dnew, dnE_disp, dnE_lc, dnE_lcStp, dnF_nil, dnF_cons, dnL_nil, dnL_cons, dnV_none, dnV_some, dnI_seq, dnI_rng1, dnI_rng2, dnI_enum, dnG_name, dnG_tup, dnG_sub, dnGL_nil, dnGL_cons, dnB_len_t, dnB_set0, dnB_int, ixs_t, src_t, cop_lt, cop_le, cop_gt, cop_ge, cop_eq, cop_ne, bop_add, bop_sub, bop_mul, bop_mod, bop_fdiv, bop_addT, bop_mulT, Int.toNat_natCast])
      refine ⟨intOk_nat (by omega), ?_⟩
      refine lcL_sim (Q := _) (fun i : Nat => Dv.int (i : Int)) Dv.int (List.range count) (fun h1 => Own h h1 [(b, .lst (row.map .int)), (a, .lst (found.map iT))]) _ (fun _ _ => rng_list _ _) ?_ q2 o (by rw [List.length_range]; omega) (by unfold most; rw [List.length_range]; omega) ?_
      · rintro h1 y r _ o e
        obtain ⟨a1, p1, e⟩ := opt_bind e
        obtain ⟨a2, p2, e⟩ := opt_bind e
        cases e
        (try simp only [forall_const, reduceCtorEq, false_implies, implies_true, Bool.false_eq_true, Dv.tup.injEq, dnR_noX, dnS_toS, dnSL_cons, dnSL_nil, dn_par, dn_par3, dn_asg, dn_setlc, dn_exp, dn_ret, dn_iff, dn_aug, dn_forr, dn_whl, dn_brk, dn_cnt, dn_retn, start, wipeS, glLen, most, tyIs, Option.map_some, Option.bind_some, Option.some.injEq, List.map_cons, List.map_nil, List.cons_append, List.nil_append, List.length_cons, List.length_nil, List.reduceReplicate, List.getElem?_cons_zero, List.getElem?_cons_succ, List.set_cons_zero, List.set_cons_succ, Nat.reduceAdd, Nat.reduceSub, Nat.reduceLeDiff, decide_true, decide_false, if_true, Bool.true_and, Bool.and_true, Dv.bl.injEq, Dv.int.injEq, exists_eq_left, exists_eq_left', true_and, and_true, Bool.and_self, Bool.not_true, Bool.not_false, eq_self, ↓reduceIte, List.isEmpty_cons, Nat.zero_add, and_self, true_implies, decide_eq_true_eq, decide_eq_false_iff_not, dnE_var, dnE_gint, dnE_int, dnE_str, dnE_bl, dnE_non, dnE_tup, dnE_lst, dnE_bin, dnE_cmp, dnE_chain, dnE_not, dnE_neg, dnE_and, dnE_or, dnA_one, dnA_cons, dnO_one, dnO_cons, dnE_ife, dnE_ix, dnE_sl, dnS_slT, dnE_call, dnE_bi, dnE_bm, dnE_isi, dnE_dnew, dnE_disp, dnE_lc, dnE_lcStp, dnF_nil, dnF_cons, dnL_nil, dnL_cons, dnV_none, dnV_some, dnI_seq, dnI_rng1, dnI_rng2, dnI_enum, dnG_name, dnG_tup, dnG_sub, dnGL_nil, dnGL_cons, dnB_len_t, dnB_set0, dnB_int, ixs_t, src_t, cop_lt, cop_le, cop_gt, cop_ge, cop_eq, cop_ne, bop_add, bop_sub, bop_mul, bop_mod, bop_fdiv, bop_addT, bop_mulT, ixs_l (o.at_ 0 rfl), at0_map, p1, p2])
        refine ⟨fun z => ?_, fun z => ?_⟩
        · rw [if_neg (by simpa using z)]
          exact ⟨rfl, o⟩
        · rw [if_pos (by simpa using z)]
          exact ⟨rfl, o⟩
      · intro h3 o
        (try simp only [forall_const, reduceCtorEq, false_implies, implies_true, Bool.false_eq_true, Dv.tup.injEq, dnR_noX, dnS_toS, dnSL_cons, dnSL_nil, dn_par, dn_par3, dn_asg, dn_setlc, dn_exp, dn_ret, dn_iff, dn_aug, dn_forr, dn_whl, dn_brk, dn_cnt, dn_retn, start, wipeS, glLen, most, tyIs, Option.map_some, Option.bind_some, Option.some.injEq, List.map_cons, List.map_nil, List.cons_append, List.nil_append, List.length_cons, List.length_nil, List.reduceReplicate, List.getElem?_cons_zero, List.getElem?_cons_succ, List.set_cons_zero, List.set_cons_succ, Nat.reduceAdd, Nat.reduceSub, Nat.reduceLeDiff, decide_true, decide_false, if_true, Bool.true_and, Bool.and_true, Dv.bl.injEq, Dv.int.injEq, exists_eq_left, exists_eq_left', true_and, and_true, Bool.and_self, Bool.not_true, Bool.not_false, eq_self, ↓reduceIte, List.isEmpty_cons, Nat.zero_add, and_self, true_implies, decide_eq_true_eq, decide_eq_false_iff_not, dnE_var, dnE_gint, dnE_int, dnE_str, dnE_bl, dnE_non, dnE_tup, dnE_lst, dnE_bin, dnE_cmp, dnE_chain, dnE_not, dnE_neg, dnE_and, dnE_or, dnA_one, dnA_cons, dnO_one, dnO_cons, dnE_ife, dnE_ix, dnE_sl, dnS_slT, dnE_call, dnE_bi, dnE_bm, dnE_isi, dnE_dnew, dnE_disp, dnE_lc, dnE_lcStp, dnF_nil, dnF_cons, dnL_nil, dnL_cons, dnV_none, dnV_some, dnI_seq, dnI_rng1, dnI_rng2, dnI_enum, dnG_name, dnG_tup, dnG_sub, dnGL_nil, dnGL_cons, dnB_len_t, dnB_set0, dnB_int, ixs_t, src_t, cop_lt, cop_le, cop_gt, cop_ge, cop_eq, cop_ne, bop_add, bop_sub, bop_mul, bop_mod, bop_fdiv, bop_addT, bop_mulT, cop_eq_fr])
        have o := (o.garb [.lst (bad.map .int)]).garb [.lst []]
        refine ⟨fun z => ?_, fun z => ?_⟩
        · rw [if_pos z] at e
          split at e
          case isFalse => cases e
          rename_i hl4
          cases e
          (try simp only [forall_const, reduceCtorEq, false_implies, implies_true, Bool.false_eq_true, Dv.tup.injEq, dnR_noX, dnS_toS, dnSL_cons, dnSL_nil, dn_par, dn_par3, dn_asg, dn_setlc, dn_exp, dn_ret, dn_iff, dn_aug, dn_forr, dn_whl, dn_brk, dn_cnt, dn_retn, start, wipeS, glLen, most, tyIs, Option.map_some, Option.bind_some, Option.some.injEq, List.map_cons, List.map_nil, List.cons_append, List.nil_append, List.length_cons, List.length_nil, List.reduceReplicate, List.getElem?_cons_zero, List.getElem?_cons_succ, List.set_cons_zero, List.set_cons_succ, Nat.reduceAdd, Nat.reduceSub, Nat.reduceLeDiff, decide_true, decide_false, if_true, Bool.true_and, Bool.and_true, Dv.bl.injEq, Dv.int.injEq, exists_eq_left, exists_eq_left', true_and, and_true, Bool.and_self, Bool.not_true, Bool.not_false, eq_self, ↓reduceIte, List.isEmpty_cons, Nat.zero_add, and_self, true_implies, decide_eq_true_eq, decide_eq_false_iff_not, dnE_var, dnE_gint, dnE_int, dnE_str, dnE_bl, dnE_non, dnE_tup, dnE_lst, dnE_bin, dnE_cmp, dnE_chain, dnE_not, dnE_neg, dnE_and, dnE_or, dnA_one, dnA_cons, dnO_one, dnO_cons, dnE_ife, dnE_ix, dnE_sl, dnS_slT, dnE_call, dnE_bi, dnE_bm, dnE_isi, dnE_dnew, dnE_disp, dnE_lc, dnE_lcStp, dnF_nil, dnF_cons, dnL_nil, dnL_cons, dnV_none, dnV_some, dnI_seq, dnI_rng1, dnI_rng2, dnI_enum, dnG_name, dnG_tup, dnG_sub, dnGL_nil, dnGL_cons, dnB_len_t, dnB_set0, dnB_int, ixs_t, src_t, cop_lt, cop_le, cop_gt, cop_ge, cop_eq, cop_ne, bop_add, bop_sub, bop_mul, bop_mod, bop_fdiv, bop_addT, bop_mulT, dnK_append (o.at_ 1 rfl), dnB_tuple_l (o.at_ 0 rfl), dnM_append (o.at_ 1 rfl), List.length_map])
          refine ⟨by omega, _, _, _, _, rfl, ?_⟩
          have o2 := (o.set 1 rfl (.lst (found.map iT ++ [iT row]))).drop [(a, .lst (found.map iT ++ [iT row]))] (by simp)
          rw [List.map_append]
          exact o2
        · rw [if_neg (by rw [z]; decide)] at e
          cases e
          exact ⟨_, _, _, _, rfl, o.drop _ (by simp)⟩
  · rintro σ h1 ⟨x, y, z, w, rfl, o⟩
    (try simp only [forall_const, reduceCtorEq, false_implies, implies_true, Bool.false_eq_true, Dv.tup.injEq, dnR_noX, dnS_toS, dnSL_cons, dnSL_nil, dn_par, dn_par3, dn_asg, dn_setlc, dn_exp, dn_ret, dn_iff, dn_aug, dn_forr, dn_whl, dn_brk, dn_cnt, dn_retn, start, wipeS, glLen, most, tyIs, Option.map_some, Option.bind_some, Option.some.injEq, List.map_cons, List.map_nil, List.cons_append, List.nil_append, List.length_cons, List.length_nil, List.reduceReplicate, List.getElem?_cons_zero, List.getElem?_cons_succ, List.set_cons_zero, List.set_cons_succ, Nat.reduceAdd, Nat.reduceSub, Nat.reduceLeDiff, decide_true, decide_false, if_true, Bool.true_and, Bool.and_true, Dv.bl.injEq, Dv.int.injEq, exists_eq_left, exists_eq_left', true_and, and_true, Bool.and_self, Bool.not_true, Bool.not_false, eq_self, ↓reduceIte, List.isEmpty_cons, Nat.zero_add, and_self, true_implies, decide_eq_true_eq, decide_eq_false_iff_not, dnE_var, dnE_gint, dnE_int, dnE_str, dnE_bl, dnE_non, dnE_tup, dnE_lst, dnE_bin, dnE_cmp, dnE_chain, dnE_not, dnE_neg, dnE_and, dnE_or, dnA_one, dnA_cons, dnO_one, dnO_cons, dnE_ife, dnE_ix, dnE_sl, dnS_slT, dnE_call, dnE_bi, dnE_bm, dnE_isi, dnE_dnew, dnE_disp, dnE_lc, dnE_lcStp, dnF_nil, dnF_cons, dnL_nil, dnL_cons, dnV_none, dnV_some, dnI_seq, dnI_rng1, dnI_rng2, dnI_enum, dnG_name, dnG_tup, dnG_sub, dnGL_nil, dnGL_cons, dnB_len_t, dnB_set0, dnB_int, ixs_t, src_t, cop_lt, cop_le, cop_gt, cop_ge, cop_eq, cop_ne, bop_add, bop_sub, bop_mul, bop_mod, bop_fdiv, bop_addT, bop_mulT])
    exact ⟨a, rfl, o⟩
end
/-! frames -/
def lcommM (s0 s2 : List Int) (count : Nat) : Option (List Int) :=
  mapO (fun flag : Nat => (gA s2 (flag : Int)).bind fun a => (gA s0 a).bind fun b => (gA s0 (flag : Int)).bind fun c => (gA s2 c).bind fun d => some (if b = d then none else some (flag : Int))) (List.range count)
def lf1 (s0 s2 ones : List Int) (count : Nat) (found : List (List (List Int))) (s1 : List Int) : Option (List (List (List Int))) :=
  (lwalkM [s0, s1, s2, ones, ones] 0).bind fun w => if w.length = count then (lleastM [s0, s1, s2, ones, ones]).bind fun l => if found.length < 999 then some (if l.take 3 ∈ found then found else found ++ [l.take 3]) else none else some found
def lf2 (ways : List (List Int)) (ones : List Int) (count : Nat) (s0 : List Int) (found : List (List (List Int))) (s2 : List Int) : Option (List (List (List Int))) :=
  (lcommM s0 s2 count).bind fun b => if (!b.isEmpty) = true then some found else ways.foldlM (lf1 s0 s2 ones count) found
def lframesM (count : Nat) : Option (List (List (List Int))) :=
  if 1 ≤ count ∧ count ≤ 3 then (lwaysM count).bind fun ways => if ways.length < 999 then
   (ways.foldlM (fun found s0 => ways.foldlM (lf2 ways (List.replicate count 1) count s0) found) []).bind fun found => if (found.all fun p => !p.isEmpty) = true ∧ found.length < 999 then some (sortPt found) else none else none else none
section
variable {wf : Nat} (hw : 2000 ≤ wf)
include hw
theorem lframes_ok {n : Nat} {h : Hh} {count : Nat} {c : Int} (hc : c = count) {r : List (List (List Int))} (e : lframesM count = some r) : dnR (callN Lw.T wf (n + 3) 19 [.int c] h) fun v h' => v = .tup (r.map pT) ∧ h <+: h' := by
  refine call_ir rfl rfl ?_
  subst hc
  unfold lframesM at e
  split at e
  case isFalse => cases e
  rename_i hl
  obtain ⟨ways, e1, e⟩ := opt_bind e
  split at e
  case isFalse => cases e
  rename_i hl1
  obtain ⟨found, e2, e⟩ := opt_bind e
  split at e
  case isFalse => cases e
  rename_i hl2
  cases e
  (try simp only [forall_const, reduceCtorEq, false_implies, implies_true, Bool.false_eq_true, Dv.tup.injEq, dnR_noX, dnS_toS, dnSL_cons, dnSL_nil, dn_par, dn_par3, dn_asg, dn_setlc, dn_exp, dn_ret, dn_iff, dn_aug, dn_forr, dn_whl, dn_brk, dn_cnt, dn_retn, start, wipeS, glLen, most, tyIs, Option.map_some, Option.bind_some, Option.some.injEq, List.map_cons, List.map_nil, List.cons_append, List.nil_append, List.length_cons, List.length_nil, List.reduceReplicate, List.getElem?_cons_zero, List.getElem?_cons_succ, List.set_cons_zero, List.set_cons_succ, Nat.reduceAdd, Nat.reduceSub, Nat.reduceLeDiff, decide_true, decide_false, if_true, Bool.true_and, Bool.and_true, Dv.bl.injEq, Dv.int.injEq, exists_eq_left, exists_eq_left', true_and, and_true, Bool.and_self, Bool.not_true, Bool.not_false, eq_self, ↓reduceIte, List.isEmpty_cons, Nat.zero_add, and_self, true_implies, decide_eq_true_eq, decide_eq_false_iff_not, dnE_var, dnE_gint, dnE_int, dnE_str, dnE_bl, dnE_non, dnE_tup, dnE_lst, dnE_bin, dnE_cmp, dnE_chain, dnE_not, dnE_neg, dnE_and, dnE_or, dnA_one, dnA_cons, dnO_one, dnO_cons, dnE_ife, dnE_ix, dnE_sl, dnS_slT, dnE_call, dnE_bi, dnE_bm, dnE_isi, dnE_dnew, dnE_disp, dnE_lc, dnE_lcStp, dnF_nil, dnF_cons, dnL_nil, dnL_cons, dnV_none, dnV_some, dnI_seq, dnI_rng1, dnI_rng2, dnI_enum, dnG_name, dnG_tup, dnG_sub, dnGL_nil, dnGL_cons, dnB_len_t, dnB_set0, dnB_int, ixs_t, src_t, cop_lt, cop_le, cop_gt, cop_ge, cop_eq, cop_ne, bop_add, bop_sub, bop_mul, bop_mod, bop_fdiv, bop_addT, bop_mulT, Lw.ir__law_frames])
  refine dnR.imp (lways_ok hw rfl e1) ?_
  rintro _ h1 ⟨a, rfl, o⟩
  (try simp only [forall_const, reduceCtorEq, false_implies, implies_true, Bool.false_eq_true, Dv.tup.injEq, dnR_noX, dnS_toS, dnSL_cons, dnSL_nil, dn_par, dn_par3, dn_asg, dn_setlc, dn_exp, dn_ret, dn_iff, dn_aug, dn_forr, dn_whl, dn_brk, dn_cnt, dn_retn, start, wipeS, glLen, most, tyIs, Option.map_some, Option.bind_some, Option.some.injEq, List.map_cons, List.map_nil, List.cons_append, List.nil_append, List.length_cons, List.length_nil, List.reduceReplicate, List.getElem?_cons_zero, List.getElem?_cons_succ, List.set_cons_zero, List.set_cons_succ, Nat.reduceAdd, Nat.reduceSub, Nat.reduceLeDiff, decide_true, decide_false, if_true, Bool.true_and, Bool.and_true, Dv.bl.injEq, Dv.int.injEq, exists_eq_left, exists_eq_left', true_and, and_true, Bool.and_self, Bool.not_true, Bool.not_false, eq_self, ↓reduceIte, List.isEmpty_cons, Nat.zero_add, and_self, true_implies, decide_eq_true_eq, decide_eq_false_iff_not, dnE_var, dnE_gint, dnE_int, dnE_str, dnE_bl, dnE_non, dnE_tup, dnE_lst, dnE_bin, dnE_cmp, dnE_chain, dnE_not, dnE_neg, dnE_and, dnE_or, dnA_one, dnA_cons, dnO_one, dnO_cons, dnE_ife, dnE_ix, dnE_sl, dnS_slT, dnE_call, dnE_bi, dnE_bm, dnE_isi, dnE_dnew, dnE_disp, dnE_lc, dnE_lcStp, dnF_nil, dnF_cons, dnL_nil, dnL_cons, dnV_none, dnV_some, dnI_seq, dnI_rng1, dnI_rng2, dnI_enum, dnG_name, dnG_tup, dnG_sub, dnGL_nil, dnGL_cons, dnB_len_t, dnB_set0, dnB_int, ixs_t, src_t, cop_lt, cop_le, cop_gt, cop_ge, cop_eq, cop_ne, bop_add, bop_sub, bop_mul, bop_mod, bop_fdiv, bop_addT, bop_mulT, Int.toNat_natCast, ones_rep])
  refine ⟨by simp; omega, ?_⟩
  have o := o.alloc (.lst [])
  generalize h1 ++ [Ob.lst []] = h2 at o ⊢
  generalize h1.length = d at o ⊢
  (try simp only [forall_const, reduceCtorEq, false_implies, implies_true, Bool.false_eq_true, Dv.tup.injEq, dnR_noX, dnS_toS, dnSL_cons, dnSL_nil, dn_par, dn_par3, dn_asg, dn_setlc, dn_exp, dn_ret, dn_iff, dn_aug, dn_forr, dn_whl, dn_brk, dn_cnt, dn_retn, start, wipeS, glLen, most, tyIs, Option.map_some, Option.bind_some, Option.some.injEq, List.map_cons, List.map_nil, List.cons_append, List.nil_append, List.length_cons, List.length_nil, List.reduceReplicate, List.getElem?_cons_zero, List.getElem?_cons_succ, List.set_cons_zero, List.set_cons_succ, Nat.reduceAdd, Nat.reduceSub, Nat.reduceLeDiff, decide_true, decide_false, if_true, Bool.true_and, Bool.and_true, Dv.bl.injEq, Dv.int.injEq, exists_eq_left, exists_eq_left', true_and, and_true, Bool.and_self, Bool.not_true, Bool.not_false, eq_self, ↓reduceIte, List.isEmpty_cons, Nat.zero_add, and_self, true_implies, decide_eq_true_eq, decide_eq_false_iff_not, dnE_var, dnE_gint, dnE_int, dnE_str, dnE_bl, dnE_non, dnE_tup, dnE_lst, dnE_bin, dnE_cmp, dnE_chain, dnE_not, dnE_neg, dnE_and, dnE_or, dnA_one, dnA_cons, dnO_one, dnO_cons, dnE_ife, dnE_ix, dnE_sl, dnS_slT, dnE_call, dnE_bi, dnE_bm, dnE_isi, dnE_dnew, dnE_disp, dnE_lc, dnE_lcStp, dnF_nil, dnF_cons, dnL_nil, dnL_cons, dnV_none, dnV_some, dnI_seq, dnI_rng1, dnI_rng2, dnI_enum, dnG_name, dnG_tup, dnG_sub, dnGL_nil, dnGL_cons, dnB_len_t, dnB_set0, dnB_int, ixs_t, src_t, cop_lt, cop_le, cop_gt, cop_ge, cop_eq, cop_ne, bop_add, bop_sub, bop_mul, bop_mod, bop_fdiv, bop_addT, bop_mulT, src_l (o.at_ 1 rfl)])
  refine forL_sim iT ways (fun (s : List (List (List Int))) σ h1 => ∃ x y z w u v, σ = [some (.int count), some (.ref a), some (.ref d), some (iT (List.replicate count 1)), x, y, z, w, u, v] ∧ Own h h1 [(d, .lst (s.map pT)), (a, .lst (ways.map iT))]) _ ?_ ?_ e2 ⟨_, _, _, _, _, _, rfl, o⟩ (by omega) ?_
  · rintro s σ h1 ⟨x, y, z, w, u, v, rfl, o⟩
    exact seq_l (o.at_ 1 rfl)
  · rintro s t σ h1 s0 _ ⟨x, y, z, w, u, v, rfl, o⟩ e
    (try simp only [forall_const, reduceCtorEq, false_implies, implies_true, Bool.false_eq_true, Dv.tup.injEq, dnR_noX, dnS_toS, dnSL_cons, dnSL_nil, dn_par, dn_par3, dn_asg, dn_setlc, dn_exp, dn_ret, dn_iff, dn_aug, dn_forr, dn_whl, dn_brk, dn_cnt, dn_retn, start, wipeS, glLen, most, tyIs, Option.map_some, Option.bind_some, Option.some.injEq, List.map_cons, List.map_nil, List.cons_append, List.nil_append, List.length_cons, List.length_nil, List.reduceReplicate, List.getElem?_cons_zero, List.getElem?_cons_succ, List.set_cons_zero, List.set_cons_succ, Nat.reduceAdd, Nat.reduceSub, Nat.reduceLeDiff, decide_true, decide_false, if_true, Bool.true_and, Bool.and_true, Dv.bl.injEq, Dv.int.injEq, exists_eq_left, exists_eq_left', true_and, and_true, Bool.and_self, Bool.not_true, Bool.not_false, eq_self, ↓reduceIte, List.isEmpty_cons, Nat.zero_add, and_self, true_implies, decide_eq_true_eq, decide_eq_false_iff_not, dnE_var, dnE_gint, dnE_int, dnE_str, dnE_bl, dnE_non, dnE_tup, dnE_lst, dnE_bin, dnE_cmp, dnE_chain, dnE_not, dnE_neg, dnE_and, dnE_or, dnA_one, dnA_cons, dnO_one, dnO_cons, dnE_ife, dnE_ix, dnE_sl, dnS_slT, dnE_call, dnE_bi, dnE_bm, dnE_isi, dnE_dnew, dnE_disp, dnE_lc, dnE_lcStp, dnF_nil, dnF_cons, dnL_nil, dnL_cons, dnV_none, dnV_some, dnI_seq, dnI_rng1, dnI_rng2, dnI_enum, dnG_name, dnG_tup, dnG_sub, dnGL_nil, dnGL_cons, dnB_len_t, dnB_set0, dnB_int, ixs_t, src_t, cop_lt, cop_le, cop_gt, cop_ge, cop_eq, cop_ne, bop_add, bop_sub, bop_mul, bop_mod, bop_fdiv, bop_addT, bop_mulT, src_l (o.at_ 1 rfl)])
    refine forL_sim iT ways (fun (s : List (List (List Int))) σ h1 => ∃ y z w u v, σ = [some (.int count), some (.ref a), some (.ref d), some (iT (List.replicate count 1)), some (iT s0), y, z, w, u, v] ∧ Own h h1 [(d, .lst (s.map pT)), (a, .lst (ways.map iT))]) _ ?_ ?_ e ⟨_, _, _, _, _, rfl, o⟩ (by omega) ?_
    · rintro s σ h1 ⟨y, z, w, u, v, rfl, o⟩
      exact seq_l (o.at_ 1 rfl)
    · rintro s t σ h1 s2 _ ⟨y, z, w, u, v, rfl, o⟩ e
      unfold lf2 at e
      obtain ⟨bs, e4, e⟩ := opt_bind e
      unfold lcommM at e4
      (try simp only [forall_const, reduceCtorEq, false_implies, implies_true, Bool.false_eq_true, Dv.tup.injEq, dnR_noX, dnS_toS, dnSL_cons, dnSL_nil, dn_par, dn_par3, dn_asg, dn_setlc, dn_exp, dn_ret, dn_iff, dn_aug, dn_forr, dn_whl, dn_brk, dn_cnt, dn_retn, start, wipeS, glLen, most, tyIs, Option.map_some, Option.bind_some, Option.some.injEq, List.map_cons, List.map_nil, List.cons_append, List.nil_append, List.length_cons, List.length_nil, List.reduceReplicate, List.getElem?_cons_zero, List.getElem?_cons_succ, List.set_cons_zero, List.set_cons_succ, Nat.reduceAdd, Nat.reduceSub, Nat.reduceLeDiff, decide_true, decide_false, if_true, Bool.true_and, Bool.and_true, Dv.bl.injEq, Dv.int.injEq, exists_eq_left, exists_eq_left', true_and, and_true, Bool.and_self, Bool.not_true, Bool.not_false, eq_self, ↓reduceIte, List.isEmpty_cons, Nat.zero_add, and_self, true_implies, decide_eq_true_eq, decide_eq_false_iff_not, dnE_var, dnE_gint, dnE_int, dnE_str, dnE_bl, dnE_non, dnE_tup, dnE_lst, dnE_bin, dnE_cmp, dnE_chain, dnE_not, dnE_neg, dnE_and, dnE_or, dnA_one, dnA_cons, dnO_one, dnO_cons, dnE_ife, dnE_ix, dnE_sl, dnS_slT, dnE_call, dnE_bi, dnE_bm, dnE_isi, dnE_dnew, dnE_disp, dnE_lc, dnE_lcStp, dnF_nil, dnF_cons, dnL_nil, dnL_cons, dnV_none, dnV_some, dnI_seq, dnI_rng1, dnI_rng2, dnI_enum, dnG_name, dnG_tup, dnG_sub, dnGL_nil, dnGL_cons, dnB_len_t, dnB_set0, dnB_int, ixs_t, src_t, cop_lt, cop_le, cop_gt, cop_ge, cop_eq, cop_ne, bop_add, bop_sub, bop_mul, bop_mod, bop_fdiv, bop_addT, bop_mulT, Int.toNat_natCast])
      refine ⟨intOk_nat (by omega), ?_⟩
      refine lcL_sim (Q := _) (fun i : Nat => Dv.int (i : Int)) Dv.int (List.range count) (fun h1 => Own h h1 [(d, .lst (s.map pT)), (a, .lst (ways.map iT))]) _ (fun _ _ => rng_list _ _) ?_ e4 o (by rw [List.length_range]; omega) (by unfold most; rw [List.length_range]; omega) ?_
      · rintro h1 y r _ o e
        obtain ⟨a1, q1, e⟩ := opt_bind e
        obtain ⟨a2, q2, e⟩ := opt_bind e
        obtain ⟨a3, q3, e⟩ := opt_bind e
        obtain ⟨a4, q4, e⟩ := opt_bind e
        cases e
        (try simp only [forall_const, reduceCtorEq, false_implies, implies_true, Bool.false_eq_true, Dv.tup.injEq, dnR_noX, dnS_toS, dnSL_cons, dnSL_nil, dn_par, dn_par3, dn_asg, dn_setlc, dn_exp, dn_ret, dn_iff, dn_aug, dn_forr, dn_whl, dn_brk, dn_cnt, dn_retn, start, wipeS, glLen, most, tyIs, Option.map_some, Option.bind_some, Option.some.injEq, List.map_cons, List.map_nil, List.cons_append, List.nil_append, List.length_cons, List.length_nil, List.reduceReplicate, List.getElem?_cons_zero, List.getElem?_cons_succ, List.set_cons_zero, List.set_cons_succ, Nat.reduceAdd, Nat.reduceSub, Nat.reduceLeDiff, decide_true, decide_false, if_true, Bool.true_and, Bool.and_true, Dv.bl.injEq, Dv.int.injEq, exists_eq_left, exists_eq_left', true_and, and_true, Bool.and_self, Bool.not_true, Bool.not_false, eq_self, ↓reduceIte, List.isEmpty_cons, Nat.zero_add, and_self, true_implies, decide_eq_true_eq, decide_eq_false_iff_not, dnE_var, dnE_gint, dnE_int, dnE_str, dnE_bl, dnE_non, dnE_tup, dnE_lst, dnE_bin, dnE_cmp, dnE_chain, dnE_not, dnE_neg, dnE_and, dnE_or, dnA_one, dnA_cons, dnO_one, dnO_cons, dnE_ife, dnE_ix, dnE_sl, dnS_slT, dnE_call, dnE_bi, dnE_bm, dnE_isi, dnE_dnew, dnE_disp, dnE_lc, dnE_lcStp, dnF_nil, dnF_cons, dnL_nil, dnL_cons, dnV_none, dnV_some, dnI_seq, dnI_rng1, dnI_rng2, dnI_enum, dnG_name, dnG_tup, dnG_sub, dnGL_nil, dnGL_cons, dnB_len_t, dnB_set0, dnB_int, ixs_t, src_t, cop_lt, cop_le, cop_gt, cop_ge, cop_eq, cop_ne, bop_add, bop_sub, bop_mul, bop_mod, bop_fdiv, bop_addT, bop_mulT, iT, at0_map, q1, q2, q3, q4])
        refine ⟨fun z => ?_, fun z => ?_⟩
        · rw [if_neg (by simpa using z)]
          exact ⟨rfl, o⟩
        · rw [if_pos (by simpa using z)]
          exact ⟨rfl, o⟩
      intro h3 o
      (try simp only [forall_const, reduceCtorEq, false_implies, implies_true, Bool.false_eq_true, Dv.tup.injEq, dnR_noX, dnS_toS, dnSL_cons, dnSL_nil, dn_par, dn_par3, dn_asg, dn_setlc, dn_exp, dn_ret, dn_iff, dn_aug, dn_forr, dn_whl, dn_brk, dn_cnt, dn_retn, start, wipeS, glLen, most, tyIs, Option.map_some, Option.bind_some, Option.some.injEq, List.map_cons, List.map_nil, List.cons_append, List.nil_append, List.length_cons, List.length_nil, List.reduceReplicate, List.getElem?_cons_zero, List.getElem?_cons_succ, List.set_cons_zero, List.set_cons_succ, Nat.reduceAdd, Nat.reduceSub, Nat.reduceLeDiff, decide_true, decide_false, if_true, Bool.true_and, Bool.and_true, Dv.bl.injEq, Dv.int.injEq, exists_eq_left, exists_eq_left', true_and, and_true, Bool.and_self, Bool.not_true, Bool.not_false, eq_self, ↓reduceIte, List.isEmpty_cons, Nat.zero_add, and_self, true_implies, decide_eq_true_eq, decide_eq_false_iff_not, dnE_var, dnE_gint, dnE_int, dnE_str, dnE_bl, dnE_non, dnE_tup, dnE_lst, dnE_bin, dnE_cmp, dnE_chain, dnE_not, dnE_neg, dnE_and, dnE_or, dnA_one, dnA_cons, dnO_one, dnO_cons, dnE_ife, dnE_ix, dnE_sl, dnS_slT, dnE_call, dnE_bi, dnE_bm, dnE_isi, dnE_dnew, dnE_disp, dnE_lc, dnE_lcStp, dnF_nil, dnF_cons, dnL_nil, dnL_cons, dnV_none, dnV_some, dnI_seq, dnI_rng1, dnI_rng2, dnI_enum, dnG_name, dnG_tup, dnG_sub, dnGL_nil, dnGL_cons, dnB_len_t, dnB_set0, dnB_int, ixs_t, src_t, cop_lt, cop_le, cop_gt, cop_ge, cop_eq, cop_ne, bop_add, bop_sub, bop_mul, bop_mod, bop_fdiv, bop_addT, bop_mulT, cop_ne_fr])
      have o := (o.garb [.lst (bs.map .int)]).garb [.lst []]
      generalize h3 ++ [Ob.lst (List.map Dv.int bs)] ++ [.lst []] = h4 at o ⊢
      refine ⟨fun hb => ?_, fun hb => ?_⟩
      · rw [if_pos hb] at e
        cases e
        exact ⟨_, _, _, _, _, rfl, o⟩
      rw [if_neg (by rw [hb]; decide)] at e
      (try simp only [forall_const, reduceCtorEq, false_implies, implies_true, Bool.false_eq_true, Dv.tup.injEq, dnR_noX, dnS_toS, dnSL_cons, dnSL_nil, dn_par, dn_par3, dn_asg, dn_setlc, dn_exp, dn_ret, dn_iff, dn_aug, dn_forr, dn_whl, dn_brk, dn_cnt, dn_retn, start, wipeS, glLen, most, tyIs, Option.map_some, Option.bind_some, Option.some.injEq, List.map_cons, List.map_nil, List.cons_append, List.nil_append, List.length_cons, List.length_nil, List.reduceReplicate, List.getElem?_cons_zero, List.getElem?_cons_succ, List.set_cons_zero, List.set_cons_succ, Nat.reduceAdd, Nat.reduceSub, Nat.reduceLeDiff, decide_true, decide_false, if_true, Bool.true_and, Bool.and_true, Dv.bl.injEq, Dv.int.injEq, exists_eq_left, exists_eq_left', true_and, and_true, Bool.and_self, Bool.not_true, Bool.not_false, eq_self, ↓reduceIte, List.isEmpty_cons, Nat.zero_add, and_self, true_implies, decide_eq_true_eq, decide_eq_false_iff_not, dnE_var, dnE_gint, dnE_int, dnE_str, dnE_bl, dnE_non, dnE_tup, dnE_lst, dnE_bin, dnE_cmp, dnE_chain, dnE_not, dnE_neg, dnE_and, dnE_or, dnA_one, dnA_cons, dnO_one, dnO_cons, dnE_ife, dnE_ix, dnE_sl, dnS_slT, dnE_call, dnE_bi, dnE_bm, dnE_isi, dnE_dnew, dnE_disp, dnE_lc, dnE_lcStp, dnF_nil, dnF_cons, dnL_nil, dnL_cons, dnV_none, dnV_some, dnI_seq, dnI_rng1, dnI_rng2, dnI_enum, dnG_name, dnG_tup, dnG_sub, dnGL_nil, dnGL_cons, dnB_len_t, dnB_set0, dnB_int, ixs_t, src_t, cop_lt, cop_le, cop_gt, cop_ge, cop_eq, cop_ne, bop_add, bop_sub, bop_mul, bop_mod, bop_fdiv, bop_addT, bop_mulT, src_l (o.at_ 1 rfl)])
      refine forL_sim iT ways (fun (s : List (List (List Int))) σ h1 => ∃ z w u v, σ = [some (.int count), some (.ref a), some (.ref d), some (iT (List.replicate count 1)), some (iT s0), some (iT s2), z, w, u, v] ∧ Own h h1 [(d, .lst (s.map pT)), (a, .lst (ways.map iT))]) _ ?_ ?_ e ⟨_, _, _, _, rfl, o⟩ (by omega) ?_
      · rintro s σ h1 ⟨z, w, u, v, rfl, o⟩
        exact seq_l (o.at_ 1 rfl)
      · rintro s t σ h1 s1 _ ⟨z, w, u, v, rfl, o⟩ e
        unfold lf1 at e
        obtain ⟨wk, q1, e⟩ := opt_bind e
        (try simp only [forall_const, reduceCtorEq, false_implies, implies_true, Bool.false_eq_true, Dv.tup.injEq, dnR_noX, dnS_toS, dnSL_cons, dnSL_nil, dn_par, dn_par3, dn_asg, dn_setlc, dn_exp, dn_ret, dn_iff, dn_aug, dn_forr, dn_whl, dn_brk, dn_cnt, dn_retn, start, wipeS, glLen, most, tyIs, Option.map_some, Option.bind_some, Option.some.injEq, List.map_cons, List.map_nil, List.cons_append, List.nil_append, List.length_cons, List.length_nil, List.reduceReplicate, List.getElem?_cons_zero, List.getElem?_cons_succ, List.set_cons_zero, List.set_cons_succ, Nat.reduceAdd, Nat.reduceSub, Nat.reduceLeDiff, decide_true, decide_false, if_true, Bool.true_and, Bool.and_true, Dv.bl.injEq, Dv.int.injEq, exists_eq_left, exists_eq_left', true_and, and_true, Bool.and_self, Bool.not_true, Bool.not_false, eq_self, ↓reduceIte, List.isEmpty_cons, Nat.zero_add, and_self, true_implies, decide_eq_true_eq, decide_eq_false_iff_not, dnE_var, dnE_gint, dnE_int, dnE_str, dnE_bl, dnE_non, dnE_tup, dnE_lst, dnE_bin, dnE_cmp, dnE_chain, dnE_not, dnE_neg, dnE_and, dnE_or, dnA_one, dnA_cons, dnO_one, dnO_cons, dnE_ife, dnE_ix, dnE_sl, dnS_slT, dnE_call, dnE_bi, dnE_bm, dnE_isi, dnE_dnew, dnE_disp, dnE_lc, dnE_lcStp, dnF_nil, dnF_cons, dnL_nil, dnL_cons, dnV_none, dnV_some, dnI_seq, dnI_rng1, dnI_rng2, dnI_enum, dnG_name, dnG_tup, dnG_sub, dnGL_nil, dnGL_cons, dnB_len_t, dnB_set0, dnB_int, ixs_t, src_t, cop_lt, cop_le, cop_gt, cop_ge, cop_eq, cop_ne, bop_add, bop_sub, bop_mul, bop_mod, bop_fdiv, bop_addT, bop_mulT])
        refine dnR.imp (lwalk_ok (p := [s0, s1, s2, List.replicate count 1, List.replicate count 1]) hw q1) ?_
        rintro _ h5 ⟨c, rfl, o5⟩
        (try simp only [forall_const, reduceCtorEq, false_implies, implies_true, Bool.false_eq_true, Dv.tup.injEq, dnR_noX, dnS_toS, dnSL_cons, dnSL_nil, dn_par, dn_par3, dn_asg, dn_setlc, dn_exp, dn_ret, dn_iff, dn_aug, dn_forr, dn_whl, dn_brk, dn_cnt, dn_retn, start, wipeS, glLen, most, tyIs, Option.map_some, Option.bind_some, Option.some.injEq, List.map_cons, List.map_nil, List.cons_append, List.nil_append, List.length_cons, List.length_nil, List.reduceReplicate, List.getElem?_cons_zero, List.getElem?_cons_succ, List.set_cons_zero, List.set_cons_succ, Nat.reduceAdd, Nat.reduceSub, Nat.reduceLeDiff, decide_true, decide_false, if_true, Bool.true_and, Bool.and_true, Dv.bl.injEq, Dv.int.injEq, exists_eq_left, exists_eq_left', true_and, and_true, Bool.and_self, Bool.not_true, Bool.not_false, eq_self, ↓reduceIte, List.isEmpty_cons, Nat.zero_add, and_self, true_implies, decide_eq_true_eq, decide_eq_false_iff_not, dnE_var, dnE_gint, dnE_int, dnE_str, dnE_bl, dnE_non, dnE_tup, dnE_lst, dnE_bin, dnE_cmp, dnE_chain, dnE_not, dnE_neg, dnE_and, dnE_or, dnA_one, dnA_cons, dnO_one, dnO_cons, dnE_ife, dnE_ix, dnE_sl, dnS_slT, dnE_call, dnE_bi, dnE_bm, dnE_isi, dnE_dnew, dnE_disp, dnE_lc, dnE_lcStp, dnF_nil, dnF_cons, dnL_nil, dnL_cons, dnV_none, dnV_some, dnI_seq, dnI_rng1, dnI_rng2, dnI_enum, dnG_name, dnG_tup, dnG_sub, dnGL_nil, dnGL_cons, dnB_len_t, dnB_set0, dnB_int, ixs_t, src_t, cop_lt, cop_le, cop_gt, cop_ge, cop_eq, cop_ne, bop_add, bop_sub, bop_mul, bop_mod, bop_fdiv, bop_addT, bop_mulT, dnB_len_l (o5.at_ 0 rfl), List.length_map])
        have o := o.ext o5.pre
        refine ⟨fun hb => ?_, fun hb => ?_⟩
        · rw [if_pos (by omega)] at e
          obtain ⟨l, q2, e⟩ := opt_bind e
          split at e
          case isFalse => cases e
          rename_i hl4
          cases e
          refine dnR.imp (lleast_ok (p := [s0, s1, s2, List.replicate count 1, List.replicate count 1]) hw q2) ?_
          rintro _ h6 ⟨rfl, o6⟩
          have o := o.ext o6
          have hm := cop_nmem_pT (p := l.take 3) (o.at_ 0 rfl)
          simp only [pT] at hm ⊢
          (try simp only [forall_const, reduceCtorEq, false_implies, implies_true, Bool.false_eq_true, Dv.tup.injEq, dnR_noX, dnS_toS, dnSL_cons, dnSL_nil, dn_par, dn_par3, dn_asg, dn_setlc, dn_exp, dn_ret, dn_iff, dn_aug, dn_forr, dn_whl, dn_brk, dn_cnt, dn_retn, start, wipeS, glLen, most, tyIs, Option.map_some, Option.bind_some, Option.some.injEq, List.map_cons, List.map_nil, List.cons_append, List.nil_append, List.length_cons, List.length_nil, List.reduceReplicate, List.getElem?_cons_zero, List.getElem?_cons_succ, List.set_cons_zero, List.set_cons_succ, Nat.reduceAdd, Nat.reduceSub, Nat.reduceLeDiff, decide_true, decide_false, if_true, Bool.true_and, Bool.and_true, Dv.bl.injEq, Dv.int.injEq, exists_eq_left, exists_eq_left', true_and, and_true, Bool.and_self, Bool.not_true, Bool.not_false, eq_self, ↓reduceIte, List.isEmpty_cons, Nat.zero_add, and_self, true_implies, decide_eq_true_eq, decide_eq_false_iff_not, dnE_var, dnE_gint, dnE_int, dnE_str, dnE_bl, dnE_non, dnE_tup, dnE_lst, dnE_bin, dnE_cmp, dnE_chain, dnE_not, dnE_neg, dnE_and, dnE_or, dnA_one, dnA_cons, dnO_one, dnO_cons, dnE_ife, dnE_ix, dnE_sl, dnS_slT, dnE_call, dnE_bi, dnE_bm, dnE_isi, dnE_dnew, dnE_disp, dnE_lc, dnE_lcStp, dnF_nil, dnF_cons, dnL_nil, dnL_cons, dnV_none, dnV_some, dnI_seq, dnI_rng1, dnI_rng2, dnI_enum, dnG_name, dnG_tup, dnG_sub, dnGL_nil, dnGL_cons, dnB_len_t, dnB_set0, dnB_int, ixs_t, src_t, cop_lt, cop_le, cop_gt, cop_ge, cop_eq, cop_ne, bop_add, bop_sub, bop_mul, bop_mod, bop_fdiv, bop_addT, bop_mulT, cut_take3, hm])
          refine ⟨fun z => ?_, fun z => ?_⟩
          · rw [if_neg (by simpa using z)]
            (try simp only [forall_const, reduceCtorEq, false_implies, implies_true, Bool.false_eq_true, Dv.tup.injEq, dnR_noX, dnS_toS, dnSL_cons, dnSL_nil, dn_par, dn_par3, dn_asg, dn_setlc, dn_exp, dn_ret, dn_iff, dn_aug, dn_forr, dn_whl, dn_brk, dn_cnt, dn_retn, start, wipeS, glLen, most, tyIs, Option.map_some, Option.bind_some, Option.some.injEq, List.map_cons, List.map_nil, List.cons_append, List.nil_append, List.length_cons, List.length_nil, List.reduceReplicate, List.getElem?_cons_zero, List.getElem?_cons_succ, List.set_cons_zero, List.set_cons_succ, Nat.reduceAdd, Nat.reduceSub, Nat.reduceLeDiff, decide_true, decide_false, if_true, Bool.true_and, Bool.and_true, Dv.bl.injEq, Dv.int.injEq, exists_eq_left, exists_eq_left', true_and, and_true, Bool.and_self, Bool.not_true, Bool.not_false, eq_self, ↓reduceIte, List.isEmpty_cons, Nat.zero_add, and_self, true_implies, decide_eq_true_eq, decide_eq_false_iff_not, dnE_var, dnE_gint, dnE_int, dnE_str, dnE_bl, dnE_non, dnE_tup, dnE_lst, dnE_bin, dnE_cmp, dnE_chain, dnE_not, dnE_neg, dnE_and, dnE_or, dnA_one, dnA_cons, dnO_one, dnO_cons, dnE_ife, dnE_ix, dnE_sl, dnS_slT, dnE_call, dnE_bi, dnE_bm, dnE_isi, dnE_dnew, dnE_disp, dnE_lc, dnE_lcStp, dnF_nil, dnF_cons, dnL_nil, dnL_cons, dnV_none, dnV_some, dnI_seq, dnI_rng1, dnI_rng2, dnI_enum, dnG_name, dnG_tup, dnG_sub, dnGL_nil, dnGL_cons, dnB_len_t, dnB_set0, dnB_int, ixs_t, src_t, cop_lt, cop_le, cop_gt, cop_ge, cop_eq, cop_ne, bop_add, bop_sub, bop_mul, bop_mod, bop_fdiv, bop_addT, bop_mulT, dnK_append (o.at_ 0 rfl), dnM_append (o.at_ 0 rfl), List.length_map])
            refine ⟨by omega, _, _, _, _, rfl, ?_⟩
            rw [List.map_append]
            exact o.set 0 rfl (.lst (s.map pT ++ [pT (l.take 3)]))
          · rw [if_pos (by simpa using z)]
            exact ⟨_, _, _, _, rfl, o⟩
        · rw [if_neg (by omega)] at e
          cases e
          exact ⟨_, _, _, _, rfl, o⟩
      · rintro σ h1 ⟨z, w, u, v, rfl, o⟩
        exact ⟨_, _, _, _, _, rfl, o⟩
    · rintro σ h1 ⟨y, z, w, u, v, rfl, o⟩
      exact ⟨_, _, _, _, _, _, rfl, o⟩
  · rintro σ h1 ⟨x, y, z, w, u, v, rfl, o⟩
    (try simp only [forall_const, reduceCtorEq, false_implies, implies_true, Bool.false_eq_true, Dv.tup.injEq, dnR_noX, dnS_toS, dnSL_cons, dnSL_nil, dn_par, dn_par3, dn_asg, dn_setlc, dn_exp, dn_ret, dn_iff, dn_aug, dn_forr, dn_whl, dn_brk, dn_cnt, dn_retn, start, wipeS, glLen, most, tyIs, Option.map_some, Option.bind_some, Option.some.injEq, List.map_cons, List.map_nil, List.cons_append, List.nil_append, List.length_cons, List.length_nil, List.reduceReplicate, List.getElem?_cons_zero, List.getElem?_cons_succ, List.set_cons_zero, List.set_cons_succ, Nat.reduceAdd, Nat.reduceSub, Nat.reduceLeDiff, decide_true, decide_false, if_true, Bool.true_and, Bool.and_true, Dv.bl.injEq, Dv.int.injEq, exists_eq_left, exists_eq_left', true_and, and_true, Bool.and_self, Bool.not_true, Bool.not_false, eq_self, ↓reduceIte, List.isEmpty_cons, Nat.zero_add, and_self, true_implies, decide_eq_true_eq, decide_eq_false_iff_not, dnE_var, dnE_gint, dnE_int, dnE_str, dnE_bl, dnE_non, dnE_tup, dnE_lst, dnE_bin, dnE_cmp, dnE_chain, dnE_not, dnE_neg, dnE_and, dnE_or, dnA_one, dnA_cons, dnO_one, dnO_cons, dnE_ife, dnE_ix, dnE_sl, dnS_slT, dnE_call, dnE_bi, dnE_bm, dnE_isi, dnE_dnew, dnE_disp, dnE_lc, dnE_lcStp, dnF_nil, dnF_cons, dnL_nil, dnL_cons, dnV_none, dnV_some, dnI_seq, dnI_rng1, dnI_rng2, dnI_enum, dnG_name, dnG_tup, dnG_sub, dnGL_nil, dnGL_cons, dnB_len_t, dnB_set0, dnB_int, ixs_t, src_t, cop_lt, cop_le, cop_gt, cop_ge, cop_eq, cop_ne, bop_add, bop_sub, bop_mul, bop_mod, bop_fdiv, bop_addT, bop_mulT, dnB_sorted_lP (o.at_ 0 rfl) hl2.1 (by omega), dnB_tuple_fr])
    exact (o.garb _).pre
end
end FF
end

section
set_option Elab.async false
set_option linter.all false
set_option maxRecDepth 100000
set_option maxHeartbeats 4000000
/-! PL12: the law's look at a pattern. -/
namespace FF
open PySem

theorem dnE_lrg1 {F : Fx} {σ : Sg} {h : Hh} {Q : Dv → Hh → Prop} {e : E} {fp rp q p : Pq} : dnR (evE F (.lrg (.cons e .nil) fp rp q p) σ h) Q = dnR (evE F e σ h) fun v h1 => ∃ n, v = .int n ∧ (decide (n ≤ most) && intOk n) = true ∧ Q (.ref h1.length) (h1 ++ [.lst ((List.range n.toNat).map fun (i : Nat) => Dv.int (i : Int))]) := by
  simp only [evE, evL, dnR_bind, dnR_ok]
  congr 1
  funext x h1
  cases x with
  | int i => by_cases hc : i ≤ most ∧ intOk i = true <;> simp [hc]
  | _ => simp
theorem unit_fold {β : Type} (ys : List β) : ys.foldlM (fun (_ : Unit) (_ : β) => some ()) () = some () := by
  induction ys with
  | nil => rfl
  | cons y r ih => exact ih
theorem mapO_none {β γ : Type} (ys : List β) : mapO (fun _ : β => some (none : Option γ)) ys = some [] := by
  induction ys with
  | nil => rfl
  | cons y r ih => simp only [mapO, ih]
theorem cop_ne_fr0 {h : Hh} : cop .ne (.ref h.length) (.ref (h ++ [Ob.lst []]).length) (h ++ [Ob.lst []] ++ [Ob.lst []]) = some false := cop_ne_fr (is := [])
theorem at0_c0 {x : Dv} {r : List Dv} : at0 (x :: r) 0 = some x := by simp [at0, ixA]
/-! round -/
def lroundM (one other : List Int) (flag : Int) : Option Int :=
  (gA one flag).bind fun a => (gA other a).bind fun place => if one.length < 1000 then
    (foldR (fun (s : Int × Int) (_ : Nat) => if s.1 = flag then some (.inr s.2) else (gA one s.1).bind fun x => (gA other x).bind fun y => some (.inl (y, s.2 + 1))) (List.range one.length) (place, 1)).map (fun t => match t with
      | .inl s => s.2
      | .inr v => v) else none
section
variable {wf : Nat} (hw : 2000 ≤ wf)
include hw
theorem lround_ok {n : Nat} {h : Hh} {one other : List Int} {flag : Int} {r : Int} (e : lroundM one other flag = some r) : dnR (callN Lw.T wf (n + 1) 11 [iT one, iT other, .int flag] h) fun v h' => v = .int r ∧ h <+: h' := by
  refine call_ir rfl rfl ?_
  unfold lroundM at e
  obtain ⟨a, e1, e⟩ := opt_bind e
  obtain ⟨place, e2, e⟩ := opt_bind e
  split at e
  case isFalse => cases e
  rename_i hl
  obtain ⟨t, e3, e⟩ := Option.map_eq_some_iff.mp e
  simp only [iT]
  (try simp only [forall_const, reduceCtorEq, false_implies, implies_true, Bool.false_eq_true, Dv.tup.injEq, dnR_noX, dnS_toS, dnSL_cons, dnSL_nil, dn_par, dn_par3, dn_asg, dn_setlc, dn_exp, dn_ret, dn_iff, dn_aug, dn_forr, dn_whl, dn_brk, dn_cnt, dn_retn, start, wipeS, glLen, most, tyIs, Option.map_some, Option.bind_some, Option.some.injEq, List.map_cons, List.map_nil, List.cons_append, List.nil_append, List.length_cons, List.length_nil, List.reduceReplicate, List.getElem?_cons_zero, List.getElem?_cons_succ, List.set_cons_zero, List.set_cons_succ, Nat.reduceAdd, Nat.reduceSub, Nat.reduceLeDiff, decide_true, decide_false, if_true, Bool.true_and, Bool.and_true, Dv.bl.injEq, Dv.int.injEq, exists_eq_left, exists_eq_left', true_and, and_true, Bool.and_self, Bool.not_true, Bool.not_false, eq_self, ↓reduceIte, List.isEmpty_cons, Nat.zero_add, and_self, true_implies, decide_eq_true_eq, decide_eq_false_iff_not, dnE_var, dnE_gint, dnE_int, dnE_str, dnE_bl, dnE_non, dnE_tup, dnE_lst, dnE_bin, dnE_cmp, dnE_chain, dnE_not, dnE_neg, dnE_and, dnE_or, dnA_one, dnA_cons, dnO_one, dnO_cons, dnE_ife, dnE_ix, dnE_sl, dnS_slT, dnE_call, dnE_bi, dnE_bm, dnE_isi, dnE_dnew, dnE_disp, dnE_lc, dnE_lcStp, dnF_nil, dnF_cons, dnL_nil, dnL_cons, dnV_none, dnV_some, dnI_seq, dnI_rng1, dnI_rng2, dnI_enum, dnG_name, dnG_tup, dnG_sub, dnGL_nil, dnGL_cons, dnB_len_t, dnB_set0, dnB_int, ixs_t, src_t, cop_lt, cop_le, cop_gt, cop_ge, cop_eq, cop_ne, bop_add, bop_sub, bop_mul, bop_mod, bop_fdiv, bop_addT, bop_mulT, Lw.ir__law_round, at0_map, e1, e2, List.length_map])
  refine ⟨intOk_nat hl, ?_⟩
  rw [Int.toNat_natCast]
  refine forL_simR (fun i : Nat => Dv.int (i : Int)) (List.range one.length) (fun (s : Int × Int) σ h1 => ∃ x, σ = [some (iT one), some (iT other), some (.int flag), some (.int s.1), some (.int s.2), x] ∧ h = h1) (fun (r : Int) v h1 => v = .int r ∧ h = h1) _ ?_ ?_ e3 ⟨_, rfl, rfl⟩ (by rw [List.length_range]; omega) ?_ ?_
  · exact fun s σ h1 _ => rng_list _ _
  · rintro ⟨p, c⟩ s' σ h1 k _ ⟨x, rfl, rfl⟩ e
    simp only [iT]
    (try simp only [forall_const, reduceCtorEq, false_implies, implies_true, Bool.false_eq_true, Dv.tup.injEq, dnR_noX, dnS_toS, dnSL_cons, dnSL_nil, dn_par, dn_par3, dn_asg, dn_setlc, dn_exp, dn_ret, dn_iff, dn_aug, dn_forr, dn_whl, dn_brk, dn_cnt, dn_retn, start, wipeS, glLen, most, tyIs, Option.map_some, Option.bind_some, Option.some.injEq, List.map_cons, List.map_nil, List.cons_append, List.nil_append, List.length_cons, List.length_nil, List.reduceReplicate, List.getElem?_cons_zero, List.getElem?_cons_succ, List.set_cons_zero, List.set_cons_succ, Nat.reduceAdd, Nat.reduceSub, Nat.reduceLeDiff, decide_true, decide_false, if_true, Bool.true_and, Bool.and_true, Dv.bl.injEq, Dv.int.injEq, exists_eq_left, exists_eq_left', true_and, and_true, Bool.and_self, Bool.not_true, Bool.not_false, eq_self, ↓reduceIte, List.isEmpty_cons, Nat.zero_add, and_self, true_implies, decide_eq_true_eq, decide_eq_false_iff_not, dnE_var, dnE_gint, dnE_int, dnE_str, dnE_bl, dnE_non, dnE_tup, dnE_lst, dnE_bin, dnE_cmp, dnE_chain, dnE_not, dnE_neg, dnE_and, dnE_or, dnA_one, dnA_cons, dnO_one, dnO_cons, dnE_ife, dnE_ix, dnE_sl, dnS_slT, dnE_call, dnE_bi, dnE_bm, dnE_isi, dnE_dnew, dnE_disp, dnE_lc, dnE_lcStp, dnF_nil, dnF_cons, dnL_nil, dnL_cons, dnV_none, dnV_some, dnI_seq, dnI_rng1, dnI_rng2, dnI_enum, dnG_name, dnG_tup, dnG_sub, dnGL_nil, dnGL_cons, dnB_len_t, dnB_set0, dnB_int, ixs_t, src_t, cop_lt, cop_le, cop_gt, cop_ge, cop_eq, cop_ne, bop_add, bop_sub, bop_mul, bop_mod, bop_fdiv, bop_addT, bop_mulT])
    simp only at e
    refine ⟨fun z => ?_, fun z => ?_⟩
    · rw [if_pos z] at e
      cases e
      exact ⟨_, rfl, rfl⟩
    · rw [if_neg z] at e
      obtain ⟨u, q1, e⟩ := opt_bind e
      obtain ⟨v, q2, e⟩ := opt_bind e
      cases e
      (try simp only [forall_const, reduceCtorEq, false_implies, implies_true, Bool.false_eq_true, Dv.tup.injEq, dnR_noX, dnS_toS, dnSL_cons, dnSL_nil, dn_par, dn_par3, dn_asg, dn_setlc, dn_exp, dn_ret, dn_iff, dn_aug, dn_forr, dn_whl, dn_brk, dn_cnt, dn_retn, start, wipeS, glLen, most, tyIs, Option.map_some, Option.bind_some, Option.some.injEq, List.map_cons, List.map_nil, List.cons_append, List.nil_append, List.length_cons, List.length_nil, List.reduceReplicate, List.getElem?_cons_zero, List.getElem?_cons_succ, List.set_cons_zero, List.set_cons_succ, Nat.reduceAdd, Nat.reduceSub, Nat.reduceLeDiff, decide_true, decide_false, if_true, Bool.true_and, Bool.and_true, Dv.bl.injEq, Dv.int.injEq, exists_eq_left, exists_eq_left', true_and, and_true, Bool.and_self, Bool.not_true, Bool.not_false, eq_self, ↓reduceIte, List.isEmpty_cons, Nat.zero_add, and_self, true_implies, decide_eq_true_eq, decide_eq_false_iff_not, dnE_var, dnE_gint, dnE_int, dnE_str, dnE_bl, dnE_non, dnE_tup, dnE_lst, dnE_bin, dnE_cmp, dnE_chain, dnE_not, dnE_neg, dnE_and, dnE_or, dnA_one, dnA_cons, dnO_one, dnO_cons, dnE_ife, dnE_ix, dnE_sl, dnS_slT, dnE_call, dnE_bi, dnE_bm, dnE_isi, dnE_dnew, dnE_disp, dnE_lc, dnE_lcStp, dnF_nil, dnF_cons, dnL_nil, dnL_cons, dnV_none, dnV_some, dnI_seq, dnI_rng1, dnI_rng2, dnI_enum, dnG_name, dnG_tup, dnG_sub, dnGL_nil, dnGL_cons, dnB_len_t, dnB_set0, dnB_int, ixs_t, src_t, cop_lt, cop_le, cop_gt, cop_ge, cop_eq, cop_ne, bop_add, bop_sub, bop_mul, bop_mod, bop_fdiv, bop_addT, bop_mulT, at0_map, q1, q2])
      exact ⟨_, rfl, _, rfl⟩
  · rintro t σ h1 rfl ⟨x, rfl, rfl⟩
    cases e
    (try simp only [forall_const, reduceCtorEq, false_implies, implies_true, Bool.false_eq_true, Dv.tup.injEq, dnR_noX, dnS_toS, dnSL_cons, dnSL_nil, dn_par, dn_par3, dn_asg, dn_setlc, dn_exp, dn_ret, dn_iff, dn_aug, dn_forr, dn_whl, dn_brk, dn_cnt, dn_retn, start, wipeS, glLen, most, tyIs, Option.map_some, Option.bind_some, Option.some.injEq, List.map_cons, List.map_nil, List.cons_append, List.nil_append, List.length_cons, List.length_nil, List.reduceReplicate, List.getElem?_cons_zero, List.getElem?_cons_succ, List.set_cons_zero, List.set_cons_succ, Nat.reduceAdd, Nat.reduceSub, Nat.reduceLeDiff, decide_true, decide_false, if_true, Bool.true_and, Bool.and_true, Dv.bl.injEq, Dv.int.injEq, exists_eq_left, exists_eq_left', true_and, and_true, Bool.and_self, Bool.not_true, Bool.not_false, eq_self, ↓reduceIte, List.isEmpty_cons, Nat.zero_add, and_self, true_implies, decide_eq_true_eq, decide_eq_false_iff_not, dnE_var, dnE_gint, dnE_int, dnE_str, dnE_bl, dnE_non, dnE_tup, dnE_lst, dnE_bin, dnE_cmp, dnE_chain, dnE_not, dnE_neg, dnE_and, dnE_or, dnA_one, dnA_cons, dnO_one, dnO_cons, dnE_ife, dnE_ix, dnE_sl, dnS_slT, dnE_call, dnE_bi, dnE_bm, dnE_isi, dnE_dnew, dnE_disp, dnE_lc, dnE_lcStp, dnF_nil, dnF_cons, dnL_nil, dnL_cons, dnV_none, dnV_some, dnI_seq, dnI_rng1, dnI_rng2, dnI_enum, dnG_name, dnG_tup, dnG_sub, dnGL_nil, dnGL_cons, dnB_len_t, dnB_set0, dnB_int, ixs_t, src_t, cop_lt, cop_le, cop_gt, cop_ge, cop_eq, cop_ne, bop_add, bop_sub, bop_mul, bop_mod, bop_fdiv, bop_addT, bop_mulT])
    exact List.prefix_refl _
  · rintro t v h1 rfl ⟨rfl, rfl⟩
    cases e
    exact ⟨rfl, List.prefix_refl _⟩
theorem lisnum_ok {n : Nat} {h : Hh} {i : Int} : dnR (callN Lw.T wf (n + 1) 12 [.int i] h) fun v h' => v = .bl true ∧ h = h' := by
  refine call_ir rfl rfl ?_
  (try simp only [forall_const, reduceCtorEq, false_implies, implies_true, Bool.false_eq_true, Dv.tup.injEq, dnR_noX, dnS_toS, dnSL_cons, dnSL_nil, dn_par, dn_par3, dn_asg, dn_setlc, dn_exp, dn_ret, dn_iff, dn_aug, dn_forr, dn_whl, dn_brk, dn_cnt, dn_retn, start, wipeS, glLen, most, tyIs, Option.map_some, Option.bind_some, Option.some.injEq, List.map_cons, List.map_nil, List.cons_append, List.nil_append, List.length_cons, List.length_nil, List.reduceReplicate, List.getElem?_cons_zero, List.getElem?_cons_succ, List.set_cons_zero, List.set_cons_succ, Nat.reduceAdd, Nat.reduceSub, Nat.reduceLeDiff, decide_true, decide_false, if_true, Bool.true_and, Bool.and_true, Dv.bl.injEq, Dv.int.injEq, exists_eq_left, exists_eq_left', true_and, and_true, Bool.and_self, Bool.not_true, Bool.not_false, eq_self, ↓reduceIte, List.isEmpty_cons, Nat.zero_add, and_self, true_implies, decide_eq_true_eq, decide_eq_false_iff_not, dnE_var, dnE_gint, dnE_int, dnE_str, dnE_bl, dnE_non, dnE_tup, dnE_lst, dnE_bin, dnE_cmp, dnE_chain, dnE_not, dnE_neg, dnE_and, dnE_or, dnA_one, dnA_cons, dnO_one, dnO_cons, dnE_ife, dnE_ix, dnE_sl, dnS_slT, dnE_call, dnE_bi, dnE_bm, dnE_isi, dnE_dnew, dnE_disp, dnE_lc, dnE_lcStp, dnF_nil, dnF_cons, dnL_nil, dnL_cons, dnV_none, dnV_some, dnI_seq, dnI_rng1, dnI_rng2, dnI_enum, dnG_name, dnG_tup, dnG_sub, dnGL_nil, dnGL_cons, dnB_len_t, dnB_set0, dnB_int, ixs_t, src_t, cop_lt, cop_le, cop_gt, cop_ge, cop_eq, cop_ne, bop_add, bop_sub, bop_mul, bop_mod, bop_fdiv, bop_addT, bop_mulT, Lw.ir__law_is_number])
theorem lisform_ok {n : Nat} {h : Hh} {s0 s1 s2 pp qq : List Int} {m : Nat} (hr : ∀ r ∈ [s0, s1, s2, pp, qq], r.length = m) (h1 : 1 ≤ m) (h2 : m ≤ 240) : dnR (callN Lw.T wf (n + 2) 13 [pT [s0, s1, s2, pp, qq]] h) fun v h' => v = .bl true ∧ h <+: h' := by
  refine call_ir rfl rfl ?_
  have h0 := hr s0 (by simp)
  (try simp only [forall_const, reduceCtorEq, false_implies, implies_true, Bool.false_eq_true, Dv.tup.injEq, dnR_noX, dnS_toS, dnSL_cons, dnSL_nil, dn_par, dn_par3, dn_asg, dn_setlc, dn_exp, dn_ret, dn_iff, dn_aug, dn_forr, dn_whl, dn_brk, dn_cnt, dn_retn, start, wipeS, glLen, most, tyIs, Option.map_some, Option.bind_some, Option.some.injEq, List.map_cons, List.map_nil, List.cons_append, List.nil_append, List.length_cons, List.length_nil, List.reduceReplicate, List.getElem?_cons_zero, List.getElem?_cons_succ, List.set_cons_zero, List.set_cons_succ, Nat.reduceAdd, Nat.reduceSub, Nat.reduceLeDiff, decide_true, decide_false, if_true, Bool.true_and, Bool.and_true, Dv.bl.injEq, Dv.int.injEq, exists_eq_left, exists_eq_left', true_and, and_true, Bool.and_self, Bool.not_true, Bool.not_false, eq_self, ↓reduceIte, List.isEmpty_cons, Nat.zero_add, and_self, true_implies, decide_eq_true_eq, decide_eq_false_iff_not, dnE_var, dnE_gint, dnE_int, dnE_str, dnE_bl, dnE_non, dnE_tup, dnE_lst, dnE_bin, dnE_cmp, dnE_chain, dnE_not, dnE_neg, dnE_and, dnE_or, dnA_one, dnA_cons, dnO_one, dnO_cons, dnE_ife, dnE_ix, dnE_sl, dnS_slT, dnE_call, dnE_bi, dnE_bm, dnE_isi, dnE_dnew, dnE_disp, dnE_lc, dnE_lcStp, dnF_nil, dnF_cons, dnL_nil, dnL_cons, dnV_none, dnV_some, dnI_seq, dnI_rng1, dnI_rng2, dnI_enum, dnG_name, dnG_tup, dnG_sub, dnGL_nil, dnGL_cons, dnB_len_t, dnB_set0, dnB_int, ixs_t, src_t, cop_lt, cop_le, cop_gt, cop_ge, cop_eq, cop_ne, bop_add, bop_sub, bop_mul, bop_mod, bop_fdiv, bop_addT, bop_mulT, Lw.ir__law_is_form, pT])
  refine ⟨fun z => by simp at z, fun _ => ?_⟩
  refine forL_sim iT [s0, s1, s2, pp, qq] (fun (s : Unit) σ h1 => ∃ y, σ = [some (pT [s0, s1, s2, pp, qq]), y, none] ∧ h = h1) (fun _ _ => some ()) ?_ ?_ (s0 := ()) (s1 := ()) (unit_fold _) ⟨_, rfl, rfl⟩ (by simp; omega) ?_
  · exact fun s σ h1 _ => rfl
  · rintro s s' σ h1 r hm ⟨y, rfl, rfl⟩ e
    have hx := hr r hm
    (try simp only [forall_const, reduceCtorEq, false_implies, implies_true, Bool.false_eq_true, Dv.tup.injEq, dnR_noX, dnS_toS, dnSL_cons, dnSL_nil, dn_par, dn_par3, dn_asg, dn_setlc, dn_exp, dn_ret, dn_iff, dn_aug, dn_forr, dn_whl, dn_brk, dn_cnt, dn_retn, start, wipeS, glLen, most, tyIs, Option.map_some, Option.bind_some, Option.some.injEq, List.map_cons, List.map_nil, List.cons_append, List.nil_append, List.length_cons, List.length_nil, List.reduceReplicate, List.getElem?_cons_zero, List.getElem?_cons_succ, List.set_cons_zero, List.set_cons_succ, Nat.reduceAdd, Nat.reduceSub, Nat.reduceLeDiff, decide_true, decide_false, if_true, Bool.true_and, Bool.and_true, Dv.bl.injEq, Dv.int.injEq, exists_eq_left, exists_eq_left', true_and, and_true, Bool.and_self, Bool.not_true, Bool.not_false, eq_self, ↓reduceIte, List.isEmpty_cons, Nat.zero_add, and_self, true_implies, decide_eq_true_eq, decide_eq_false_iff_not, dnE_var, dnE_gint, dnE_int, dnE_str, dnE_bl, dnE_non, dnE_tup, dnE_lst, dnE_bin, dnE_cmp, dnE_chain, dnE_not, dnE_neg, dnE_and, dnE_or, dnA_one, dnA_cons, dnO_one, dnO_cons, dnE_ife, dnE_ix, dnE_sl, dnS_slT, dnE_call, dnE_bi, dnE_bm, dnE_isi, dnE_dnew, dnE_disp, dnE_lc, dnE_lcStp, dnF_nil, dnF_cons, dnL_nil, dnL_cons, dnV_none, dnV_some, dnI_seq, dnI_rng1, dnI_rng2, dnI_enum, dnG_name, dnG_tup, dnG_sub, dnGL_nil, dnGL_cons, dnB_len_t, dnB_set0, dnB_int, ixs_t, src_t, cop_lt, cop_le, cop_gt, cop_ge, cop_eq, cop_ne, bop_add, bop_sub, bop_mul, bop_mod, bop_fdiv, bop_addT, bop_mulT, List.length_map, hx, iT])
    refine ⟨fun _ => ⟨fun z => ?_, fun _ => ⟨_, rfl⟩⟩, fun z => absurd z (by omega)⟩
    simp at z
    omega
  · rintro σ h1 ⟨y, rfl, rfl⟩
    (try simp only [forall_const, reduceCtorEq, false_implies, implies_true, Bool.false_eq_true, Dv.tup.injEq, dnR_noX, dnS_toS, dnSL_cons, dnSL_nil, dn_par, dn_par3, dn_asg, dn_setlc, dn_exp, dn_ret, dn_iff, dn_aug, dn_forr, dn_whl, dn_brk, dn_cnt, dn_retn, start, wipeS, glLen, most, tyIs, Option.map_some, Option.bind_some, Option.some.injEq, List.map_cons, List.map_nil, List.cons_append, List.nil_append, List.length_cons, List.length_nil, List.reduceReplicate, List.getElem?_cons_zero, List.getElem?_cons_succ, List.set_cons_zero, List.set_cons_succ, Nat.reduceAdd, Nat.reduceSub, Nat.reduceLeDiff, decide_true, decide_false, if_true, Bool.true_and, Bool.and_true, Dv.bl.injEq, Dv.int.injEq, exists_eq_left, exists_eq_left', true_and, and_true, Bool.and_self, Bool.not_true, Bool.not_false, eq_self, ↓reduceIte, List.isEmpty_cons, Nat.zero_add, and_self, true_implies, decide_eq_true_eq, decide_eq_false_iff_not, dnE_var, dnE_gint, dnE_int, dnE_str, dnE_bl, dnE_non, dnE_tup, dnE_lst, dnE_bin, dnE_cmp, dnE_chain, dnE_not, dnE_neg, dnE_and, dnE_or, dnA_one, dnA_cons, dnO_one, dnO_cons, dnE_ife, dnE_ix, dnE_sl, dnS_slT, dnE_call, dnE_bi, dnE_bm, dnE_isi, dnE_dnew, dnE_disp, dnE_lc, dnE_lcStp, dnF_nil, dnF_cons, dnL_nil, dnL_cons, dnV_none, dnV_some, dnI_seq, dnI_rng1, dnI_rng2, dnI_enum, dnG_name, dnG_tup, dnG_sub, dnGL_nil, dnGL_cons, dnB_len_t, dnB_set0, dnB_int, ixs_t, src_t, cop_lt, cop_le, cop_gt, cop_ge, cop_eq, cop_ne, bop_add, bop_sub, bop_mul, bop_mod, bop_fdiv, bop_addT, bop_mulT, pT])
    refine forL_sim iT [s0, s1, s2, pp, qq] (fun (s : Unit) σ h1 => ∃ y z, σ = [some (pT [s0, s1, s2, pp, qq]), y, z] ∧ h <+: h1) (fun _ _ => some ()) ?_ ?_ (s0 := ()) (s1 := ()) (unit_fold _) ⟨_, _, rfl, List.prefix_refl _⟩ (by simp; omega) ?_
    · exact fun s σ h1 _ => rfl
    · rintro s s' σ h1 r hm ⟨y, z, rfl, x0⟩ e
      have hx := hr r hm
      (try simp only [forall_const, reduceCtorEq, false_implies, implies_true, Bool.false_eq_true, Dv.tup.injEq, dnR_noX, dnS_toS, dnSL_cons, dnSL_nil, dn_par, dn_par3, dn_asg, dn_setlc, dn_exp, dn_ret, dn_iff, dn_aug, dn_forr, dn_whl, dn_brk, dn_cnt, dn_retn, start, wipeS, glLen, most, tyIs, Option.map_some, Option.bind_some, Option.some.injEq, List.map_cons, List.map_nil, List.cons_append, List.nil_append, List.length_cons, List.length_nil, List.reduceReplicate, List.getElem?_cons_zero, List.getElem?_cons_succ, List.set_cons_zero, List.set_cons_succ, Nat.reduceAdd, Nat.reduceSub, Nat.reduceLeDiff, decide_true, decide_false, if_true, Bool.true_and, Bool.and_true, Dv.bl.injEq, Dv.int.injEq, exists_eq_left, exists_eq_left', true_and, and_true, Bool.and_self, Bool.not_true, Bool.not_false, eq_self, ↓reduceIte, List.isEmpty_cons, Nat.zero_add, and_self, true_implies, decide_eq_true_eq, decide_eq_false_iff_not, dnE_var, dnE_gint, dnE_int, dnE_str, dnE_bl, dnE_non, dnE_tup, dnE_lst, dnE_bin, dnE_cmp, dnE_chain, dnE_not, dnE_neg, dnE_and, dnE_or, dnA_one, dnA_cons, dnO_one, dnO_cons, dnE_ife, dnE_ix, dnE_sl, dnS_slT, dnE_call, dnE_bi, dnE_bm, dnE_isi, dnE_dnew, dnE_disp, dnE_lc, dnE_lcStp, dnF_nil, dnF_cons, dnL_nil, dnL_cons, dnV_none, dnV_some, dnI_seq, dnI_rng1, dnI_rng2, dnI_enum, dnG_name, dnG_tup, dnG_sub, dnGL_nil, dnGL_cons, dnB_len_t, dnB_set0, dnB_int, ixs_t, src_t, cop_lt, cop_le, cop_gt, cop_ge, cop_eq, cop_ne, bop_add, bop_sub, bop_mul, bop_mod, bop_fdiv, bop_addT, bop_mulT, List.length_map, hx, h0, iT, pT, at0_c0])
      refine lcL_sim (Q := _) Dv.int Dv.int r (fun h2 => h <+: h2) (fun _ : Int => some none) (fun _ _ => rfl) ?_ (mapO_none _) x0 (by omega) (by unfold most; omega) ?_
      · rintro h2 i o _ x1 e
        cases e
        (try simp only [forall_const, reduceCtorEq, false_implies, implies_true, Bool.false_eq_true, Dv.tup.injEq, dnR_noX, dnS_toS, dnSL_cons, dnSL_nil, dn_par, dn_par3, dn_asg, dn_setlc, dn_exp, dn_ret, dn_iff, dn_aug, dn_forr, dn_whl, dn_brk, dn_cnt, dn_retn, start, wipeS, glLen, most, tyIs, Option.map_some, Option.bind_some, Option.some.injEq, List.map_cons, List.map_nil, List.cons_append, List.nil_append, List.length_cons, List.length_nil, List.reduceReplicate, List.getElem?_cons_zero, List.getElem?_cons_succ, List.set_cons_zero, List.set_cons_succ, Nat.reduceAdd, Nat.reduceSub, Nat.reduceLeDiff, decide_true, decide_false, if_true, Bool.true_and, Bool.and_true, Dv.bl.injEq, Dv.int.injEq, exists_eq_left, exists_eq_left', true_and, and_true, Bool.and_self, Bool.not_true, Bool.not_false, eq_self, ↓reduceIte, List.isEmpty_cons, Nat.zero_add, and_self, true_implies, decide_eq_true_eq, decide_eq_false_iff_not, dnE_var, dnE_gint, dnE_int, dnE_str, dnE_bl, dnE_non, dnE_tup, dnE_lst, dnE_bin, dnE_cmp, dnE_chain, dnE_not, dnE_neg, dnE_and, dnE_or, dnA_one, dnA_cons, dnO_one, dnO_cons, dnE_ife, dnE_ix, dnE_sl, dnS_slT, dnE_call, dnE_bi, dnE_bm, dnE_isi, dnE_dnew, dnE_disp, dnE_lc, dnE_lcStp, dnF_nil, dnF_cons, dnL_nil, dnL_cons, dnV_none, dnV_some, dnI_seq, dnI_rng1, dnI_rng2, dnI_enum, dnG_name, dnG_tup, dnG_sub, dnGL_nil, dnGL_cons, dnB_len_t, dnB_set0, dnB_int, ixs_t, src_t, cop_lt, cop_le, cop_gt, cop_ge, cop_eq, cop_ne, bop_add, bop_sub, bop_mul, bop_mod, bop_fdiv, bop_addT, bop_mulT])
        refine dnR.imp (lisnum_ok hw) ?_
        rintro _ h3 ⟨rfl, rfl⟩
        simp
        exact x1
      · intro h2 x1
        (try simp only [forall_const, reduceCtorEq, false_implies, implies_true, Bool.false_eq_true, Dv.tup.injEq, dnR_noX, dnS_toS, dnSL_cons, dnSL_nil, dn_par, dn_par3, dn_asg, dn_setlc, dn_exp, dn_ret, dn_iff, dn_aug, dn_forr, dn_whl, dn_brk, dn_cnt, dn_retn, start, wipeS, glLen, most, tyIs, Option.map_some, Option.bind_some, Option.some.injEq, List.map_cons, List.map_nil, List.cons_append, List.nil_append, List.length_cons, List.length_nil, List.reduceReplicate, List.getElem?_cons_zero, List.getElem?_cons_succ, List.set_cons_zero, List.set_cons_succ, Nat.reduceAdd, Nat.reduceSub, Nat.reduceLeDiff, decide_true, decide_false, if_true, Bool.true_and, Bool.and_true, Dv.bl.injEq, Dv.int.injEq, exists_eq_left, exists_eq_left', true_and, and_true, Bool.and_self, Bool.not_true, Bool.not_false, eq_self, ↓reduceIte, List.isEmpty_cons, Nat.zero_add, and_self, true_implies, decide_eq_true_eq, decide_eq_false_iff_not, dnE_var, dnE_gint, dnE_int, dnE_str, dnE_bl, dnE_non, dnE_tup, dnE_lst, dnE_bin, dnE_cmp, dnE_chain, dnE_not, dnE_neg, dnE_and, dnE_or, dnA_one, dnA_cons, dnO_one, dnO_cons, dnE_ife, dnE_ix, dnE_sl, dnS_slT, dnE_call, dnE_bi, dnE_bm, dnE_isi, dnE_dnew, dnE_disp, dnE_lc, dnE_lcStp, dnF_nil, dnF_cons, dnL_nil, dnL_cons, dnV_none, dnV_some, dnI_seq, dnI_rng1, dnI_rng2, dnI_enum, dnG_name, dnG_tup, dnG_sub, dnGL_nil, dnGL_cons, dnB_len_t, dnB_set0, dnB_int, ixs_t, src_t, cop_lt, cop_le, cop_gt, cop_ge, cop_eq, cop_ne, bop_add, bop_sub, bop_mul, bop_mod, bop_fdiv, bop_addT, bop_mulT, cop_ne_fr0])
        refine ⟨_, _, rfl, ?_⟩
        exact (x1.trans (List.prefix_append _ _)).trans (List.prefix_append _ _)
    · rintro σ h1 ⟨y, z, rfl, x0⟩
      (try simp only [forall_const, reduceCtorEq, false_implies, implies_true, Bool.false_eq_true, Dv.tup.injEq, dnR_noX, dnS_toS, dnSL_cons, dnSL_nil, dn_par, dn_par3, dn_asg, dn_setlc, dn_exp, dn_ret, dn_iff, dn_aug, dn_forr, dn_whl, dn_brk, dn_cnt, dn_retn, start, wipeS, glLen, most, tyIs, Option.map_some, Option.bind_some, Option.some.injEq, List.map_cons, List.map_nil, List.cons_append, List.nil_append, List.length_cons, List.length_nil, List.reduceReplicate, List.getElem?_cons_zero, List.getElem?_cons_succ, List.set_cons_zero, List.set_cons_succ, Nat.reduceAdd, Nat.reduceSub, Nat.reduceLeDiff, decide_true, decide_false, if_true, Bool.true_and, Bool.and_true, Dv.bl.injEq, Dv.int.injEq, exists_eq_left, exists_eq_left', true_and, and_true, Bool.and_self, Bool.not_true, Bool.not_false, eq_self, ↓reduceIte, List.isEmpty_cons, Nat.zero_add, and_self, true_implies, decide_eq_true_eq, decide_eq_false_iff_not, dnE_var, dnE_gint, dnE_int, dnE_str, dnE_bl, dnE_non, dnE_tup, dnE_lst, dnE_bin, dnE_cmp, dnE_chain, dnE_not, dnE_neg, dnE_and, dnE_or, dnA_one, dnA_cons, dnO_one, dnO_cons, dnE_ife, dnE_ix, dnE_sl, dnS_slT, dnE_call, dnE_bi, dnE_bm, dnE_isi, dnE_dnew, dnE_disp, dnE_lc, dnE_lcStp, dnF_nil, dnF_cons, dnL_nil, dnL_cons, dnV_none, dnV_some, dnI_seq, dnI_rng1, dnI_rng2, dnI_enum, dnG_name, dnG_tup, dnG_sub, dnGL_nil, dnGL_cons, dnB_len_t, dnB_set0, dnB_int, ixs_t, src_t, cop_lt, cop_le, cop_gt, cop_ge, cop_eq, cop_ne, bop_add, bop_sub, bop_mul, bop_mod, bop_fdiv, bop_addT, bop_mulT])
      exact x0
def lispatM (s0 s1 s2 pp qq : List Int) : Bool :=
  decide (1 ≤ s0.length ∧ s0.length ≤ 240) && ([s0, s1, s2, pp, qq].all fun r => decide (r.length = s0.length)) &&
  ([s0, s1, s2].all fun s => (List.range s0.length).all fun (f : Nat) => match gA s (f : Int) with
    | some x => decide (0 ≤ x ∧ x < s0.length) && decide (gA s x = some (f : Int))
    | none => false) &&
  decide (lcommM s0 s2 s0.length = some []) &&
  ([(s0, s1, pp), (s1, s2, qq)].all fun t => (List.range s0.length).all fun (f : Nat) => match gA t.2.2 (f : Int), gA t.1 (f : Int), gA t.2.1 (f : Int), lroundM t.1 t.2.1 (f : Int) with
    | some v, some a, some b, some r => decide (1 ≤ v ∧ v ≤ 9999) && decide (gA t.2.2 a = some v) && decide (gA t.2.2 b = some v) && decide (r ≠ 0) && decide (v.fmod r = 0)
    | _, _, _, _ => false) &&
  (match lwalkM [s0, s1, s2, pp, qq] 0 with
    | some w => decide (w.length = s0.length)
    | none => false)
theorem lispat_ok {n : Nat} {h : Hh} {s0 s1 s2 pp qq : List Int} (e : lispatM s0 s1 s2 pp qq = true) : dnR (callN Lw.T wf (n + 3) 14 [pT [s0, s1, s2, pp, qq]] h) fun v h' => v = .bl true ∧ h <+: h' := by
  refine call_ir rfl rfl ?_
  simp only [lispatM, Bool.and_eq_true, decide_eq_true_eq, List.all_eq_true, List.mem_range] at e
  obtain ⟨⟨⟨⟨⟨em, el⟩, e1⟩, e2⟩, e3⟩, e4⟩ := e
  generalize hm : s0.length = m at em el e1 e2 e3 e4
  (try simp only [forall_const, reduceCtorEq, false_implies, implies_true, Bool.false_eq_true, Dv.tup.injEq, dnR_noX, dnS_toS, dnSL_cons, dnSL_nil, dn_par, dn_par3, dn_asg, dn_setlc, dn_exp, dn_ret, dn_iff, dn_aug, dn_forr, dn_whl, dn_brk, dn_cnt, dn_retn, start, wipeS, glLen, most, tyIs, Option.map_some, Option.bind_some, Option.some.injEq, List.map_cons, List.map_nil, List.cons_append, List.nil_append, List.length_cons, List.length_nil, List.reduceReplicate, List.getElem?_cons_zero, List.getElem?_cons_succ, List.set_cons_zero, List.set_cons_succ, Nat.reduceAdd, Nat.reduceSub, Nat.reduceLeDiff, decide_true, decide_false, if_true, Bool.true_and, Bool.and_true, Dv.bl.injEq, Dv.int.injEq, exists_eq_left, exists_eq_left', true_and, and_true, Bool.and_self, Bool.not_true, Bool.not_false, eq_self, ↓reduceIte, List.isEmpty_cons, Nat.zero_add, and_self, true_implies, decide_eq_true_eq, decide_eq_false_iff_not, dnE_var, dnE_gint, dnE_int, dnE_str, dnE_bl, dnE_non, dnE_tup, dnE_lst, dnE_bin, dnE_cmp, dnE_chain, dnE_not, dnE_neg, dnE_and, dnE_or, dnA_one, dnA_cons, dnO_one, dnO_cons, dnE_ife, dnE_ix, dnE_sl, dnS_slT, dnE_call, dnE_bi, dnE_bm, dnE_isi, dnE_dnew, dnE_disp, dnE_lc, dnE_lcStp, dnF_nil, dnF_cons, dnL_nil, dnL_cons, dnV_none, dnV_some, dnI_seq, dnI_rng1, dnI_rng2, dnI_enum, dnG_name, dnG_tup, dnG_sub, dnGL_nil, dnGL_cons, dnB_len_t, dnB_set0, dnB_int, ixs_t, src_t, cop_lt, cop_le, cop_gt, cop_ge, cop_eq, cop_ne, bop_add, bop_sub, bop_mul, bop_mod, bop_fdiv, bop_addT, bop_mulT, Lw.ir__law_is_pattern])
  refine dnR.imp (lisform_ok hw el em.1 em.2) ?_
  rintro _ h1 ⟨rfl, x1⟩
  (try simp only [forall_const, reduceCtorEq, false_implies, implies_true, Bool.false_eq_true, Dv.tup.injEq, dnR_noX, dnS_toS, dnSL_cons, dnSL_nil, dn_par, dn_par3, dn_asg, dn_setlc, dn_exp, dn_ret, dn_iff, dn_aug, dn_forr, dn_whl, dn_brk, dn_cnt, dn_retn, start, wipeS, glLen, most, tyIs, Option.map_some, Option.bind_some, Option.some.injEq, List.map_cons, List.map_nil, List.cons_append, List.nil_append, List.length_cons, List.length_nil, List.reduceReplicate, List.getElem?_cons_zero, List.getElem?_cons_succ, List.set_cons_zero, List.set_cons_succ, Nat.reduceAdd, Nat.reduceSub, Nat.reduceLeDiff, decide_true, decide_false, if_true, Bool.true_and, Bool.and_true, Dv.bl.injEq, Dv.int.injEq, exists_eq_left, exists_eq_left', true_and, and_true, Bool.and_self, Bool.not_true, Bool.not_false, eq_self, ↓reduceIte, List.isEmpty_cons, Nat.zero_add, and_self, true_implies, decide_eq_true_eq, decide_eq_false_iff_not, dnE_var, dnE_gint, dnE_int, dnE_str, dnE_bl, dnE_non, dnE_tup, dnE_lst, dnE_bin, dnE_cmp, dnE_chain, dnE_not, dnE_neg, dnE_and, dnE_or, dnA_one, dnA_cons, dnO_one, dnO_cons, dnE_ife, dnE_ix, dnE_sl, dnS_slT, dnE_call, dnE_bi, dnE_bm, dnE_isi, dnE_dnew, dnE_disp, dnE_lc, dnE_lcStp, dnF_nil, dnF_cons, dnL_nil, dnL_cons, dnV_none, dnV_some, dnI_seq, dnI_rng1, dnI_rng2, dnI_enum, dnG_name, dnG_tup, dnG_sub, dnGL_nil, dnGL_cons, dnB_len_t, dnB_set0, dnB_int, ixs_t, src_t, cop_lt, cop_le, cop_gt, cop_ge, cop_eq, cop_ne, bop_add, bop_sub, bop_mul, bop_mod, bop_fdiv, bop_addT, bop_mulT, pT, iT, dnE_lrg1, List.length_map, hm, Int.toNat_natCast])
  have hlr : (List.range m).length = m := List.length_range
  have o := (((Own.nil h).ext x1).alloc (.lst ((List.range m).map fun (i : Nat) => Dv.int (i : Int)))).alloc (.lst ([s0, s1, s2].map iT))
  have hmm : (decide ((m : Int) ≤ (100000 : Nat)) && intOk m) = true := by
    rw [intOk_nat (by omega), Bool.and_true, decide_eq_true_eq]
    omega
  refine ⟨hmm, _, src_l (o.at_ 0 rfl), ?_⟩
  change dnS (forL _ _ _ _ _ (h1 ++ [Ob.lst ((List.range m).map fun (i : Nat) => Dv.int (i : Int))] ++ [Ob.lst ([s0, s1, s2].map iT)])) _
  generalize h1 ++ [Ob.lst ((List.range m).map fun (i : Nat) => Dv.int (i : Int))] ++ [Ob.lst ([s0, s1, s2].map iT)] = h3 at o ⊢
  generalize (h1 ++ [Ob.lst ((List.range m).map fun (i : Nat) => Dv.int (i : Int))]).length = b at o ⊢
  generalize h1.length = a at o ⊢
  refine forL_sim iT [s0, s1, s2] (fun (s : Unit) σ h1 => ∃ y z, σ = [some (pT [s0, s1, s2, pp, qq]), some (iT s0), some (iT s1), some (iT s2), some (iT pp), some (iT qq), some (.ref a), y, z, none, none, none] ∧ Own h h1 [(b, .lst ([s0, s1, s2].map iT)), (a, .lst ((List.range m).map fun (i : Nat) => Dv.int (i : Int)))]) (fun _ _ => some ()) ?_ ?_ (s0 := ()) (s1 := ()) (unit_fold _) ⟨_, _, rfl, o⟩ (by simp; omega) ?_
  · rintro s σ h1 ⟨y, z, rfl, o⟩
    exact seq_l (o.at_ 0 rfl)
  · rintro s s' σ h1 r hr ⟨y, z, rfl, o⟩ e
    have q1 := e1 r hr
    have q2 := el r (by simp at hr ⊢; rcases hr with rfl | rfl | rfl <;> simp)
    (try simp only [forall_const, reduceCtorEq, false_implies, implies_true, Bool.false_eq_true, Dv.tup.injEq, dnR_noX, dnS_toS, dnSL_cons, dnSL_nil, dn_par, dn_par3, dn_asg, dn_setlc, dn_exp, dn_ret, dn_iff, dn_aug, dn_forr, dn_whl, dn_brk, dn_cnt, dn_retn, start, wipeS, glLen, most, tyIs, Option.map_some, Option.bind_some, Option.some.injEq, List.map_cons, List.map_nil, List.cons_append, List.nil_append, List.length_cons, List.length_nil, List.reduceReplicate, List.getElem?_cons_zero, List.getElem?_cons_succ, List.set_cons_zero, List.set_cons_succ, Nat.reduceAdd, Nat.reduceSub, Nat.reduceLeDiff, decide_true, decide_false, if_true, Bool.true_and, Bool.and_true, Dv.bl.injEq, Dv.int.injEq, exists_eq_left, exists_eq_left', true_and, and_true, Bool.and_self, Bool.not_true, Bool.not_false, eq_self, ↓reduceIte, List.isEmpty_cons, Nat.zero_add, and_self, true_implies, decide_eq_true_eq, decide_eq_false_iff_not, dnE_var, dnE_gint, dnE_int, dnE_str, dnE_bl, dnE_non, dnE_tup, dnE_lst, dnE_bin, dnE_cmp, dnE_chain, dnE_not, dnE_neg, dnE_and, dnE_or, dnA_one, dnA_cons, dnO_one, dnO_cons, dnE_ife, dnE_ix, dnE_sl, dnS_slT, dnE_call, dnE_bi, dnE_bm, dnE_isi, dnE_dnew, dnE_disp, dnE_lc, dnE_lcStp, dnF_nil, dnF_cons, dnL_nil, dnL_cons, dnV_none, dnV_some, dnI_seq, dnI_rng1, dnI_rng2, dnI_enum, dnG_name, dnG_tup, dnG_sub, dnGL_nil, dnGL_cons, dnB_len_t, dnB_set0, dnB_int, ixs_t, src_t, cop_lt, cop_le, cop_gt, cop_ge, cop_eq, cop_ne, bop_add, bop_sub, bop_mul, bop_mod, bop_fdiv, bop_addT, bop_mulT, src_l (o.at_ 1 rfl)])
    refine forL_sim (fun (i : Nat) => Dv.int (i : Int)) (List.range m) (fun (s : Unit) σ h1 => ∃ z, σ = [some (pT [s0, s1, s2, pp, qq]), some (iT s0), some (iT s1), some (iT s2), some (iT pp), some (iT qq), some (.ref a), some (iT r), z, none, none, none] ∧ Own h h1 [(b, .lst ([s0, s1, s2].map iT)), (a, .lst ((List.range m).map fun (i : Nat) => Dv.int (i : Int)))]) (fun _ _ => some ()) ?_ ?_ (s0 := ()) (s1 := ()) (unit_fold _) ⟨_, rfl, o⟩ (by omega) ?_
    · rintro s σ h1 ⟨z, rfl, o⟩
      exact seq_l (o.at_ 1 rfl)
    · rintro s s' σ h1 f hf ⟨z, rfl, o⟩ e
      have q3 := q1 f (List.mem_range.mp hf)
      split at q3
      case h_2 => cases q3
      rename_i x hx
      simp only [Bool.and_eq_true, decide_eq_true_eq] at q3
      have q4 := q3.2
      (try simp only [forall_const, reduceCtorEq, false_implies, implies_true, Bool.false_eq_true, Dv.tup.injEq, dnR_noX, dnS_toS, dnSL_cons, dnSL_nil, dn_par, dn_par3, dn_asg, dn_setlc, dn_exp, dn_ret, dn_iff, dn_aug, dn_forr, dn_whl, dn_brk, dn_cnt, dn_retn, start, wipeS, glLen, most, tyIs, Option.map_some, Option.bind_some, Option.some.injEq, List.map_cons, List.map_nil, List.cons_append, List.nil_append, List.length_cons, List.length_nil, List.reduceReplicate, List.getElem?_cons_zero, List.getElem?_cons_succ, List.set_cons_zero, List.set_cons_succ, Nat.reduceAdd, Nat.reduceSub, Nat.reduceLeDiff, decide_true, decide_false, if_true, Bool.true_and, Bool.and_true, Dv.bl.injEq, Dv.int.injEq, exists_eq_left, exists_eq_left', true_and, and_true, Bool.and_self, Bool.not_true, Bool.not_false, eq_self, ↓reduceIte, List.isEmpty_cons, Nat.zero_add, and_self, true_implies, decide_eq_true_eq, decide_eq_false_iff_not, dnE_var, dnE_gint, dnE_int, dnE_str, dnE_bl, dnE_non, dnE_tup, dnE_lst, dnE_bin, dnE_cmp, dnE_chain, dnE_not, dnE_neg, dnE_and, dnE_or, dnA_one, dnA_cons, dnO_one, dnO_cons, dnE_ife, dnE_ix, dnE_sl, dnS_slT, dnE_call, dnE_bi, dnE_bm, dnE_isi, dnE_dnew, dnE_disp, dnE_lc, dnE_lcStp, dnF_nil, dnF_cons, dnL_nil, dnL_cons, dnV_none, dnV_some, dnI_seq, dnI_rng1, dnI_rng2, dnI_enum, dnG_name, dnG_tup, dnG_sub, dnGL_nil, dnGL_cons, dnB_len_t, dnB_set0, dnB_int, ixs_t, src_t, cop_lt, cop_le, cop_gt, cop_ge, cop_eq, cop_ne, bop_add, bop_sub, bop_mul, bop_mod, bop_fdiv, bop_addT, bop_mulT, iT, at0_map, hx, List.length_map, q2, q4])
      refine ⟨fun _ => ⟨fun _ => ⟨_, rfl, o⟩, fun z => ?_⟩, fun z => absurd q3.1.1 z⟩
      simp at z
      omega
    · rintro σ h1 ⟨z, rfl, o⟩
      exact ⟨_, _, rfl, o⟩
  · rintro σ h1 ⟨y, z, rfl, o⟩
    (try simp only [forall_const, reduceCtorEq, false_implies, implies_true, Bool.false_eq_true, Dv.tup.injEq, dnR_noX, dnS_toS, dnSL_cons, dnSL_nil, dn_par, dn_par3, dn_asg, dn_setlc, dn_exp, dn_ret, dn_iff, dn_aug, dn_forr, dn_whl, dn_brk, dn_cnt, dn_retn, start, wipeS, glLen, most, tyIs, Option.map_some, Option.bind_some, Option.some.injEq, List.map_cons, List.map_nil, List.cons_append, List.nil_append, List.length_cons, List.length_nil, List.reduceReplicate, List.getElem?_cons_zero, List.getElem?_cons_succ, List.set_cons_zero, List.set_cons_succ, Nat.reduceAdd, Nat.reduceSub, Nat.reduceLeDiff, decide_true, decide_false, if_true, Bool.true_and, Bool.and_true, Dv.bl.injEq, Dv.int.injEq, exists_eq_left, exists_eq_left', true_and, and_true, Bool.and_self, Bool.not_true, Bool.not_false, eq_self, ↓reduceIte, List.isEmpty_cons, Nat.zero_add, and_self, true_implies, decide_eq_true_eq, decide_eq_false_iff_not, dnE_var, dnE_gint, dnE_int, dnE_str, dnE_bl, dnE_non, dnE_tup, dnE_lst, dnE_bin, dnE_cmp, dnE_chain, dnE_not, dnE_neg, dnE_and, dnE_or, dnA_one, dnA_cons, dnO_one, dnO_cons, dnE_ife, dnE_ix, dnE_sl, dnS_slT, dnE_call, dnE_bi, dnE_bm, dnE_isi, dnE_dnew, dnE_disp, dnE_lc, dnE_lcStp, dnF_nil, dnF_cons, dnL_nil, dnL_cons, dnV_none, dnV_some, dnI_seq, dnI_rng1, dnI_rng2, dnI_enum, dnG_name, dnG_tup, dnG_sub, dnGL_nil, dnGL_cons, dnB_len_t, dnB_set0, dnB_int, ixs_t, src_t, cop_lt, cop_le, cop_gt, cop_ge, cop_eq, cop_ne, bop_add, bop_sub, bop_mul, bop_mod, bop_fdiv, bop_addT, bop_mulT, src_l (o.at_ 1 rfl)])
    refine lcL_sim (Q := _) (fun i : Nat => Dv.int (i : Int)) Dv.int (List.range m) (fun h1 => Own h h1 [(a, .lst ((List.range m).map fun (i : Nat) => Dv.int (i : Int)))]) _ (fun h1 o => seq_l (o.at_ 0 rfl)) ?_ e2 (o.drop _ (by simp)) (by omega) (by unfold most; omega) ?_
    · rintro h1 y r _ o e
      obtain ⟨a1, q1, e⟩ := opt_bind e
      obtain ⟨a2, q2, e⟩ := opt_bind e
      obtain ⟨a3, q3, e⟩ := opt_bind e
      obtain ⟨a4, q4, e⟩ := opt_bind e
      cases e
      (try simp only [forall_const, reduceCtorEq, false_implies, implies_true, Bool.false_eq_true, Dv.tup.injEq, dnR_noX, dnS_toS, dnSL_cons, dnSL_nil, dn_par, dn_par3, dn_asg, dn_setlc, dn_exp, dn_ret, dn_iff, dn_aug, dn_forr, dn_whl, dn_brk, dn_cnt, dn_retn, start, wipeS, glLen, most, tyIs, Option.map_some, Option.bind_some, Option.some.injEq, List.map_cons, List.map_nil, List.cons_append, List.nil_append, List.length_cons, List.length_nil, List.reduceReplicate, List.getElem?_cons_zero, List.getElem?_cons_succ, List.set_cons_zero, List.set_cons_succ, Nat.reduceAdd, Nat.reduceSub, Nat.reduceLeDiff, decide_true, decide_false, if_true, Bool.true_and, Bool.and_true, Dv.bl.injEq, Dv.int.injEq, exists_eq_left, exists_eq_left', true_and, and_true, Bool.and_self, Bool.not_true, Bool.not_false, eq_self, ↓reduceIte, List.isEmpty_cons, Nat.zero_add, and_self, true_implies, decide_eq_true_eq, decide_eq_false_iff_not, dnE_var, dnE_gint, dnE_int, dnE_str, dnE_bl, dnE_non, dnE_tup, dnE_lst, dnE_bin, dnE_cmp, dnE_chain, dnE_not, dnE_neg, dnE_and, dnE_or, dnA_one, dnA_cons, dnO_one, dnO_cons, dnE_ife, dnE_ix, dnE_sl, dnS_slT, dnE_call, dnE_bi, dnE_bm, dnE_isi, dnE_dnew, dnE_disp, dnE_lc, dnE_lcStp, dnF_nil, dnF_cons, dnL_nil, dnL_cons, dnV_none, dnV_some, dnI_seq, dnI_rng1, dnI_rng2, dnI_enum, dnG_name, dnG_tup, dnG_sub, dnGL_nil, dnGL_cons, dnB_len_t, dnB_set0, dnB_int, ixs_t, src_t, cop_lt, cop_le, cop_gt, cop_ge, cop_eq, cop_ne, bop_add, bop_sub, bop_mul, bop_mod, bop_fdiv, bop_addT, bop_mulT, iT, at0_map, q1, q2, q3, q4])
      refine ⟨fun z => ?_, fun z => ?_⟩
      · rw [if_neg (by simpa using z)]
        exact ⟨rfl, o⟩
      · rw [if_pos (by simpa using z)]
        exact ⟨rfl, o⟩
    intro h4 o
    (try simp only [forall_const, reduceCtorEq, false_implies, implies_true, Bool.false_eq_true, Dv.tup.injEq, dnR_noX, dnS_toS, dnSL_cons, dnSL_nil, dn_par, dn_par3, dn_asg, dn_setlc, dn_exp, dn_ret, dn_iff, dn_aug, dn_forr, dn_whl, dn_brk, dn_cnt, dn_retn, start, wipeS, glLen, most, tyIs, Option.map_some, Option.bind_some, Option.some.injEq, List.map_cons, List.map_nil, List.cons_append, List.nil_append, List.length_cons, List.length_nil, List.reduceReplicate, List.getElem?_cons_zero, List.getElem?_cons_succ, List.set_cons_zero, List.set_cons_succ, Nat.reduceAdd, Nat.reduceSub, Nat.reduceLeDiff, decide_true, decide_false, if_true, Bool.true_and, Bool.and_true, Dv.bl.injEq, Dv.int.injEq, exists_eq_left, exists_eq_left', true_and, and_true, Bool.and_self, Bool.not_true, Bool.not_false, eq_self, ↓reduceIte, List.isEmpty_cons, Nat.zero_add, and_self, true_implies, decide_eq_true_eq, decide_eq_false_iff_not, dnE_var, dnE_gint, dnE_int, dnE_str, dnE_bl, dnE_non, dnE_tup, dnE_lst, dnE_bin, dnE_cmp, dnE_chain, dnE_not, dnE_neg, dnE_and, dnE_or, dnA_one, dnA_cons, dnO_one, dnO_cons, dnE_ife, dnE_ix, dnE_sl, dnS_slT, dnE_call, dnE_bi, dnE_bm, dnE_isi, dnE_dnew, dnE_disp, dnE_lc, dnE_lcStp, dnF_nil, dnF_cons, dnL_nil, dnL_cons, dnV_none, dnV_some, dnI_seq, dnI_rng1, dnI_rng2, dnI_enum, dnG_name, dnG_tup, dnG_sub, dnGL_nil, dnGL_cons, dnB_len_t, dnB_set0, dnB_int, ixs_t, src_t, cop_lt, cop_le, cop_gt, cop_ge, cop_eq, cop_ne, bop_add, bop_sub, bop_mul, bop_mod, bop_fdiv, bop_addT, bop_mulT, cop_ne_fr0])
    have o := ((o.garb [.lst []]).garb [.lst []]).alloc (.lst ([(s0, s1, pp), (s1, s2, qq)].map fun t => .tup [iT t.1, iT t.2.1, iT t.2.2]))
    refine ⟨_, src_l (o.at_ 0 rfl), ?_⟩
    change dnS (forL _ _ _ _ _ (h4 ++ [Ob.lst []] ++ [Ob.lst []] ++ [Ob.lst ([(s0, s1, pp), (s1, s2, qq)].map fun t => .tup [iT t.1, iT t.2.1, iT t.2.2])])) _
    generalize h4 ++ [Ob.lst []] ++ [Ob.lst []] ++ [Ob.lst ([(s0, s1, pp), (s1, s2, qq)].map fun t => .tup [iT t.1, iT t.2.1, iT t.2.2])] = h5 at o ⊢
    generalize (h4 ++ [Ob.lst []] ++ [Ob.lst []]).length = b at o ⊢
    refine forL_sim (fun t : List Int × List Int × List Int => .tup [iT t.1, iT t.2.1, iT t.2.2]) [(s0, s1, pp), (s1, s2, qq)] (fun (s : Unit) σ h1 => ∃ u v x y z, σ = [some (pT [s0, s1, s2, pp, qq]), some (iT s0), some (iT s1), some (iT s2), some (iT pp), some (iT qq), some (.ref a), u, v, x, y, z] ∧ Own h h1 [(b, .lst ([(s0, s1, pp), (s1, s2, qq)].map fun t => .tup [iT t.1, iT t.2.1, iT t.2.2])), (a, .lst ((List.range m).map fun (i : Nat) => Dv.int (i : Int)))]) (fun _ _ => some ()) ?_ ?_ (s0 := ()) (s1 := ()) (unit_fold _) ⟨_, _, _, _, _, rfl, o⟩ (by simp; omega) ?_
    · rintro s σ h1 ⟨u, v, x, y, z, rfl, o⟩
      exact seq_l (o.at_ 0 rfl)
    · rintro s s' σ h1 ⟨t1, t2, t3⟩ ht ⟨u, v, x, y, z, rfl, o⟩ e
      have q1 := e3 (t1, t2, t3) ht
      clear e3
      (try simp only [forall_const, reduceCtorEq, false_implies, implies_true, Bool.false_eq_true, Dv.tup.injEq, dnR_noX, dnS_toS, dnSL_cons, dnSL_nil, dn_par, dn_par3, dn_asg, dn_setlc, dn_exp, dn_ret, dn_iff, dn_aug, dn_forr, dn_whl, dn_brk, dn_cnt, dn_retn, start, wipeS, glLen, most, tyIs, Option.map_some, Option.bind_some, Option.some.injEq, List.map_cons, List.map_nil, List.cons_append, List.nil_append, List.length_cons, List.length_nil, List.reduceReplicate, List.getElem?_cons_zero, List.getElem?_cons_succ, List.set_cons_zero, List.set_cons_succ, Nat.reduceAdd, Nat.reduceSub, Nat.reduceLeDiff, decide_true, decide_false, if_true, Bool.true_and, Bool.and_true, Dv.bl.injEq, Dv.int.injEq, exists_eq_left, exists_eq_left', true_and, and_true, Bool.and_self, Bool.not_true, Bool.not_false, eq_self, ↓reduceIte, List.isEmpty_cons, Nat.zero_add, and_self, true_implies, decide_eq_true_eq, decide_eq_false_iff_not, dnE_var, dnE_gint, dnE_int, dnE_str, dnE_bl, dnE_non, dnE_tup, dnE_lst, dnE_bin, dnE_cmp, dnE_chain, dnE_not, dnE_neg, dnE_and, dnE_or, dnA_one, dnA_cons, dnO_one, dnO_cons, dnE_ife, dnE_ix, dnE_sl, dnS_slT, dnE_call, dnE_bi, dnE_bm, dnE_isi, dnE_dnew, dnE_disp, dnE_lc, dnE_lcStp, dnF_nil, dnF_cons, dnL_nil, dnL_cons, dnV_none, dnV_some, dnI_seq, dnI_rng1, dnI_rng2, dnI_enum, dnG_name, dnG_tup, dnG_sub, dnGL_nil, dnGL_cons, dnB_len_t, dnB_set0, dnB_int, ixs_t, src_t, cop_lt, cop_le, cop_gt, cop_ge, cop_eq, cop_ne, bop_add, bop_sub, bop_mul, bop_mod, bop_fdiv, bop_addT, bop_mulT, src_l (o.at_ 1 rfl)])
      refine forL_sim (fun (i : Nat) => Dv.int (i : Int)) (List.range m) (fun (s : Unit) σ h1 => ∃ z, σ = [some (pT [s0, s1, s2, pp, qq]), some (iT s0), some (iT s1), some (iT s2), some (iT pp), some (iT qq), some (.ref a), u, z, some (iT t1), some (iT t2), some (iT t3)] ∧ Own h h1 [(b, .lst ([(s0, s1, pp), (s1, s2, qq)].map fun t => .tup [iT t.1, iT t.2.1, iT t.2.2])), (a, .lst ((List.range m).map fun (i : Nat) => Dv.int (i : Int)))]) (fun _ _ => some ()) ?_ ?_ (s0 := ()) (s1 := ()) (unit_fold _) ⟨_, rfl, o⟩ (by omega) ?_
      · rintro s σ h1 ⟨z, rfl, o⟩
        exact seq_l (o.at_ 1 rfl)
      · rintro s s' σ h1 f hf ⟨z, rfl, o⟩ e
        have q3 := q1 f (List.mem_range.mp hf)
        simp only at q3
        split at q3
        case h_2 => cases q3
        rename_i v0 a0 b0 r0 w1 w2 w3 w4
        simp only [Bool.and_eq_true, decide_eq_true_eq] at q3
        obtain ⟨⟨⟨⟨q4, q5⟩, q6⟩, q7⟩, q8⟩ := q3
        (try simp only [forall_const, reduceCtorEq, false_implies, implies_true, Bool.false_eq_true, Dv.tup.injEq, dnR_noX, dnS_toS, dnSL_cons, dnSL_nil, dn_par, dn_par3, dn_asg, dn_setlc, dn_exp, dn_ret, dn_iff, dn_aug, dn_forr, dn_whl, dn_brk, dn_cnt, dn_retn, start, wipeS, glLen, most, tyIs, Option.map_some, Option.bind_some, Option.some.injEq, List.map_cons, List.map_nil, List.cons_append, List.nil_append, List.length_cons, List.length_nil, List.reduceReplicate, List.getElem?_cons_zero, List.getElem?_cons_succ, List.set_cons_zero, List.set_cons_succ, Nat.reduceAdd, Nat.reduceSub, Nat.reduceLeDiff, decide_true, decide_false, if_true, Bool.true_and, Bool.and_true, Dv.bl.injEq, Dv.int.injEq, exists_eq_left, exists_eq_left', true_and, and_true, Bool.and_self, Bool.not_true, Bool.not_false, eq_self, ↓reduceIte, List.isEmpty_cons, Nat.zero_add, and_self, true_implies, decide_eq_true_eq, decide_eq_false_iff_not, dnE_var, dnE_gint, dnE_int, dnE_str, dnE_bl, dnE_non, dnE_tup, dnE_lst, dnE_bin, dnE_cmp, dnE_chain, dnE_not, dnE_neg, dnE_and, dnE_or, dnA_one, dnA_cons, dnO_one, dnO_cons, dnE_ife, dnE_ix, dnE_sl, dnS_slT, dnE_call, dnE_bi, dnE_bm, dnE_isi, dnE_dnew, dnE_disp, dnE_lc, dnE_lcStp, dnF_nil, dnF_cons, dnL_nil, dnL_cons, dnV_none, dnV_some, dnI_seq, dnI_rng1, dnI_rng2, dnI_enum, dnG_name, dnG_tup, dnG_sub, dnGL_nil, dnGL_cons, dnB_len_t, dnB_set0, dnB_int, ixs_t, src_t, cop_lt, cop_le, cop_gt, cop_ge, cop_eq, cop_ne, bop_add, bop_sub, bop_mul, bop_mod, bop_fdiv, bop_addT, bop_mulT, iT, at0_map, w1, w2, w3, w4, q5, q6])
        refine ⟨fun _ => ⟨fun _ => ?_, fun z => ?_⟩, fun z => absurd q4.1 z⟩
        · refine dnR.imp (lround_ok hw w4) ?_
          rintro _ h6 ⟨rfl, x6⟩
          (try simp only [forall_const, reduceCtorEq, false_implies, implies_true, Bool.false_eq_true, Dv.tup.injEq, dnR_noX, dnS_toS, dnSL_cons, dnSL_nil, dn_par, dn_par3, dn_asg, dn_setlc, dn_exp, dn_ret, dn_iff, dn_aug, dn_forr, dn_whl, dn_brk, dn_cnt, dn_retn, start, wipeS, glLen, most, tyIs, Option.map_some, Option.bind_some, Option.some.injEq, List.map_cons, List.map_nil, List.cons_append, List.nil_append, List.length_cons, List.length_nil, List.reduceReplicate, List.getElem?_cons_zero, List.getElem?_cons_succ, List.set_cons_zero, List.set_cons_succ, Nat.reduceAdd, Nat.reduceSub, Nat.reduceLeDiff, decide_true, decide_false, if_true, Bool.true_and, Bool.and_true, Dv.bl.injEq, Dv.int.injEq, exists_eq_left, exists_eq_left', true_and, and_true, Bool.and_self, Bool.not_true, Bool.not_false, eq_self, ↓reduceIte, List.isEmpty_cons, Nat.zero_add, and_self, true_implies, decide_eq_true_eq, decide_eq_false_iff_not, dnE_var, dnE_gint, dnE_int, dnE_str, dnE_bl, dnE_non, dnE_tup, dnE_lst, dnE_bin, dnE_cmp, dnE_chain, dnE_not, dnE_neg, dnE_and, dnE_or, dnA_one, dnA_cons, dnO_one, dnO_cons, dnE_ife, dnE_ix, dnE_sl, dnS_slT, dnE_call, dnE_bi, dnE_bm, dnE_isi, dnE_dnew, dnE_disp, dnE_lc, dnE_lcStp, dnF_nil, dnF_cons, dnL_nil, dnL_cons, dnV_none, dnV_some, dnI_seq, dnI_rng1, dnI_rng2, dnI_enum, dnG_name, dnG_tup, dnG_sub, dnGL_nil, dnGL_cons, dnB_len_t, dnB_set0, dnB_int, ixs_t, src_t, cop_lt, cop_le, cop_gt, cop_ge, cop_eq, cop_ne, bop_add, bop_sub, bop_mul, bop_mod, bop_fdiv, bop_addT, bop_mulT, q7, q8])
          refine ⟨by first | exact q7 | exact decide_eq_true q7, ?_⟩
          exact ⟨_, rfl, o.ext x6⟩
        · simp at z
          omega
      · rintro σ h1 ⟨z, rfl, o⟩
        exact ⟨_, _, _, _, _, rfl, o⟩
    · rintro σ h1 ⟨u, v, x, y, z, rfl, o⟩
      split at e4
      case h_2 => cases e4
      rename_i w hw4
      (try simp only [forall_const, reduceCtorEq, false_implies, implies_true, Bool.false_eq_true, Dv.tup.injEq, dnR_noX, dnS_toS, dnSL_cons, dnSL_nil, dn_par, dn_par3, dn_asg, dn_setlc, dn_exp, dn_ret, dn_iff, dn_aug, dn_forr, dn_whl, dn_brk, dn_cnt, dn_retn, start, wipeS, glLen, most, tyIs, Option.map_some, Option.bind_some, Option.some.injEq, List.map_cons, List.map_nil, List.cons_append, List.nil_append, List.length_cons, List.length_nil, List.reduceReplicate, List.getElem?_cons_zero, List.getElem?_cons_succ, List.set_cons_zero, List.set_cons_succ, Nat.reduceAdd, Nat.reduceSub, Nat.reduceLeDiff, decide_true, decide_false, if_true, Bool.true_and, Bool.and_true, Dv.bl.injEq, Dv.int.injEq, exists_eq_left, exists_eq_left', true_and, and_true, Bool.and_self, Bool.not_true, Bool.not_false, eq_self, ↓reduceIte, List.isEmpty_cons, Nat.zero_add, and_self, true_implies, decide_eq_true_eq, decide_eq_false_iff_not, dnE_var, dnE_gint, dnE_int, dnE_str, dnE_bl, dnE_non, dnE_tup, dnE_lst, dnE_bin, dnE_cmp, dnE_chain, dnE_not, dnE_neg, dnE_and, dnE_or, dnA_one, dnA_cons, dnO_one, dnO_cons, dnE_ife, dnE_ix, dnE_sl, dnS_slT, dnE_call, dnE_bi, dnE_bm, dnE_isi, dnE_dnew, dnE_disp, dnE_lc, dnE_lcStp, dnF_nil, dnF_cons, dnL_nil, dnL_cons, dnV_none, dnV_some, dnI_seq, dnI_rng1, dnI_rng2, dnI_enum, dnG_name, dnG_tup, dnG_sub, dnGL_nil, dnGL_cons, dnB_len_t, dnB_set0, dnB_int, ixs_t, src_t, cop_lt, cop_le, cop_gt, cop_ge, cop_eq, cop_ne, bop_add, bop_sub, bop_mul, bop_mod, bop_fdiv, bop_addT, bop_mulT])
      refine dnR.imp (lwalk_ok hw hw4) ?_
      rintro _ h6 ⟨c, rfl, o6⟩
      (try simp only [forall_const, reduceCtorEq, false_implies, implies_true, Bool.false_eq_true, Dv.tup.injEq, dnR_noX, dnS_toS, dnSL_cons, dnSL_nil, dn_par, dn_par3, dn_asg, dn_setlc, dn_exp, dn_ret, dn_iff, dn_aug, dn_forr, dn_whl, dn_brk, dn_cnt, dn_retn, start, wipeS, glLen, most, tyIs, Option.map_some, Option.bind_some, Option.some.injEq, List.map_cons, List.map_nil, List.cons_append, List.nil_append, List.length_cons, List.length_nil, List.reduceReplicate, List.getElem?_cons_zero, List.getElem?_cons_succ, List.set_cons_zero, List.set_cons_succ, Nat.reduceAdd, Nat.reduceSub, Nat.reduceLeDiff, decide_true, decide_false, if_true, Bool.true_and, Bool.and_true, Dv.bl.injEq, Dv.int.injEq, exists_eq_left, exists_eq_left', true_and, and_true, Bool.and_self, Bool.not_true, Bool.not_false, eq_self, ↓reduceIte, List.isEmpty_cons, Nat.zero_add, and_self, true_implies, decide_eq_true_eq, decide_eq_false_iff_not, dnE_var, dnE_gint, dnE_int, dnE_str, dnE_bl, dnE_non, dnE_tup, dnE_lst, dnE_bin, dnE_cmp, dnE_chain, dnE_not, dnE_neg, dnE_and, dnE_or, dnA_one, dnA_cons, dnO_one, dnO_cons, dnE_ife, dnE_ix, dnE_sl, dnS_slT, dnE_call, dnE_bi, dnE_bm, dnE_isi, dnE_dnew, dnE_disp, dnE_lc, dnE_lcStp, dnF_nil, dnF_cons, dnL_nil, dnL_cons, dnV_none, dnV_some, dnI_seq, dnI_rng1, dnI_rng2, dnI_enum, dnG_name, dnG_tup, dnG_sub, dnGL_nil, dnGL_cons, dnB_len_t, dnB_set0, dnB_int, ixs_t, src_t, cop_lt, cop_le, cop_gt, cop_ge, cop_eq, cop_ne, bop_add, bop_sub, bop_mul, bop_mod, bop_fdiv, bop_addT, bop_mulT, dnB_len_l (o6.at_ 0 rfl), iT, List.length_map, hm])
      refine ⟨by have := of_decide_eq_true e4; omega, o.pre.trans o6.pre⟩
end
end FF
end

section
set_option Elab.async false
set_option linter.all false
set_option maxRecDepth 100000
set_option maxHeartbeats 4000000
/-! PL13: draws. -/
namespace FF
open PySem

def mD (L S : Int) (c : Nat) (sp : Nat) : List ((Int ⊕ Str) × Dv) := [(.inr "left", .int L), (.inr "seed", .int S), (.inr "cells", .ref c), (.inr "spot", .int sp)]
section
variable {L S : Int} {c sp : Nat}
theorem mD_left : kLook (mD L S c sp) (.inr "left") = some (.int L) := rfl
theorem mD_seed : kLook (mD L S c sp) (.inr "seed") = some (.int S) := rfl
theorem mD_cells : kLook (mD L S c sp) (.inr "cells") = some (.ref c) := rfl
theorem mD_spot : kLook (mD L S c sp) (.inr "spot") = some (.int sp) := rfl
theorem mD_left' (v : Int) : kPut (mD L S c sp) (.inr "left") (.int v) = mD v S c sp := rfl
theorem mD_spot' (v : Nat) : kPut (mD L S c sp) (.inr "spot") (.int v) = mD L S c v := rfl
end
/-- the state of the draws: it lies below b, and no more than k numbers were drawn of its cells -/
def MS (b : Nat) (h : Hh) (m k : Nat) : Prop := ∃ (L S : Int) (c sp : Nat) (cells : List Int), m < b ∧ c < b ∧ h[m]? = some (.dk (mD L S c sp)) ∧ h[c]? = some (.lst (cells.map .int)) ∧ cells ≠ [] ∧ sp ≤ k ∧ 0 ≤ S ∧ S < 2147483648
theorem MS.mono {b b' m k k' : Nat} {h : Hh} (x : MS b h m k) (hb : b ≤ b') (hk : k ≤ k') : MS b' h m k' := by
  obtain ⟨L, S, c, sp, cells, h1, h2, h3, h4, h5, h6, h7, h8⟩ := x
  exact ⟨L, S, c, sp, cells, by omega, by omega, h3, h4, h5, by omega, h7, h8⟩
theorem MS.ext {b m k : Nat} {h h' : Hh} (x : MS b h m k) (p : h <+: h') : MS b h' m k := by
  obtain ⟨L, S, c, sp, cells, h1, h2, h3, h4, h5, h6, h7, h8⟩ := x
  obtain ⟨g, rfl⟩ := p
  refine ⟨L, S, c, sp, cells, h1, h2, ?_, ?_, h5, h6, h7, h8⟩
  · rw [List.getElem?_append_left (List.getElem?_eq_some_iff.mp h3).1]; exact h3
  · rw [List.getElem?_append_left (List.getElem?_eq_some_iff.mp h4).1]; exact h4
theorem MS.set {b m k a : Nat} {h : Hh} (x : MS b h m k) (hb : b ≤ a) (y : Ob) : MS b (h.set a y) m k := by
  obtain ⟨L, S, c, sp, cells, h1, h2, h3, h4, h5, h6, h7, h8⟩ := x
  refine ⟨L, S, c, sp, cells, h1, h2, ?_, ?_, h5, h6, h7, h8⟩
  · rw [List.getElem?_set_ne (by omega)]; exact h3
  · rw [List.getElem?_set_ne (by omega)]; exact h4
theorem MS.lt {b m k : Nat} {h : Hh} (x : MS b h m k) : m < h.length := by
  obtain ⟨L, S, c, sp, cells, h1, h2, h3, h4, h5, h6, h7, h8⟩ := x
  exact (List.getElem?_eq_some_iff.mp h3).1
theorem fmod_lt (a b : Int) (hb : 0 < b) : 0 ≤ a.fmod b ∧ a.fmod b < b := ⟨Int.fmod_nonneg_of_pos a hb, Int.fmod_lt_of_pos a hb⟩
theorem mulOk_r {i j : Int} (h1 : -18446744073709551616 < j) (h2 : j < 18446744073709551616) : mulOk i j = true := by
  unfold mulOk
  simp only [Bool.or_eq_true, Bool.and_eq_true, decide_eq_true_eq]
  right
  omega
theorem mulOk_l {i j : Int} (h1 : -18446744073709551616 < i) (h2 : i < 18446744073709551616) : mulOk i j = true := by
  unfold mulOk
  simp only [Bool.or_eq_true, Bool.and_eq_true, decide_eq_true_eq]
  left
  omega
section
variable {wf : Nat} (hw : 2000 ≤ wf)
include hw
theorem draw_ok {n b m k : Nat} {h : Hh} {below : Int} (x : MS b h m k) (hk : k ≤ 1000000) (hb : 1 ≤ below) (hb2 : below < 1073741824) : dnR (callN Lw.T wf (n + 1) 7 [.ref m, .int below] h) fun v h' => ∃ (d : Int) (ob : Ob), v = .int d ∧ 0 ≤ d ∧ d < below ∧ h' = h.set m ob ∧ MS b h' m (k + 1) := by
  refine call_ir rfl rfl ?_
  have hlt := x.lt
  obtain ⟨L, S, c, sp, cells, h1, h2, h3, h4, h5, h6, h7, h8⟩ := x
  have hcm : c ≠ m := by
    rintro rfl
    rw [h3] at h4
    cases h4
  (try simp only [forall_const, reduceCtorEq, false_implies, implies_true, Bool.false_eq_true, Dv.tup.injEq, dnR_noX, dnS_toS, dnSL_cons, dnSL_nil, dn_par, dn_par3, dn_asg, dn_setlc, dn_exp, dn_ret, dn_iff, dn_aug, dn_forr, dn_whl, dn_brk, dn_cnt, dn_retn, start, wipeS, glLen, most, tyIs, Option.map_some, Option.bind_some, Option.some.injEq, List.map_cons, List.map_nil, List.cons_append, List.nil_append, List.length_cons, List.length_nil, List.reduceReplicate, List.getElem?_cons_zero, List.getElem?_cons_succ, List.set_cons_zero, List.set_cons_succ, Nat.reduceAdd, Nat.reduceSub, Nat.reduceLeDiff, decide_true, decide_false, if_true, Bool.true_and, Bool.and_true, Dv.bl.injEq, Dv.int.injEq, exists_eq_left, exists_eq_left', true_and, and_true, Bool.and_self, Bool.not_true, Bool.not_false, eq_self, ↓reduceIte, List.isEmpty_cons, Nat.zero_add, and_self, true_implies, decide_eq_true_eq, decide_eq_false_iff_not, dnE_var, dnE_gint, dnE_int, dnE_str, dnE_bl, dnE_non, dnE_tup, dnE_lst, dnE_bin, dnE_cmp, dnE_chain, dnE_not, dnE_neg, dnE_and, dnE_or, dnA_one, dnA_cons, dnO_one, dnO_cons, dnE_ife, dnE_ix, dnE_sl, dnS_slT, dnE_call, dnE_bi, dnE_bm, dnE_isi, dnE_dnew, dnE_disp, dnE_lc, dnE_lcStp, dnF_nil, dnF_cons, dnL_nil, dnL_cons, dnV_none, dnV_some, dnI_seq, dnI_rng1, dnI_rng2, dnI_enum, dnG_name, dnG_tup, dnG_sub, dnGL_nil, dnGL_cons, dnB_len_t, dnB_set0, dnB_int, ixs_t, src_t, cop_lt, cop_le, cop_gt, cop_ge, cop_eq, cop_ne, bop_add, bop_sub, bop_mul, bop_mod, bop_fdiv, bop_addT, bop_mulT, Lw.ir__law_draw, ixs_k h3, mD_left, mD_spot, mD_seed, mD_cells])
  refine ⟨fun hL => ⟨by omega, ?_, ?_⟩, fun hL => ?_⟩
  · simp only [Bool.and_eq_true, decide_eq_true_eq]
    omega
  · (try simp only [forall_const, reduceCtorEq, false_implies, implies_true, Bool.false_eq_true, Dv.tup.injEq, dnR_noX, dnS_toS, dnSL_cons, dnSL_nil, dn_par, dn_par3, dn_asg, dn_setlc, dn_exp, dn_ret, dn_iff, dn_aug, dn_forr, dn_whl, dn_brk, dn_cnt, dn_retn, start, wipeS, glLen, most, tyIs, Option.map_some, Option.bind_some, Option.some.injEq, List.map_cons, List.map_nil, List.cons_append, List.nil_append, List.length_cons, List.length_nil, List.reduceReplicate, List.getElem?_cons_zero, List.getElem?_cons_succ, List.set_cons_zero, List.set_cons_succ, Nat.reduceAdd, Nat.reduceSub, Nat.reduceLeDiff, decide_true, decide_false, if_true, Bool.true_and, Bool.and_true, Dv.bl.injEq, Dv.int.injEq, exists_eq_left, exists_eq_left', true_and, and_true, Bool.and_self, Bool.not_true, Bool.not_false, eq_self, ↓reduceIte, List.isEmpty_cons, Nat.zero_add, and_self, true_implies, decide_eq_true_eq, decide_eq_false_iff_not, dnE_var, dnE_gint, dnE_int, dnE_str, dnE_bl, dnE_non, dnE_tup, dnE_lst, dnE_bin, dnE_cmp, dnE_chain, dnE_not, dnE_neg, dnE_and, dnE_or, dnA_one, dnA_cons, dnO_one, dnO_cons, dnE_ife, dnE_ix, dnE_sl, dnS_slT, dnE_call, dnE_bi, dnE_bm, dnE_isi, dnE_dnew, dnE_disp, dnE_lc, dnE_lcStp, dnF_nil, dnF_cons, dnL_nil, dnL_cons, dnV_none, dnV_some, dnI_seq, dnI_rng1, dnI_rng2, dnI_enum, dnG_name, dnG_tup, dnG_sub, dnGL_nil, dnGL_cons, dnB_len_t, dnB_set0, dnB_int, ixs_t, src_t, cop_lt, cop_le, cop_gt, cop_ge, cop_eq, cop_ne, bop_add, bop_sub, bop_mul, bop_mod, bop_fdiv, bop_addT, bop_mulT, sets_k h3, mD_left'])
    refine ⟨by simp [mD], _, _, rfl, (fmod_lt L below (by omega)).1, (fmod_lt L below (by omega)).2, rfl, ?_⟩
    refine ⟨L.fdiv below, S, c, sp, cells, h1, h2, ?_, ?_, h5, by omega, h7, h8⟩
    · rw [List.getElem?_set_self hlt]
    · rw [List.getElem?_set_ne (by omega)]; exact h4
  · have hsp : ((sp : Int) + 1) = ((sp + 1 : Nat) : Int) := by omega
    rw [hsp]
    have h3' : (h.set m (.dk (mD L S c (sp + 1))))[m]? = some (.dk (mD L S c (sp + 1))) := by rw [List.getElem?_set_self hlt]
    have h4' : (h.set m (.dk (mD L S c (sp + 1))))[c]? = some (.lst (cells.map .int)) := by rw [List.getElem?_set_ne (by omega)]; exact h4
    have hcl : 0 < cells.length := List.length_pos_iff.mpr h5
    have hix := fmod_lt sp cells.length (by omega)
    obtain ⟨cell, hcell⟩ : ∃ cell, gA cells ((sp : Int).fmod cells.length) = some cell := by
      unfold gA ixA
      rw [if_pos hix.1, if_pos hix.2]
      have : ((sp : Int).fmod cells.length).toNat < cells.length := by omega
      exact ⟨_, by simp [List.getElem?_eq_getElem this]; rfl⟩
    (try simp only [forall_const, reduceCtorEq, false_implies, implies_true, Bool.false_eq_true, Dv.tup.injEq, dnR_noX, dnS_toS, dnSL_cons, dnSL_nil, dn_par, dn_par3, dn_asg, dn_setlc, dn_exp, dn_ret, dn_iff, dn_aug, dn_forr, dn_whl, dn_brk, dn_cnt, dn_retn, start, wipeS, glLen, most, tyIs, Option.map_some, Option.bind_some, Option.some.injEq, List.map_cons, List.map_nil, List.cons_append, List.nil_append, List.length_cons, List.length_nil, List.reduceReplicate, List.getElem?_cons_zero, List.getElem?_cons_succ, List.set_cons_zero, List.set_cons_succ, Nat.reduceAdd, Nat.reduceSub, Nat.reduceLeDiff, decide_true, decide_false, if_true, Bool.true_and, Bool.and_true, Dv.bl.injEq, Dv.int.injEq, exists_eq_left, exists_eq_left', true_and, and_true, Bool.and_self, Bool.not_true, Bool.not_false, eq_self, ↓reduceIte, List.isEmpty_cons, Nat.zero_add, and_self, true_implies, decide_eq_true_eq, decide_eq_false_iff_not, dnE_var, dnE_gint, dnE_int, dnE_str, dnE_bl, dnE_non, dnE_tup, dnE_lst, dnE_bin, dnE_cmp, dnE_chain, dnE_not, dnE_neg, dnE_and, dnE_or, dnA_one, dnA_cons, dnO_one, dnO_cons, dnE_ife, dnE_ix, dnE_sl, dnS_slT, dnE_call, dnE_bi, dnE_bm, dnE_isi, dnE_dnew, dnE_disp, dnE_lc, dnE_lcStp, dnF_nil, dnF_cons, dnL_nil, dnL_cons, dnV_none, dnV_some, dnI_seq, dnI_rng1, dnI_rng2, dnI_enum, dnG_name, dnG_tup, dnG_sub, dnGL_nil, dnGL_cons, dnB_len_t, dnB_set0, dnB_int, ixs_t, src_t, cop_lt, cop_le, cop_gt, cop_ge, cop_eq, cop_ne, bop_add, bop_sub, bop_mul, bop_mod, bop_fdiv, bop_addT, bop_mulT, sets_k h3, mD_spot'])
    refine ⟨by simp [mD], ?_⟩
    (try simp only [forall_const, reduceCtorEq, false_implies, implies_true, Bool.false_eq_true, Dv.tup.injEq, dnR_noX, dnS_toS, dnSL_cons, dnSL_nil, dn_par, dn_par3, dn_asg, dn_setlc, dn_exp, dn_ret, dn_iff, dn_aug, dn_forr, dn_whl, dn_brk, dn_cnt, dn_retn, start, wipeS, glLen, most, tyIs, Option.map_some, Option.bind_some, Option.some.injEq, List.map_cons, List.map_nil, List.cons_append, List.nil_append, List.length_cons, List.length_nil, List.reduceReplicate, List.getElem?_cons_zero, List.getElem?_cons_succ, List.set_cons_zero, List.set_cons_succ, Nat.reduceAdd, Nat.reduceSub, Nat.reduceLeDiff, decide_true, decide_false, if_true, Bool.true_and, Bool.and_true, Dv.bl.injEq, Dv.int.injEq, exists_eq_left, exists_eq_left', true_and, and_true, Bool.and_self, Bool.not_true, Bool.not_false, eq_self, ↓reduceIte, List.isEmpty_cons, Nat.zero_add, and_self, true_implies, decide_eq_true_eq, decide_eq_false_iff_not, dnE_var, dnE_gint, dnE_int, dnE_str, dnE_bl, dnE_non, dnE_tup, dnE_lst, dnE_bin, dnE_cmp, dnE_chain, dnE_not, dnE_neg, dnE_and, dnE_or, dnA_one, dnA_cons, dnO_one, dnO_cons, dnE_ife, dnE_ix, dnE_sl, dnS_slT, dnE_call, dnE_bi, dnE_bm, dnE_isi, dnE_dnew, dnE_disp, dnE_lc, dnE_lcStp, dnF_nil, dnF_cons, dnL_nil, dnL_cons, dnV_none, dnV_some, dnI_seq, dnI_rng1, dnI_rng2, dnI_enum, dnG_name, dnG_tup, dnG_sub, dnGL_nil, dnGL_cons, dnB_len_t, dnB_set0, dnB_int, ixs_t, src_t, cop_lt, cop_le, cop_gt, cop_ge, cop_eq, cop_ne, bop_add, bop_sub, bop_mul, bop_mod, bop_fdiv, bop_addT, bop_mulT, ixs_k h3', mD_cells, mD_seed])
    refine ⟨mulOk_l (by omega) (by omega), mulOk_r (by omega) (by omega), ?_⟩
    (try simp only [forall_const, reduceCtorEq, false_implies, implies_true, Bool.false_eq_true, Dv.tup.injEq, dnR_noX, dnS_toS, dnSL_cons, dnSL_nil, dn_par, dn_par3, dn_asg, dn_setlc, dn_exp, dn_ret, dn_iff, dn_aug, dn_forr, dn_whl, dn_brk, dn_cnt, dn_retn, start, wipeS, glLen, most, tyIs, Option.map_some, Option.bind_some, Option.some.injEq, List.map_cons, List.map_nil, List.cons_append, List.nil_append, List.length_cons, List.length_nil, List.reduceReplicate, List.getElem?_cons_zero, List.getElem?_cons_succ, List.set_cons_zero, List.set_cons_succ, Nat.reduceAdd, Nat.reduceSub, Nat.reduceLeDiff, decide_true, decide_false, if_true, Bool.true_and, Bool.and_true, Dv.bl.injEq, Dv.int.injEq, exists_eq_left, exists_eq_left', true_and, and_true, Bool.and_self, Bool.not_true, Bool.not_false, eq_self, ↓reduceIte, List.isEmpty_cons, Nat.zero_add, and_self, true_implies, decide_eq_true_eq, decide_eq_false_iff_not, dnE_var, dnE_gint, dnE_int, dnE_str, dnE_bl, dnE_non, dnE_tup, dnE_lst, dnE_bin, dnE_cmp, dnE_chain, dnE_not, dnE_neg, dnE_and, dnE_or, dnA_one, dnA_cons, dnO_one, dnO_cons, dnE_ife, dnE_ix, dnE_sl, dnS_slT, dnE_call, dnE_bi, dnE_bm, dnE_isi, dnE_dnew, dnE_disp, dnE_lc, dnE_lcStp, dnF_nil, dnF_cons, dnL_nil, dnL_cons, dnV_none, dnV_some, dnI_seq, dnI_rng1, dnI_rng2, dnI_enum, dnG_name, dnG_tup, dnG_sub, dnGL_nil, dnGL_cons, dnB_len_t, dnB_set0, dnB_int, ixs_t, src_t, cop_lt, cop_le, cop_gt, cop_ge, cop_eq, cop_ne, bop_add, bop_sub, bop_mul, bop_mod, bop_fdiv, bop_addT, bop_mulT, dnB_len_l h4', List.length_map])
    refine ⟨by omega, ?_⟩
    (try simp only [forall_const, reduceCtorEq, false_implies, implies_true, Bool.false_eq_true, Dv.tup.injEq, dnR_noX, dnS_toS, dnSL_cons, dnSL_nil, dn_par, dn_par3, dn_asg, dn_setlc, dn_exp, dn_ret, dn_iff, dn_aug, dn_forr, dn_whl, dn_brk, dn_cnt, dn_retn, start, wipeS, glLen, most, tyIs, Option.map_some, Option.bind_some, Option.some.injEq, List.map_cons, List.map_nil, List.cons_append, List.nil_append, List.length_cons, List.length_nil, List.reduceReplicate, List.getElem?_cons_zero, List.getElem?_cons_succ, List.set_cons_zero, List.set_cons_succ, Nat.reduceAdd, Nat.reduceSub, Nat.reduceLeDiff, decide_true, decide_false, if_true, Bool.true_and, Bool.and_true, Dv.bl.injEq, Dv.int.injEq, exists_eq_left, exists_eq_left', true_and, and_true, Bool.and_self, Bool.not_true, Bool.not_false, eq_self, ↓reduceIte, List.isEmpty_cons, Nat.zero_add, and_self, true_implies, decide_eq_true_eq, decide_eq_false_iff_not, dnE_var, dnE_gint, dnE_int, dnE_str, dnE_bl, dnE_non, dnE_tup, dnE_lst, dnE_bin, dnE_cmp, dnE_chain, dnE_not, dnE_neg, dnE_and, dnE_or, dnA_one, dnA_cons, dnO_one, dnO_cons, dnE_ife, dnE_ix, dnE_sl, dnS_slT, dnE_call, dnE_bi, dnE_bm, dnE_isi, dnE_dnew, dnE_disp, dnE_lc, dnE_lcStp, dnF_nil, dnF_cons, dnL_nil, dnL_cons, dnV_none, dnV_some, dnI_seq, dnI_rng1, dnI_rng2, dnI_enum, dnG_name, dnG_tup, dnG_sub, dnGL_nil, dnGL_cons, dnB_len_t, dnB_set0, dnB_int, ixs_t, src_t, cop_lt, cop_le, cop_gt, cop_ge, cop_eq, cop_ne, bop_add, bop_sub, bop_mul, bop_mod, bop_fdiv, bop_addT, bop_mulT, ixs_l h4', at0_map, hcell])
    refine ⟨mulOk_l (by omega) (by omega), ?_⟩
    have b1 := fmod_lt (cell * (2 * ↑sp + 3) + (S + 40503 * ↑sp * ↑sp)) 2147483647 (by omega)
    refine ⟨mulOk_r (by omega) (by omega), by omega, mulOk_r (by omega) (by omega), mulOk_l (by omega) (by omega), ?_⟩
    generalize (cell * (2 * ↑sp + 3) + (S + 40503 * ↑sp * ↑sp)).fmod 2147483647 = bl at b1 ⊢
    (try simp only [forall_const, reduceCtorEq, false_implies, implies_true, Bool.false_eq_true, Dv.tup.injEq, dnR_noX, dnS_toS, dnSL_cons, dnSL_nil, dn_par, dn_par3, dn_asg, dn_setlc, dn_exp, dn_ret, dn_iff, dn_aug, dn_forr, dn_whl, dn_brk, dn_cnt, dn_retn, start, wipeS, glLen, most, tyIs, Option.map_some, Option.bind_some, Option.some.injEq, List.map_cons, List.map_nil, List.cons_append, List.nil_append, List.length_cons, List.length_nil, List.reduceReplicate, List.getElem?_cons_zero, List.getElem?_cons_succ, List.set_cons_zero, List.set_cons_succ, Nat.reduceAdd, Nat.reduceSub, Nat.reduceLeDiff, decide_true, decide_false, if_true, Bool.true_and, Bool.and_true, Dv.bl.injEq, Dv.int.injEq, exists_eq_left, exists_eq_left', true_and, and_true, Bool.and_self, Bool.not_true, Bool.not_false, eq_self, ↓reduceIte, List.isEmpty_cons, Nat.zero_add, and_self, true_implies, decide_eq_true_eq, decide_eq_false_iff_not, dnE_var, dnE_gint, dnE_int, dnE_str, dnE_bl, dnE_non, dnE_tup, dnE_lst, dnE_bin, dnE_cmp, dnE_chain, dnE_not, dnE_neg, dnE_and, dnE_or, dnA_one, dnA_cons, dnO_one, dnO_cons, dnE_ife, dnE_ix, dnE_sl, dnS_slT, dnE_call, dnE_bi, dnE_bm, dnE_isi, dnE_dnew, dnE_disp, dnE_lc, dnE_lcStp, dnF_nil, dnF_cons, dnL_nil, dnL_cons, dnV_none, dnV_some, dnI_seq, dnI_rng1, dnI_rng2, dnI_enum, dnG_name, dnG_tup, dnG_sub, dnGL_nil, dnGL_cons, dnB_len_t, dnB_set0, dnB_int, ixs_t, src_t, cop_lt, cop_le, cop_gt, cop_ge, cop_eq, cop_ne, bop_add, bop_sub, bop_mul, bop_mod, bop_fdiv, bop_addT, bop_mulT, ixs_k h3', mD_seed])
    have b2 := fmod_lt (bl * bl + 69621 * ↑sp + S) 2147483629 (by omega)
    generalize (bl * bl + 69621 * ↑sp + S).fmod 2147483629 = bl2 at b2 ⊢
    have b3 := fmod_lt (((bl2 * 48271 + ↑sp).fmod 2147483647).fdiv 11) below (by omega)
    refine ⟨by omega, mulOk_r (by omega) (by omega), by omega, by decide, by omega, _, _, rfl, b3.1, b3.2, rfl, ?_⟩
    exact ⟨L, S, c, sp + 1, cells, h1, h2, h3', h4', h5, by omega, h7, h8⟩
end
end FF
end

section
set_option Elab.async false
set_option linter.all false
set_option maxRecDepth 100000
set_option maxHeartbeats 4000000
/-! PL14: the beginning of the draws; one of some. -/
namespace FF
open PySem

theorem dnS_slF {h : Hh} {a : Nat} {xs : List Dv} {l u : Option Int} {Q : Dv → Hh → Prop} (e : h[a]? = some (.fro xs)) : dnR (slS (.ref a) l u h) Q = Q (.ref h.length) (h ++ [.lst (cut xs l u)]) := by
  simp only [slS, e, dnR_ok]
theorem dnS_slL {h : Hh} {a : Nat} {xs : List Dv} {l u : Option Int} {Q : Dv → Hh → Prop} (e : h[a]? = some (.lst xs)) : dnR (slS (.ref a) l u h) Q = Q (.ref h.length) (h ++ [.lst (cut xs l u)]) := by
  simp only [slS, e, dnR_ok]
theorem cut_dropA {α : Type} (g : α → Dv) (xs : List α) (k : Nat) : cut (xs.map g) (some (k : Int)) none = (xs.drop k).map g := by
  unfold cut bnd
  simp only [List.length_map]
  rw [if_neg (by omega), Int.toNat_natCast, ← List.map_drop]
  by_cases h : k ≤ xs.length
  · rw [Nat.min_eq_left h, List.take_of_length_le (by simp)]
  · rw [Nat.min_eq_right (by omega), List.drop_eq_nil_of_le (Nat.le_refl _), List.drop_eq_nil_of_le (by omega)]
    simp
theorem bop_addL {h : Hh} {a b : Nat} {xs ys : List Dv} {Q : Dv → Hh → Prop} (e1 : h[a]? = some (.lst xs)) (e2 : h[b]? = some (.lst ys)) : dnR (bop .add (.ref a) (.ref b) h) Q = (decide (xs.length + ys.length ≤ most) = true ∧ Q (.ref h.length) (h ++ [.lst (xs ++ ys)])) := by
  simp only [bop, bop.seqOf, e1, e2, dn_iteP, dnR_ok]
theorem bop_pow18 {h : Hh} {Q : Dv → Hh → Prop} : dnR (bop .pow (.int 10) (.int 18) h) Q = Q (.int 1000000000000000000) h := by
  have : bop .pow (.int 10) (.int 18) h = .ok (.int 1000000000000000000) h := rfl
  rw [this, dnR_ok]
theorem foldlM_some {α β : Type} (f : α → β → α) (ys : List β) (s : α) : ys.foldlM (fun s y => some (f s y)) s = some (ys.foldl f s) := by
  induction ys generalizing s with
  | nil => rfl
  | cons y r ih => exact ih _
theorem disps_m {L S : Int} {c : Nat} : disps [.str "left", .str "seed", .str "cells", .str "spot"] [.int L, .int S, .ref c, .int 0] [] = some (mD L S c 0) := rfl
theorem mapO_filter {β γ : Type} (p : β → Bool) (g : β → γ) (ys : List β) : mapO (fun y => some (if p y = true then some (g y) else none)) ys = some ((ys.filter p).map g) := by
  induction ys with
  | nil => rfl
  | cons y r ih =>
    simp only [mapO]
    cases hp : p y with
    | true => rw [if_pos rfl]; simp only [ih, Option.map_some, List.filter_cons, hp, if_true, List.map_cons]
    | false => rw [if_neg (by decide)]; simp [ih, List.filter_cons, hp]
section
variable {wf : Nat} (hw : 2000 ≤ wf)
include hw
theorem begun_ok {n : Nat} {h : Hh} {a : Nat} {ns : List Int} {k : Nat} (hk : k ≤ 1000) (hl : ns.length ≤ 500) (ha : h[a]? = some (.fro (ns.map .int))) : dnR (callN Lw.T wf (n + 1) 6 [.ref a, .int k] h) fun v h' => ∃ m, v = .ref m ∧ h.length ≤ m ∧ MS h'.length h' m 0 ∧ h <+: h' := by
  refine call_ir rfl rfl ?_
  (try simp only [forall_const, reduceCtorEq, false_implies, implies_true, Bool.false_eq_true, Dv.tup.injEq, dnR_noX, dnS_toS, dnSL_cons, dnSL_nil, dn_par, dn_par3, dn_asg, dn_setlc, dn_exp, dn_ret, dn_iff, dn_aug, dn_forr, dn_whl, dn_brk, dn_cnt, dn_retn, start, wipeS, glLen, most, tyIs, Option.map_some, Option.bind_some, Option.some.injEq, List.map_cons, List.map_nil, List.cons_append, List.nil_append, List.length_cons, List.length_nil, List.reduceReplicate, List.getElem?_cons_zero, List.getElem?_cons_succ, List.set_cons_zero, List.set_cons_succ, Nat.reduceAdd, Nat.reduceSub, Nat.reduceLeDiff, decide_true, decide_false, if_true, Bool.true_and, Bool.and_true, Dv.bl.injEq, Dv.int.injEq, exists_eq_left, exists_eq_left', true_and, and_true, Bool.and_self, Bool.not_true, Bool.not_false, eq_self, ↓reduceIte, List.isEmpty_cons, Nat.zero_add, and_self, true_implies, decide_eq_true_eq, decide_eq_false_iff_not, dnE_var, dnE_gint, dnE_int, dnE_str, dnE_bl, dnE_non, dnE_tup, dnE_lst, dnE_bin, dnE_cmp, dnE_chain, dnE_not, dnE_neg, dnE_and, dnE_or, dnA_one, dnA_cons, dnO_one, dnO_cons, dnE_ife, dnE_ix, dnE_sl, dnS_slT, dnE_call, dnE_bi, dnE_bm, dnE_isi, dnE_dnew, dnE_disp, dnE_lc, dnE_lcStp, dnF_nil, dnF_cons, dnL_nil, dnL_cons, dnV_none, dnV_some, dnI_seq, dnI_rng1, dnI_rng2, dnI_enum, dnG_name, dnG_tup, dnG_sub, dnGL_nil, dnGL_cons, dnB_len_t, dnB_set0, dnB_int, ixs_t, src_t, cop_lt, cop_le, cop_gt, cop_ge, cop_eq, cop_ne, bop_add, bop_sub, bop_mul, bop_mod, bop_fdiv, bop_addT, bop_mulT, Lw.ir__law_begun, dnS_slF ha])
  have o := (Own.nil h).alloc (.lst ((ns.drop k).map .int))
  rw [cut_dropA]
  generalize h ++ [Ob.lst ((ns.drop k).map .int)] = h1 at o ⊢
  generalize hh : h.length = a1 at o ⊢
  (try simp only [forall_const, reduceCtorEq, false_implies, implies_true, Bool.false_eq_true, Dv.tup.injEq, dnR_noX, dnS_toS, dnSL_cons, dnSL_nil, dn_par, dn_par3, dn_asg, dn_setlc, dn_exp, dn_ret, dn_iff, dn_aug, dn_forr, dn_whl, dn_brk, dn_cnt, dn_retn, start, wipeS, glLen, most, tyIs, Option.map_some, Option.bind_some, Option.some.injEq, List.map_cons, List.map_nil, List.cons_append, List.nil_append, List.length_cons, List.length_nil, List.reduceReplicate, List.getElem?_cons_zero, List.getElem?_cons_succ, List.set_cons_zero, List.set_cons_succ, Nat.reduceAdd, Nat.reduceSub, Nat.reduceLeDiff, decide_true, decide_false, if_true, Bool.true_and, Bool.and_true, Dv.bl.injEq, Dv.int.injEq, exists_eq_left, exists_eq_left', true_and, and_true, Bool.and_self, Bool.not_true, Bool.not_false, eq_self, ↓reduceIte, List.isEmpty_cons, Nat.zero_add, and_self, true_implies, decide_eq_true_eq, decide_eq_false_iff_not, dnE_var, dnE_gint, dnE_int, dnE_str, dnE_bl, dnE_non, dnE_tup, dnE_lst, dnE_bin, dnE_cmp, dnE_chain, dnE_not, dnE_neg, dnE_and, dnE_or, dnA_one, dnA_cons, dnO_one, dnO_cons, dnE_ife, dnE_ix, dnE_sl, dnS_slT, dnE_call, dnE_bi, dnE_bm, dnE_isi, dnE_dnew, dnE_disp, dnE_lc, dnE_lcStp, dnF_nil, dnF_cons, dnL_nil, dnL_cons, dnV_none, dnV_some, dnI_seq, dnI_rng1, dnI_rng2, dnI_enum, dnG_name, dnG_tup, dnG_sub, dnGL_nil, dnGL_cons, dnB_len_t, dnB_set0, dnB_int, ixs_t, src_t, cop_lt, cop_le, cop_gt, cop_ge, cop_eq, cop_ne, bop_add, bop_sub, bop_mul, bop_mod, bop_fdiv, bop_addT, bop_mulT, dnS_slF (o.base ha), cut_take])
  have o := o.alloc (.lst ((ns.take k).map .int))
  generalize h1 ++ [Ob.lst ((ns.take k).map .int)] = h2 at o ⊢
  generalize h1.length = a2 at o ⊢
  (try simp only [forall_const, reduceCtorEq, false_implies, implies_true, Bool.false_eq_true, Dv.tup.injEq, dnR_noX, dnS_toS, dnSL_cons, dnSL_nil, dn_par, dn_par3, dn_asg, dn_setlc, dn_exp, dn_ret, dn_iff, dn_aug, dn_forr, dn_whl, dn_brk, dn_cnt, dn_retn, start, wipeS, glLen, most, tyIs, Option.map_some, Option.bind_some, Option.some.injEq, List.map_cons, List.map_nil, List.cons_append, List.nil_append, List.length_cons, List.length_nil, List.reduceReplicate, List.getElem?_cons_zero, List.getElem?_cons_succ, List.set_cons_zero, List.set_cons_succ, Nat.reduceAdd, Nat.reduceSub, Nat.reduceLeDiff, decide_true, decide_false, if_true, Bool.true_and, Bool.and_true, Dv.bl.injEq, Dv.int.injEq, exists_eq_left, exists_eq_left', true_and, and_true, Bool.and_self, Bool.not_true, Bool.not_false, eq_self, ↓reduceIte, List.isEmpty_cons, Nat.zero_add, and_self, true_implies, decide_eq_true_eq, decide_eq_false_iff_not, dnE_var, dnE_gint, dnE_int, dnE_str, dnE_bl, dnE_non, dnE_tup, dnE_lst, dnE_bin, dnE_cmp, dnE_chain, dnE_not, dnE_neg, dnE_and, dnE_or, dnA_one, dnA_cons, dnO_one, dnO_cons, dnE_ife, dnE_ix, dnE_sl, dnS_slT, dnE_call, dnE_bi, dnE_bm, dnE_isi, dnE_dnew, dnE_disp, dnE_lc, dnE_lcStp, dnF_nil, dnF_cons, dnL_nil, dnL_cons, dnV_none, dnV_some, dnI_seq, dnI_rng1, dnI_rng2, dnI_enum, dnG_name, dnG_tup, dnG_sub, dnGL_nil, dnGL_cons, dnB_len_t, dnB_set0, dnB_int, ixs_t, src_t, cop_lt, cop_le, cop_gt, cop_ge, cop_eq, cop_ne, bop_add, bop_sub, bop_mul, bop_mod, bop_fdiv, bop_addT, bop_mulT, bop_addL (o.at_ 1 rfl) (o.at_ 0 rfl), List.length_map])
  refine ⟨by simp; omega, ?_⟩
  rw [← List.map_append]
  generalize hcells : ns.drop k ++ ns.take k = cells
  have hcl : cells.length ≤ 500 := by
    rw [← hcells]
    simp
    omega
  have o := o.alloc (.lst (cells.map .int))
  generalize h2 ++ [Ob.lst (cells.map .int)] = h3 at o ⊢
  generalize h2.length = a3 at o ⊢
  have o := o.drop [(a3, .lst (cells.map .int))] (by simp)
  (try simp only [forall_const, reduceCtorEq, false_implies, implies_true, Bool.false_eq_true, Dv.tup.injEq, dnR_noX, dnS_toS, dnSL_cons, dnSL_nil, dn_par, dn_par3, dn_asg, dn_setlc, dn_exp, dn_ret, dn_iff, dn_aug, dn_forr, dn_whl, dn_brk, dn_cnt, dn_retn, start, wipeS, glLen, most, tyIs, Option.map_some, Option.bind_some, Option.some.injEq, List.map_cons, List.map_nil, List.cons_append, List.nil_append, List.length_cons, List.length_nil, List.reduceReplicate, List.getElem?_cons_zero, List.getElem?_cons_succ, List.set_cons_zero, List.set_cons_succ, Nat.reduceAdd, Nat.reduceSub, Nat.reduceLeDiff, decide_true, decide_false, if_true, Bool.true_and, Bool.and_true, Dv.bl.injEq, Dv.int.injEq, exists_eq_left, exists_eq_left', true_and, and_true, Bool.and_self, Bool.not_true, Bool.not_false, eq_self, ↓reduceIte, List.isEmpty_cons, Nat.zero_add, and_self, true_implies, decide_eq_true_eq, decide_eq_false_iff_not, dnE_var, dnE_gint, dnE_int, dnE_str, dnE_bl, dnE_non, dnE_tup, dnE_lst, dnE_bin, dnE_cmp, dnE_chain, dnE_not, dnE_neg, dnE_and, dnE_or, dnA_one, dnA_cons, dnO_one, dnO_cons, dnE_ife, dnE_ix, dnE_sl, dnS_slT, dnE_call, dnE_bi, dnE_bm, dnE_isi, dnE_dnew, dnE_disp, dnE_lc, dnE_lcStp, dnF_nil, dnF_cons, dnL_nil, dnL_cons, dnV_none, dnV_some, dnI_seq, dnI_rng1, dnI_rng2, dnI_enum, dnG_name, dnG_tup, dnG_sub, dnGL_nil, dnGL_cons, dnB_len_t, dnB_set0, dnB_int, ixs_t, src_t, cop_lt, cop_le, cop_gt, cop_ge, cop_eq, cop_ne, bop_add, bop_sub, bop_mul, bop_mod, bop_fdiv, bop_addT, bop_mulT, src_l (o.at_ 0 rfl), bop_pow18])
  refine lcL_sim (Q := _) Dv.int Dv.int cells (fun h1 => Own h h1 [(a3, .lst (cells.map .int))]) (fun y : Int => some (if decide (1000000000000000000 ≤ y) = true then some y else none)) (fun h1 o => seq_l (o.at_ 0 rfl)) ?_ (mapO_filter _ _ _) o (by omega) (by unfold most; omega) ?_
  · rintro h1 y r _ o e
    cases e
    (try simp only [forall_const, reduceCtorEq, false_implies, implies_true, Bool.false_eq_true, Dv.tup.injEq, dnR_noX, dnS_toS, dnSL_cons, dnSL_nil, dn_par, dn_par3, dn_asg, dn_setlc, dn_exp, dn_ret, dn_iff, dn_aug, dn_forr, dn_whl, dn_brk, dn_cnt, dn_retn, start, wipeS, glLen, most, tyIs, Option.map_some, Option.bind_some, Option.some.injEq, List.map_cons, List.map_nil, List.cons_append, List.nil_append, List.length_cons, List.length_nil, List.reduceReplicate, List.getElem?_cons_zero, List.getElem?_cons_succ, List.set_cons_zero, List.set_cons_succ, Nat.reduceAdd, Nat.reduceSub, Nat.reduceLeDiff, decide_true, decide_false, if_true, Bool.true_and, Bool.and_true, Dv.bl.injEq, Dv.int.injEq, exists_eq_left, exists_eq_left', true_and, and_true, Bool.and_self, Bool.not_true, Bool.not_false, eq_self, ↓reduceIte, List.isEmpty_cons, Nat.zero_add, and_self, true_implies, decide_eq_true_eq, decide_eq_false_iff_not, dnE_var, dnE_gint, dnE_int, dnE_str, dnE_bl, dnE_non, dnE_tup, dnE_lst, dnE_bin, dnE_cmp, dnE_chain, dnE_not, dnE_neg, dnE_and, dnE_or, dnA_one, dnA_cons, dnO_one, dnO_cons, dnE_ife, dnE_ix, dnE_sl, dnS_slT, dnE_call, dnE_bi, dnE_bm, dnE_isi, dnE_dnew, dnE_disp, dnE_lc, dnE_lcStp, dnF_nil, dnF_cons, dnL_nil, dnL_cons, dnV_none, dnV_some, dnI_seq, dnI_rng1, dnI_rng2, dnI_enum, dnG_name, dnG_tup, dnG_sub, dnGL_nil, dnGL_cons, dnB_len_t, dnB_set0, dnB_int, ixs_t, src_t, cop_lt, cop_le, cop_gt, cop_ge, cop_eq, cop_ne, bop_add, bop_sub, bop_mul, bop_mod, bop_fdiv, bop_addT, bop_mulT, bop_pow18])
    refine ⟨fun z => ?_, fun z => ?_⟩
    · rw [if_pos (by simpa using z)]
      exact ⟨rfl, o⟩
    · rw [if_neg (by simpa using z)]
      exact ⟨rfl, o⟩
  rw [List.map_id' (List.filter _ _)]
  intro h4 o
  generalize List.filter _ _ = great
  have o := o.alloc (.lst (great.map .int))
  generalize h4 ++ [Ob.lst (great.map .int)] = h5 at o ⊢
  generalize h4.length = g at o ⊢
  (try simp only [forall_const, reduceCtorEq, false_implies, implies_true, Bool.false_eq_true, Dv.tup.injEq, dnR_noX, dnS_toS, dnSL_cons, dnSL_nil, dn_par, dn_par3, dn_asg, dn_setlc, dn_exp, dn_ret, dn_iff, dn_aug, dn_forr, dn_whl, dn_brk, dn_cnt, dn_retn, start, wipeS, glLen, most, tyIs, Option.map_some, Option.bind_some, Option.some.injEq, List.map_cons, List.map_nil, List.cons_append, List.nil_append, List.length_cons, List.length_nil, List.reduceReplicate, List.getElem?_cons_zero, List.getElem?_cons_succ, List.set_cons_zero, List.set_cons_succ, Nat.reduceAdd, Nat.reduceSub, Nat.reduceLeDiff, decide_true, decide_false, if_true, Bool.true_and, Bool.and_true, Dv.bl.injEq, Dv.int.injEq, exists_eq_left, exists_eq_left', true_and, and_true, Bool.and_self, Bool.not_true, Bool.not_false, eq_self, ↓reduceIte, List.isEmpty_cons, Nat.zero_add, and_self, true_implies, decide_eq_true_eq, decide_eq_false_iff_not, dnE_var, dnE_gint, dnE_int, dnE_str, dnE_bl, dnE_non, dnE_tup, dnE_lst, dnE_bin, dnE_cmp, dnE_chain, dnE_not, dnE_neg, dnE_and, dnE_or, dnA_one, dnA_cons, dnO_one, dnO_cons, dnE_ife, dnE_ix, dnE_sl, dnS_slT, dnE_call, dnE_bi, dnE_bm, dnE_isi, dnE_dnew, dnE_disp, dnE_lc, dnE_lcStp, dnF_nil, dnF_cons, dnL_nil, dnL_cons, dnV_none, dnV_some, dnI_seq, dnI_rng1, dnI_rng2, dnI_enum, dnG_name, dnG_tup, dnG_sub, dnGL_nil, dnGL_cons, dnB_len_t, dnB_set0, dnB_int, ixs_t, src_t, cop_lt, cop_le, cop_gt, cop_ge, cop_eq, cop_ne, bop_add, bop_sub, bop_mul, bop_mod, bop_fdiv, bop_addT, bop_mulT, src_l (o.at_ 1 rfl)])
  refine forL_sim Dv.int cells (fun (s : Int) σ h1 => ∃ y, σ = [some (.ref a), some (.int k), some (.ref a3), y, some (.ref g), some (.int s)] ∧ Own h h1 [(g, .lst (great.map .int)), (a3, .lst (cells.map .int))] ∧ 0 ≤ s ∧ s < 2147483648) (fun s y => some ((s * 48271 + y).fmod 2147483647)) ?_ ?_ (foldlM_some _ _ (71 + (k : Int))) ⟨_, rfl, o, by omega, by omega⟩ (by omega) ?_
  · rintro s σ h1 ⟨y, rfl, o, _⟩
    exact seq_l (o.at_ 1 rfl)
  · rintro s t σ h1 y _ ⟨z, rfl, o, b1, b2⟩ e
    cases e
    have := fmod_lt (s * 48271 + y) 2147483647 (by omega)
    (try simp only [forall_const, reduceCtorEq, false_implies, implies_true, Bool.false_eq_true, Dv.tup.injEq, dnR_noX, dnS_toS, dnSL_cons, dnSL_nil, dn_par, dn_par3, dn_asg, dn_setlc, dn_exp, dn_ret, dn_iff, dn_aug, dn_forr, dn_whl, dn_brk, dn_cnt, dn_retn, start, wipeS, glLen, most, tyIs, Option.map_some, Option.bind_some, Option.some.injEq, List.map_cons, List.map_nil, List.cons_append, List.nil_append, List.length_cons, List.length_nil, List.reduceReplicate, List.getElem?_cons_zero, List.getElem?_cons_succ, List.set_cons_zero, List.set_cons_succ, Nat.reduceAdd, Nat.reduceSub, Nat.reduceLeDiff, decide_true, decide_false, if_true, Bool.true_and, Bool.and_true, Dv.bl.injEq, Dv.int.injEq, exists_eq_left, exists_eq_left', true_and, and_true, Bool.and_self, Bool.not_true, Bool.not_false, eq_self, ↓reduceIte, List.isEmpty_cons, Nat.zero_add, and_self, true_implies, decide_eq_true_eq, decide_eq_false_iff_not, dnE_var, dnE_gint, dnE_int, dnE_str, dnE_bl, dnE_non, dnE_tup, dnE_lst, dnE_bin, dnE_cmp, dnE_chain, dnE_not, dnE_neg, dnE_and, dnE_or, dnA_one, dnA_cons, dnO_one, dnO_cons, dnE_ife, dnE_ix, dnE_sl, dnS_slT, dnE_call, dnE_bi, dnE_bm, dnE_isi, dnE_dnew, dnE_disp, dnE_lc, dnE_lcStp, dnF_nil, dnF_cons, dnL_nil, dnL_cons, dnV_none, dnV_some, dnI_seq, dnI_rng1, dnI_rng2, dnI_enum, dnG_name, dnG_tup, dnG_sub, dnGL_nil, dnGL_cons, dnB_len_t, dnB_set0, dnB_int, ixs_t, src_t, cop_lt, cop_le, cop_gt, cop_ge, cop_eq, cop_ne, bop_add, bop_sub, bop_mul, bop_mod, bop_fdiv, bop_addT, bop_mulT])
    refine ⟨mulOk_l (by omega) (by omega), by omega, _, rfl, o, by omega, by omega⟩
  · rintro σ h1 ⟨z, rfl, o, b1, b2⟩
    generalize List.foldl _ _ _ = S at b1 b2 ⊢
    have o1 := o.alloc (.lst [])
    have o2 := o1.alloc (.lst [.int (53 * (k : Int) + 11)])
    have fin : ∀ (L : Int), dnR (bop .add (.ref a3) (.ref (h1 ++ [Ob.lst []]).length) (h1 ++ [Ob.lst []] ++ [Ob.lst [.int (53 * (k : Int) + 11)]])) fun v h1 => ∃ kvs, disps [.str "left", .str "seed", .str "cells", .str "spot"] [.int L, .int S, v, .int 0] [] = some kvs ∧ kvs.length ≤ 15 ∧ ∃ m, Dv.ref h1.length = .ref m ∧ a1 ≤ m ∧ MS (h1 ++ [Ob.dk kvs]).length (h1 ++ [Ob.dk kvs]) m 0 ∧ h <+: h1 ++ [Ob.dk kvs] := by
      intro L
      rw [bop_addL (o2.at_ 3 rfl) (o2.at_ 0 rfl)]
      have o3 := o2.alloc (.lst ((cells ++ [53 * (k : Int) + 11]).map .int))
      have em : List.map Dv.int cells ++ [Dv.int (53 * (k : Int) + 11)] = (cells ++ [53 * (k : Int) + 11]).map .int := by simp
      rw [em]
      generalize h1 ++ [Ob.lst []] ++ [Ob.lst [.int (53 * (k : Int) + 11)]] = h6 at o3 ⊢
      have hcl : (cells ++ [53 * (k : Int) + 11]) ≠ [] := by simp
      generalize (cells ++ [53 * (k : Int) + 11]) = cl at o3 hcl ⊢
      refine ⟨by simp [most]; omega, mD L S h6.length 0, disps_m, by simp [mD], _, rfl, ?_, ?_, ?_⟩
      · have := o3.pre.length_le
        omega
      · refine ⟨L, S, h6.length, 0, cl, by simp, by simp, get_fr, get_fr2, hcl, by omega, b1, b2⟩
      · exact o3.pre.trans (List.prefix_append _ _)
    (try simp only [forall_const, reduceCtorEq, false_implies, implies_true, Bool.false_eq_true, Dv.tup.injEq, dnR_noX, dnS_toS, dnSL_cons, dnSL_nil, dn_par, dn_par3, dn_asg, dn_setlc, dn_exp, dn_ret, dn_iff, dn_aug, dn_forr, dn_whl, dn_brk, dn_cnt, dn_retn, start, wipeS, glLen, most, tyIs, Option.map_some, Option.bind_some, Option.some.injEq, List.map_cons, List.map_nil, List.cons_append, List.nil_append, List.length_cons, List.length_nil, List.reduceReplicate, List.getElem?_cons_zero, List.getElem?_cons_succ, List.set_cons_zero, List.set_cons_succ, Nat.reduceAdd, Nat.reduceSub, Nat.reduceLeDiff, decide_true, decide_false, if_true, Bool.true_and, Bool.and_true, Dv.bl.injEq, Dv.int.injEq, exists_eq_left, exists_eq_left', true_and, and_true, Bool.and_self, Bool.not_true, Bool.not_false, eq_self, ↓reduceIte, List.isEmpty_cons, Nat.zero_add, and_self, true_implies, decide_eq_true_eq, decide_eq_false_iff_not, dnE_var, dnE_gint, dnE_int, dnE_str, dnE_bl, dnE_non, dnE_tup, dnE_lst, dnE_bin, dnE_cmp, dnE_chain, dnE_not, dnE_neg, dnE_and, dnE_or, dnA_one, dnA_cons, dnO_one, dnO_cons, dnE_ife, dnE_ix, dnE_sl, dnS_slT, dnE_call, dnE_bi, dnE_bm, dnE_isi, dnE_dnew, dnE_disp, dnE_lc, dnE_lcStp, dnF_nil, dnF_cons, dnL_nil, dnL_cons, dnV_none, dnV_some, dnI_seq, dnI_rng1, dnI_rng2, dnI_enum, dnG_name, dnG_tup, dnG_sub, dnGL_nil, dnGL_cons, dnB_len_t, dnB_set0, dnB_int, ixs_t, src_t, cop_lt, cop_le, cop_gt, cop_ge, cop_eq, cop_ne, bop_add, bop_sub, bop_mul, bop_mod, bop_fdiv, bop_addT, bop_mulT, cop_ne_nil (o1.at_ 1 rfl) (o1.at_ 0 rfl)])
    refine ⟨fun hg => ?_, fun hg => ⟨mulOk_l (by omega) (by omega), fin 0⟩⟩
    cases great with
    | nil => simp at hg
    | cons x r =>
      refine ⟨.int x, ?_, mulOk_l (by omega) (by omega), fin x⟩
      rw [ixs_l (o1.at_ 1 rfl)]
      exact at0_c0
end
end FF
end

section
set_option Elab.async false
set_option linter.all false
set_option maxRecDepth 100000
set_option maxHeartbeats 4000000
/-! PL15: what is owned while numbers are drawn; one of some; one more edge of flags. -/
namespace FF
open PySem

/-- owned cells l above b, the draws' state m below b, all else below b as in h0 -/
def OwnM (m b k : Nat) (h0 h : Hh) (l : List (Nat × Ob)) : Prop := b ≤ h.length ∧ (∀ a, a < b → a ≠ m → (∀ xs : List Int, h0[a]? = some (.fro (xs.map .int)) → h[a]? = some (.fro (xs.map .int)))) ∧ (∀ p ∈ l, b ≤ p.1 ∧ h[p.1]? = some p.2) ∧ (l.map (·.1)).Nodup ∧ MS b h m k
namespace OwnM
variable {m b k : Nat} {h0 h h' : Hh} {l : List (Nat × Ob)} {a : Nat} {x y : Ob}
theorem start (x : MS b h m k) (hb : b ≤ h.length) : OwnM m h.length k h h [] := ⟨Nat.le_refl _, fun _ _ _ _ e => e, by simp, by simp, x.mono hb (Nat.le_refl _)⟩
theorem ms (o : OwnM m b k h0 h l) : MS b h m k := o.2.2.2.2
theorem at_ (o : OwnM m b k h0 h l) (i : Nat) (e : l[i]? = some (a, x)) : h[a]? = some x := (o.2.2.1 _ (List.mem_of_getElem? e)).2
theorem ge (o : OwnM m b k h0 h l) (i : Nat) (e : l[i]? = some (a, x)) : b ≤ a := (o.2.2.1 _ (List.mem_of_getElem? e)).1
theorem lt (o : OwnM m b k h0 h l) (i : Nat) (e : l[i]? = some (a, x)) : a < h.length := (List.getElem?_eq_some_iff.mp (o.at_ i e)).1
theorem ne (o : OwnM m b k h0 h l) (i : Nat) (e : l[i]? = some (a, x)) : a ≠ m := by
  have := o.ge i e
  obtain ⟨L, S, c, sp, cells, h1, _⟩ := o.ms
  omega
theorem nn (o : OwnM m b k h0 h l) {i j : Nat} {c d : Nat} {x y : Ob} (e1 : l[i]? = some (c, x)) (e2 : l[j]? = some (d, y)) (hij : i ≠ j) : c ≠ d := by
  rintro rfl
  have h1 : (l.map (·.1))[i]? = some c := by rw [List.getElem?_map, e1]; rfl
  have h2 : (l.map (·.1))[j]? = some c := by rw [List.getElem?_map, e2]; rfl
  have n := o.2.2.2.1
  have i1 := List.getElem?_eq_some_iff.mp h1
  have i2 := List.getElem?_eq_some_iff.mp h2
  have ee := i1.2.trans i2.2.symm
  rcases Nat.lt_trichotomy i j with lt | eq | gt
  · exact absurd ee (List.pairwise_iff_getElem.mp n i j i1.1 i2.1 lt)
  · exact hij eq
  · exact absurd ee.symm (List.pairwise_iff_getElem.mp n j i i2.1 i1.1 gt)
theorem ext (o : OwnM m b k h0 h l) (p : h <+: h') : OwnM m b k h0 h' l := by
  have keep : ∀ {a : Nat} {x : Ob}, h[a]? = some x → h'[a]? = some x := by
    obtain ⟨g, rfl⟩ := p
    intro a x e
    rw [List.getElem?_append_left (List.getElem?_eq_some_iff.mp e).1]
    exact e
  exact ⟨Nat.le_trans o.1 p.length_le, fun a ha hm xs e => keep (o.2.1 a ha hm xs e), fun q mq => ⟨(o.2.2.1 q mq).1, keep (o.2.2.1 q mq).2⟩, o.2.2.2.1, o.ms.ext p⟩
theorem garb (o : OwnM m b k h0 h l) (g : Hh) : OwnM m b k h0 (h ++ g) l := o.ext (List.prefix_append _ _)
theorem alloc (o : OwnM m b k h0 h l) (x : Ob) : OwnM m b k h0 (h ++ [x]) ((h.length, x) :: l) := by
  have q := o.garb [x]
  refine ⟨q.1, q.2.1, ?_, ?_, q.ms⟩
  · intro p mp
    rcases List.mem_cons.mp mp with rfl | mp
    · exact ⟨o.1, by simp⟩
    · exact q.2.2.1 p mp
  · rw [List.map_cons, List.nodup_cons]
    refine ⟨fun mm => ?_, o.2.2.2.1⟩
    obtain ⟨p, mp, e⟩ := List.mem_map.mp mm
    have := (o.2.2.1 p mp).2
    have := (List.getElem?_eq_some_iff.mp this).1
    omega
theorem set (o : OwnM m b k h0 h l) (i : Nat) (e : l[i]? = some (a, x)) (y : Ob) : OwnM m b k h0 (h.set a y) (l.set i (a, y)) := by
  have lt := (List.getElem?_eq_some_iff.mp e).1
  have hm : (l.set i (a, y)).map (·.1) = l.map (·.1) := by
    apply List.ext_getElem?
    intro j
    rw [List.getElem?_map, List.getElem?_map, List.getElem?_set]
    by_cases hj : i = j
    · subst hj
      rw [if_pos rfl, if_pos lt, e]
      rfl
    · rw [if_neg hj]
  refine ⟨by rw [List.length_set]; exact o.1, fun a' ha' hm' xs e' => ?_, ?_, by rw [hm]; exact o.2.2.2.1, o.ms.set (o.ge i e) y⟩
  · have := o.ge i e
    rw [List.getElem?_set_ne (by omega)]
    exact o.2.1 a' ha' hm' xs e'
  · intro p mp
    obtain ⟨j, hj⟩ := List.mem_iff_getElem?.mp mp
    rw [List.getElem?_set] at hj
    by_cases hij : i = j
    · subst hij
      rw [if_pos rfl, if_pos lt] at hj
      cases hj
      exact ⟨o.ge i e, by rw [List.getElem?_set, if_pos rfl, if_pos (o.lt i e)]⟩
    · rw [if_neg hij] at hj
      refine ⟨(o.2.2.1 _ (List.mem_of_getElem? hj)).1, ?_⟩
      rw [List.getElem?_set, if_neg (o.nn e hj hij), (o.2.2.1 _ (List.mem_of_getElem? hj)).2]
theorem drop (o : OwnM m b k h0 h l) (l' : List (Nat × Ob)) (s : l'.Sublist l) : OwnM m b k h0 h l' := ⟨o.1, o.2.1, fun p mp => o.2.2.1 p (s.subset mp), (s.map _).nodup o.2.2.2.1, o.ms⟩
theorem drawn {k' : Nat} {ob : Ob} (o : OwnM m b k h0 h l) (e : h' = h.set m ob) (x : MS b h' m k') : OwnM m b k' h0 h' l := by
  subst e
  obtain ⟨L, S, c, sp, cells, h1, _⟩ := o.ms
  refine ⟨by rw [List.length_set]; exact o.1, fun a ha hm xs e => ?_, fun p mp => ⟨(o.2.2.1 p mp).1, ?_⟩, o.2.2.2.1, x⟩
  · rw [List.getElem?_set_ne (by omega)]
    exact o.2.1 a ha hm xs e
  · have := (o.2.2.1 p mp).1
    rw [List.getElem?_set_ne (by omega)]
    exact (o.2.2.1 p mp).2
theorem mono {k' : Nat} (o : OwnM m b k h0 h l) (hk : k ≤ k') : OwnM m b k' h0 h l := ⟨o.1, o.2.1, o.2.2.1, o.2.2.2.1, o.ms.mono (Nat.le_refl _) hk⟩
end OwnM
section
variable {wf : Nat} (hw : 2000 ≤ wf)
include hw
theorem of_ok {n b m k s : Nat} {h : Hh} {xs : List Dv} (x : MS b h m k) (hk : k ≤ 1000000) (hs : h[s]? = some (.lst xs)) (h1 : 1 ≤ xs.length) (h2 : xs.length < 1000) : dnR (callN Lw.T wf (n + 2) 8 [.ref m, .ref s] h) fun v h' => ∃ (ob : Ob), v ∈ xs ∧ h' = h.set m ob ∧ MS b h' m (k + 1) := by
  refine call_ir rfl rfl ?_
  have hsm : s ≠ m := by
    rintro rfl
    obtain ⟨L, S, c, sp, cells, q1, q2, q3, _⟩ := x
    rw [q3] at hs
    cases hs
  (try simp only [forall_const, reduceCtorEq, false_implies, implies_true, Bool.false_eq_true, Dv.tup.injEq, dnR_noX, dnS_toS, dnSL_cons, dnSL_nil, dn_par, dn_par3, dn_asg, dn_setlc, dn_exp, dn_ret, dn_iff, dn_aug, dn_forr, dn_whl, dn_brk, dn_cnt, dn_retn, start, wipeS, glLen, most, tyIs, Option.map_some, Option.bind_some, Option.some.injEq, List.map_cons, List.map_nil, List.cons_append, List.nil_append, List.length_cons, List.length_nil, List.reduceReplicate, List.getElem?_cons_zero, List.getElem?_cons_succ, List.set_cons_zero, List.set_cons_succ, Nat.reduceAdd, Nat.reduceSub, Nat.reduceLeDiff, decide_true, decide_false, if_true, Bool.true_and, Bool.and_true, Dv.bl.injEq, Dv.int.injEq, exists_eq_left, exists_eq_left', true_and, and_true, Bool.and_self, Bool.not_true, Bool.not_false, eq_self, ↓reduceIte, List.isEmpty_cons, Nat.zero_add, and_self, true_implies, decide_eq_true_eq, decide_eq_false_iff_not, dnE_var, dnE_gint, dnE_int, dnE_str, dnE_bl, dnE_non, dnE_tup, dnE_lst, dnE_bin, dnE_cmp, dnE_chain, dnE_not, dnE_neg, dnE_and, dnE_or, dnA_one, dnA_cons, dnO_one, dnO_cons, dnE_ife, dnE_ix, dnE_sl, dnS_slT, dnE_call, dnE_bi, dnE_bm, dnE_isi, dnE_dnew, dnE_disp, dnE_lc, dnE_lcStp, dnF_nil, dnF_cons, dnL_nil, dnL_cons, dnV_none, dnV_some, dnI_seq, dnI_rng1, dnI_rng2, dnI_enum, dnG_name, dnG_tup, dnG_sub, dnGL_nil, dnGL_cons, dnB_len_t, dnB_set0, dnB_int, ixs_t, src_t, cop_lt, cop_le, cop_gt, cop_ge, cop_eq, cop_ne, bop_add, bop_sub, bop_mul, bop_mod, bop_fdiv, bop_addT, bop_mulT, Lw.ir__law_of, dnB_len_l hs])
  refine dnR.imp (draw_ok hw x hk (by omega) (by omega)) ?_
  rintro _ h' ⟨d, ob, rfl, d1, d2, rfl, x'⟩
  have hs' : (h.set m ob)[s]? = some (.lst xs) := by rw [List.getElem?_set_ne (by omega)]; exact hs
  rw [ixs_l hs']
  have hd : d.toNat < xs.length := by omega
  refine ⟨xs[d.toNat], ?_, ob, List.getElem_mem hd, rfl, x'⟩
  unfold at0 ixA
  rw [if_pos d1, if_pos d2]
  simp [List.getElem?_eq_getElem hd]
end
/-! one more edge -/
structure Wd where
  w : Str
  a : List Int
  c : List Int
def wds : List Wd := [⟨"four", [1, 0, 3, 2], [2, 3, 0, 1]⟩, ⟨"zero", [1, 0], [0, 1]⟩, ⟨"two", [0, 1], [1, 0]⟩, ⟨"both", [1, 0], [1, 0]⟩, ⟨"one", [0], [0]⟩]
def putA (base : Nat) (r f : List Int) : List Int := r ++ f.map fun e => (base : Int) + e
def putB (base : Nat) (r : List Int) (n : Nat) : List Int := r ++ (List.range n).map fun k : Nat => (base : Int) + (k : Int)
def wdD (a1 a2 a3 a4 a5 : Nat) : List ((Int ⊕ Str) × Dv) := [(.inr "four", .ref a1), (.inr "zero", .ref a2), (.inr "two", .ref a3), (.inr "both", .ref a4), (.inr "one", .ref a5)]
theorem disps_w {a1 a2 a3 a4 a5 : Nat} : disps [.str "four", .str "zero", .str "two", .str "both", .str "one"] [.ref a1, .ref a2, .ref a3, .ref a4, .ref a5] [] = some (wdD a1 a2 a3 a4 a5) := rfl
theorem wdD_four {a1 a2 a3 a4 a5 : Nat} : kLook (wdD a1 a2 a3 a4 a5) (.inr "four") = some (.ref a1) := rfl
theorem wdD_zero {a1 a2 a3 a4 a5 : Nat} : kLook (wdD a1 a2 a3 a4 a5) (.inr "zero") = some (.ref a2) := rfl
theorem wdD_two {a1 a2 a3 a4 a5 : Nat} : kLook (wdD a1 a2 a3 a4 a5) (.inr "two") = some (.ref a3) := rfl
theorem wdD_both {a1 a2 a3 a4 a5 : Nat} : kLook (wdD a1 a2 a3 a4 a5) (.inr "both") = some (.ref a4) := rfl
theorem wdD_one {a1 a2 a3 a4 a5 : Nat} : kLook (wdD a1 a2 a3 a4 a5) (.inr "one") = some (.ref a5) := rfl
theorem wd_pick {m b k d a1 a2 a3 a4 a5 : Nat} {h0 h : Hh} {l : List (Nat × Ob)} {w : Wd} (hwd : w ∈ wds) (f : Wd → List Int) (o : OwnM m b k h0 h ((d, .dk (wdD a1 a2 a3 a4 a5)) :: (a5, .lst ((f ⟨"one", [0], [0]⟩).map .int)) :: (a4, .lst ((f ⟨"both", [1, 0], [1, 0]⟩).map .int)) :: (a3, .lst ((f ⟨"two", [0, 1], [1, 0]⟩).map .int)) :: (a2, .lst ((f ⟨"zero", [1, 0], [0, 1]⟩).map .int)) :: (a1, .lst ((f ⟨"four", [1, 0, 3, 2], [2, 3, 0, 1]⟩).map .int)) :: l)) : ∃ af, ixs (.ref d) (.str w.w) h = some (.ref af) ∧ OwnM m b k h0 h ((af, .lst ((f w).map .int)) :: l) := by
  rw [ixs_k (o.at_ 0 rfl)]
  simp only [wds, List.mem_cons, List.not_mem_nil, or_false] at hwd
  rcases hwd with rfl | rfl | rfl | rfl | rfl
  · exact ⟨a1, wdD_four, o.drop _ (by repeat (first | exact List.Sublist.refl _ | apply List.Sublist.cons₂ | apply List.Sublist.cons))⟩
  · exact ⟨a2, wdD_zero, o.drop _ (by repeat (first | exact List.Sublist.refl _ | apply List.Sublist.cons₂ | apply List.Sublist.cons))⟩
  · exact ⟨a3, wdD_two, o.drop _ (by repeat (first | exact List.Sublist.refl _ | apply List.Sublist.cons₂ | apply List.Sublist.cons))⟩
  · exact ⟨a4, wdD_both, o.drop _ (by repeat (first | exact List.Sublist.refl _ | apply List.Sublist.cons₂ | apply List.Sublist.cons))⟩
  · exact ⟨a5, wdD_one, o.drop _ (by repeat (first | exact List.Sublist.refl _ | apply List.Sublist.cons₂ | apply List.Sublist.cons))⟩
section
variable {wf : Nat} (hw : 2000 ≤ wf)
include hw
theorem put_ok {n m b k R A B C : Nat} {h0 h : Hh} {r0 r1 r2 : List Int} {w : Wd} {l : List (Nat × Ob)} (hwd : w ∈ wds) (h1 : r0.length < 1000) (h2 : r1.length < 1000) (h3 : r2.length < 1000)
    (o : OwnM m b k h0 h ((R, .lst [.ref A, .ref B, .ref C]) :: (A, .lst (r0.map .int)) :: (B, .lst (r1.map .int)) :: (C, .lst (r2.map .int)) :: l)) :
    dnR (callN Lw.T wf (n + 1) 9 [.ref R, .str w.w] h) fun v h' => v = .int (w.a.length : Nat) ∧ OwnM m b k h0 h' ((R, .lst [.ref A, .ref B, .ref C]) :: (A, .lst ((putA r0.length r0 w.a).map .int)) :: (B, .lst ((putB r0.length r1 w.a.length).map .int)) :: (C, .lst ((putA r0.length r2 w.c).map .int)) :: l) := by
  refine call_ir rfl rfl ?_
  (try simp only [forall_const, reduceCtorEq, false_implies, implies_true, Bool.false_eq_true, Dv.tup.injEq, dnR_noX, dnS_toS, dnSL_cons, dnSL_nil, dn_par, dn_par3, dn_asg, dn_setlc, dn_exp, dn_ret, dn_iff, dn_aug, dn_forr, dn_whl, dn_brk, dn_cnt, dn_retn, start, wipeS, glLen, most, tyIs, Option.map_some, Option.bind_some, Option.some.injEq, List.map_cons, List.map_nil, List.cons_append, List.nil_append, List.length_cons, List.length_nil, List.reduceReplicate, List.getElem?_cons_zero, List.getElem?_cons_succ, List.set_cons_zero, List.set_cons_succ, Nat.reduceAdd, Nat.reduceSub, Nat.reduceLeDiff, decide_true, decide_false, if_true, Bool.true_and, Bool.and_true, Dv.bl.injEq, Dv.int.injEq, exists_eq_left, exists_eq_left', true_and, and_true, Bool.and_self, Bool.not_true, Bool.not_false, eq_self, ↓reduceIte, List.isEmpty_cons, Nat.zero_add, and_self, true_implies, decide_eq_true_eq, decide_eq_false_iff_not, dnE_var, dnE_gint, dnE_int, dnE_str, dnE_bl, dnE_non, dnE_tup, dnE_lst, dnE_bin, dnE_cmp, dnE_chain, dnE_not, dnE_neg, dnE_and, dnE_or, dnA_one, dnA_cons, dnO_one, dnO_cons, dnE_ife, dnE_ix, dnE_sl, dnS_slT, dnE_call, dnE_bi, dnE_bm, dnE_isi, dnE_dnew, dnE_disp, dnE_lc, dnE_lcStp, dnF_nil, dnF_cons, dnL_nil, dnL_cons, dnV_none, dnV_some, dnI_seq, dnI_rng1, dnI_rng2, dnI_enum, dnG_name, dnG_tup, dnG_sub, dnGL_nil, dnGL_cons, dnB_len_t, dnB_set0, dnB_int, ixs_t, src_t, cop_lt, cop_le, cop_gt, cop_ge, cop_eq, cop_ne, bop_add, bop_sub, bop_mul, bop_mod, bop_fdiv, bop_addT, bop_mulT, Lw.ir__law_put, ixs_l (o.at_ 0 rfl), at0_c0, dnB_len_l (o.at_ 1 rfl), List.length_map])
  have o := o.alloc (.lst [.int 1, .int 0, .int 3, .int 2])
  generalize h ++ [Ob.lst [.int 1, .int 0, .int 3, .int 2]] = g1 at o ⊢
  generalize h.length = ag1 at o ⊢
  have o := o.alloc (.lst [.int 1, .int 0])
  generalize g1 ++ [Ob.lst [.int 1, .int 0]] = g2 at o ⊢
  generalize g1.length = ag2 at o ⊢
  have o := o.alloc (.lst [.int 0, .int 1])
  generalize g2 ++ [Ob.lst [.int 0, .int 1]] = g3 at o ⊢
  generalize g2.length = ag3 at o ⊢
  have o := o.alloc (.lst [.int 1, .int 0])
  generalize g3 ++ [Ob.lst [.int 1, .int 0]] = g4 at o ⊢
  generalize g3.length = ag4 at o ⊢
  have o := o.alloc (.lst [.int 0])
  generalize g4 ++ [Ob.lst [.int 0]] = g5 at o ⊢
  generalize g4.length = ag5 at o ⊢
  refine ⟨wdD _ _ _ _ _, disps_w, by simp [wdD], ?_⟩
  have o := o.alloc (.dk (wdD ag1 ag2 ag3 ag4 ag5))
  generalize g5 ++ [Ob.dk (wdD ag1 ag2 ag3 ag4 ag5)] = g6 at o ⊢
  generalize g5.length = ag6 at o ⊢
  obtain ⟨af, e1, o⟩ := wd_pick hwd Wd.a o
  refine ⟨_, e1, ?_⟩
  have o := o.alloc (.lst [.int 2, .int 3, .int 0, .int 1])
  generalize g6 ++ [Ob.lst [.int 2, .int 3, .int 0, .int 1]] = k1 at o ⊢
  generalize g6.length = ak1 at o ⊢
  have o := o.alloc (.lst [.int 0, .int 1])
  generalize k1 ++ [Ob.lst [.int 0, .int 1]] = k2 at o ⊢
  generalize k1.length = ak2 at o ⊢
  have o := o.alloc (.lst [.int 1, .int 0])
  generalize k2 ++ [Ob.lst [.int 1, .int 0]] = k3 at o ⊢
  generalize k2.length = ak3 at o ⊢
  have o := o.alloc (.lst [.int 1, .int 0])
  generalize k3 ++ [Ob.lst [.int 1, .int 0]] = k4 at o ⊢
  generalize k3.length = ak4 at o ⊢
  have o := o.alloc (.lst [.int 0])
  generalize k4 ++ [Ob.lst [.int 0]] = k5 at o ⊢
  generalize k4.length = ak5 at o ⊢
  refine ⟨wdD _ _ _ _ _, disps_w, by simp [wdD], ?_⟩
  have o := o.alloc (.dk (wdD ak1 ak2 ak3 ak4 ak5))
  generalize k5 ++ [Ob.dk (wdD ak1 ak2 ak3 ak4 ak5)] = k6 at o ⊢
  generalize k5.length = ak6 at o ⊢
  obtain ⟨ac, e2, o⟩ := wd_pick hwd Wd.c o
  refine ⟨_, e2, ?_⟩
  have hwl : w.a.length ≤ 4 ∧ w.c.length ≤ 4 := by
    simp only [wds, List.mem_cons, List.not_mem_nil, or_false] at hwd
    rcases hwd with rfl | rfl | rfl | rfl | rfl <;> decide
  (try simp only [forall_const, reduceCtorEq, false_implies, implies_true, Bool.false_eq_true, Dv.tup.injEq, dnR_noX, dnS_toS, dnSL_cons, dnSL_nil, dn_par, dn_par3, dn_asg, dn_setlc, dn_exp, dn_ret, dn_iff, dn_aug, dn_forr, dn_whl, dn_brk, dn_cnt, dn_retn, start, wipeS, glLen, most, tyIs, Option.map_some, Option.bind_some, Option.some.injEq, List.map_cons, List.map_nil, List.cons_append, List.nil_append, List.length_cons, List.length_nil, List.reduceReplicate, List.getElem?_cons_zero, List.getElem?_cons_succ, List.set_cons_zero, List.set_cons_succ, Nat.reduceAdd, Nat.reduceSub, Nat.reduceLeDiff, decide_true, decide_false, if_true, Bool.true_and, Bool.and_true, Dv.bl.injEq, Dv.int.injEq, exists_eq_left, exists_eq_left', true_and, and_true, Bool.and_self, Bool.not_true, Bool.not_false, eq_self, ↓reduceIte, List.isEmpty_cons, Nat.zero_add, and_self, true_implies, decide_eq_true_eq, decide_eq_false_iff_not, dnE_var, dnE_gint, dnE_int, dnE_str, dnE_bl, dnE_non, dnE_tup, dnE_lst, dnE_bin, dnE_cmp, dnE_chain, dnE_not, dnE_neg, dnE_and, dnE_or, dnA_one, dnA_cons, dnO_one, dnO_cons, dnE_ife, dnE_ix, dnE_sl, dnS_slT, dnE_call, dnE_bi, dnE_bm, dnE_isi, dnE_dnew, dnE_disp, dnE_lc, dnE_lcStp, dnF_nil, dnF_cons, dnL_nil, dnL_cons, dnV_none, dnV_some, dnI_seq, dnI_rng1, dnI_rng2, dnI_enum, dnG_name, dnG_tup, dnG_sub, dnGL_nil, dnGL_cons, dnB_len_t, dnB_set0, dnB_int, ixs_t, src_t, cop_lt, cop_le, cop_gt, cop_ge, cop_eq, cop_ne, bop_add, bop_sub, bop_mul, bop_mod, bop_fdiv, bop_addT, bop_mulT, ixs_l (o.at_ 2 rfl), at0_c0, dnK_extend (o.at_ 3 rfl), src_l (o.at_ 1 rfl)])
  refine lcL_sim (Q := _) Dv.int Dv.int w.a (fun h1 => OwnM m b k h0 h1 _) (fun e : Int => some (some ((r0.length : Int) + e))) (fun h1 o => seq_l (o.at_ 1 rfl)) ?_ (mapO_some _ _) o (by omega) (by unfold most; omega) ?_
  · rintro h1 y r _ o e
    cases e
    (try simp only [forall_const, reduceCtorEq, false_implies, implies_true, Bool.false_eq_true, Dv.tup.injEq, dnR_noX, dnS_toS, dnSL_cons, dnSL_nil, dn_par, dn_par3, dn_asg, dn_setlc, dn_exp, dn_ret, dn_iff, dn_aug, dn_forr, dn_whl, dn_brk, dn_cnt, dn_retn, start, wipeS, glLen, most, tyIs, Option.map_some, Option.bind_some, Option.some.injEq, List.map_cons, List.map_nil, List.cons_append, List.nil_append, List.length_cons, List.length_nil, List.reduceReplicate, List.getElem?_cons_zero, List.getElem?_cons_succ, List.set_cons_zero, List.set_cons_succ, Nat.reduceAdd, Nat.reduceSub, Nat.reduceLeDiff, decide_true, decide_false, if_true, Bool.true_and, Bool.and_true, Dv.bl.injEq, Dv.int.injEq, exists_eq_left, exists_eq_left', true_and, and_true, Bool.and_self, Bool.not_true, Bool.not_false, eq_self, ↓reduceIte, List.isEmpty_cons, Nat.zero_add, and_self, true_implies, decide_eq_true_eq, decide_eq_false_iff_not, dnE_var, dnE_gint, dnE_int, dnE_str, dnE_bl, dnE_non, dnE_tup, dnE_lst, dnE_bin, dnE_cmp, dnE_chain, dnE_not, dnE_neg, dnE_and, dnE_or, dnA_one, dnA_cons, dnO_one, dnO_cons, dnE_ife, dnE_ix, dnE_sl, dnS_slT, dnE_call, dnE_bi, dnE_bm, dnE_isi, dnE_dnew, dnE_disp, dnE_lc, dnE_lcStp, dnF_nil, dnF_cons, dnL_nil, dnL_cons, dnV_none, dnV_some, dnI_seq, dnI_rng1, dnI_rng2, dnI_enum, dnG_name, dnG_tup, dnG_sub, dnGL_nil, dnGL_cons, dnB_len_t, dnB_set0, dnB_int, ixs_t, src_t, cop_lt, cop_le, cop_gt, cop_ge, cop_eq, cop_ne, bop_add, bop_sub, bop_mul, bop_mod, bop_fdiv, bop_addT, bop_mulT])
    exact o
  intro p1 o
  have ext1 : ∀ {p : Hh} {z : List Int} {X : Nat} {r : List Int} {Q : Dv → Hh → Prop} {j : Nat} {ll : List (Nat × Ob)} (o : OwnM m b k h0 p ll) (e : ll[j]? = some (X, .lst (r.map .int))) (hz : z.length + r.length ≤ 100000) (kk : ∀ p', OwnM m b k h0 p' (ll.set j (X, .lst ((r ++ z).map .int))) → Q .non p'), dnR (mts .extend (.ref X) [.ref p.length] (p ++ [Ob.lst (z.map .int)])) Q := by
    intro p z X r Q j ll o e hz kk
    have o' := o.alloc (.lst (z.map .int))
    have e' : ((p.length, Ob.lst (z.map .int)) :: ll)[j + 1]? = some (X, .lst (r.map .int)) := by simpa using e
    rw [dnM_extend (o'.at_ _ e') (o'.at_ 0 rfl)]
    refine ⟨⟨by simp [most]; omega, o'.nn e' (j := 0) rfl (by omega)⟩, ?_⟩
    have o2 := o'.set _ e' (.lst (r.map .int ++ z.map .int))
    rw [← List.map_append] at o2 ⊢
    exact kk _ (o2.drop _ (by simp))
  refine ext1 o (j := 3) rfl (by simp; omega) fun p2 o => ?_
  simp only [List.set_cons_succ, List.set_cons_zero] at o
  have c1 : at0 [Dv.ref A, Dv.ref B, Dv.ref C] 1 = some (.ref B) := by simp [at0, ixA]
  have c2 : at0 [Dv.ref A, Dv.ref B, Dv.ref C] 2 = some (.ref C) := by simp [at0, ixA]
  (try simp only [forall_const, reduceCtorEq, false_implies, implies_true, Bool.false_eq_true, Dv.tup.injEq, dnR_noX, dnS_toS, dnSL_cons, dnSL_nil, dn_par, dn_par3, dn_asg, dn_setlc, dn_exp, dn_ret, dn_iff, dn_aug, dn_forr, dn_whl, dn_brk, dn_cnt, dn_retn, start, wipeS, glLen, most, tyIs, Option.map_some, Option.bind_some, Option.some.injEq, List.map_cons, List.map_nil, List.cons_append, List.nil_append, List.length_cons, List.length_nil, List.reduceReplicate, List.getElem?_cons_zero, List.getElem?_cons_succ, List.set_cons_zero, List.set_cons_succ, Nat.reduceAdd, Nat.reduceSub, Nat.reduceLeDiff, decide_true, decide_false, if_true, Bool.true_and, Bool.and_true, Dv.bl.injEq, Dv.int.injEq, exists_eq_left, exists_eq_left', true_and, and_true, Bool.and_self, Bool.not_true, Bool.not_false, eq_self, ↓reduceIte, List.isEmpty_cons, Nat.zero_add, and_self, true_implies, decide_eq_true_eq, decide_eq_false_iff_not, dnE_var, dnE_gint, dnE_int, dnE_str, dnE_bl, dnE_non, dnE_tup, dnE_lst, dnE_bin, dnE_cmp, dnE_chain, dnE_not, dnE_neg, dnE_and, dnE_or, dnA_one, dnA_cons, dnO_one, dnO_cons, dnE_ife, dnE_ix, dnE_sl, dnS_slT, dnE_call, dnE_bi, dnE_bm, dnE_isi, dnE_dnew, dnE_disp, dnE_lc, dnE_lcStp, dnF_nil, dnF_cons, dnL_nil, dnL_cons, dnV_none, dnV_some, dnI_seq, dnI_rng1, dnI_rng2, dnI_enum, dnG_name, dnG_tup, dnG_sub, dnGL_nil, dnGL_cons, dnB_len_t, dnB_set0, dnB_int, ixs_t, src_t, cop_lt, cop_le, cop_gt, cop_ge, cop_eq, cop_ne, bop_add, bop_sub, bop_mul, bop_mod, bop_fdiv, bop_addT, bop_mulT, ixs_l (o.at_ 2 rfl), c1, dnK_extend (o.at_ 4 rfl), dnB_len_l (o.at_ 1 rfl), List.length_map])
  refine ⟨intOk_nat (by omega), ?_⟩
  rw [Int.toNat_natCast]
  refine lcL_sim (Q := _) (fun i : Nat => Dv.int (i : Int)) Dv.int (List.range w.a.length) (fun h1 => OwnM m b k h0 h1 _) (fun e : Nat => some (some ((r0.length : Int) + (e : Int)))) (fun h1 o => rng_list _ _) ?_ (mapO_some _ _) o (by simp; omega) (by unfold most; simp; omega) ?_
  · rintro h1 y r _ o e
    cases e
    (try simp only [forall_const, reduceCtorEq, false_implies, implies_true, Bool.false_eq_true, Dv.tup.injEq, dnR_noX, dnS_toS, dnSL_cons, dnSL_nil, dn_par, dn_par3, dn_asg, dn_setlc, dn_exp, dn_ret, dn_iff, dn_aug, dn_forr, dn_whl, dn_brk, dn_cnt, dn_retn, start, wipeS, glLen, most, tyIs, Option.map_some, Option.bind_some, Option.some.injEq, List.map_cons, List.map_nil, List.cons_append, List.nil_append, List.length_cons, List.length_nil, List.reduceReplicate, List.getElem?_cons_zero, List.getElem?_cons_succ, List.set_cons_zero, List.set_cons_succ, Nat.reduceAdd, Nat.reduceSub, Nat.reduceLeDiff, decide_true, decide_false, if_true, Bool.true_and, Bool.and_true, Dv.bl.injEq, Dv.int.injEq, exists_eq_left, exists_eq_left', true_and, and_true, Bool.and_self, Bool.not_true, Bool.not_false, eq_self, ↓reduceIte, List.isEmpty_cons, Nat.zero_add, and_self, true_implies, decide_eq_true_eq, decide_eq_false_iff_not, dnE_var, dnE_gint, dnE_int, dnE_str, dnE_bl, dnE_non, dnE_tup, dnE_lst, dnE_bin, dnE_cmp, dnE_chain, dnE_not, dnE_neg, dnE_and, dnE_or, dnA_one, dnA_cons, dnO_one, dnO_cons, dnE_ife, dnE_ix, dnE_sl, dnS_slT, dnE_call, dnE_bi, dnE_bm, dnE_isi, dnE_dnew, dnE_disp, dnE_lc, dnE_lcStp, dnF_nil, dnF_cons, dnL_nil, dnL_cons, dnV_none, dnV_some, dnI_seq, dnI_rng1, dnI_rng2, dnI_enum, dnG_name, dnG_tup, dnG_sub, dnGL_nil, dnGL_cons, dnB_len_t, dnB_set0, dnB_int, ixs_t, src_t, cop_lt, cop_le, cop_gt, cop_ge, cop_eq, cop_ne, bop_add, bop_sub, bop_mul, bop_mod, bop_fdiv, bop_addT, bop_mulT])
    exact o
  intro p3 o
  refine ext1 o (j := 4) rfl (by simp; omega) fun p4 o => ?_
  simp only [List.set_cons_succ, List.set_cons_zero] at o
  (try simp only [forall_const, reduceCtorEq, false_implies, implies_true, Bool.false_eq_true, Dv.tup.injEq, dnR_noX, dnS_toS, dnSL_cons, dnSL_nil, dn_par, dn_par3, dn_asg, dn_setlc, dn_exp, dn_ret, dn_iff, dn_aug, dn_forr, dn_whl, dn_brk, dn_cnt, dn_retn, start, wipeS, glLen, most, tyIs, Option.map_some, Option.bind_some, Option.some.injEq, List.map_cons, List.map_nil, List.cons_append, List.nil_append, List.length_cons, List.length_nil, List.reduceReplicate, List.getElem?_cons_zero, List.getElem?_cons_succ, List.set_cons_zero, List.set_cons_succ, Nat.reduceAdd, Nat.reduceSub, Nat.reduceLeDiff, decide_true, decide_false, if_true, Bool.true_and, Bool.and_true, Dv.bl.injEq, Dv.int.injEq, exists_eq_left, exists_eq_left', true_and, and_true, Bool.and_self, Bool.not_true, Bool.not_false, eq_self, ↓reduceIte, List.isEmpty_cons, Nat.zero_add, and_self, true_implies, decide_eq_true_eq, decide_eq_false_iff_not, dnE_var, dnE_gint, dnE_int, dnE_str, dnE_bl, dnE_non, dnE_tup, dnE_lst, dnE_bin, dnE_cmp, dnE_chain, dnE_not, dnE_neg, dnE_and, dnE_or, dnA_one, dnA_cons, dnO_one, dnO_cons, dnE_ife, dnE_ix, dnE_sl, dnS_slT, dnE_call, dnE_bi, dnE_bm, dnE_isi, dnE_dnew, dnE_disp, dnE_lc, dnE_lcStp, dnF_nil, dnF_cons, dnL_nil, dnL_cons, dnV_none, dnV_some, dnI_seq, dnI_rng1, dnI_rng2, dnI_enum, dnG_name, dnG_tup, dnG_sub, dnGL_nil, dnGL_cons, dnB_len_t, dnB_set0, dnB_int, ixs_t, src_t, cop_lt, cop_le, cop_gt, cop_ge, cop_eq, cop_ne, bop_add, bop_sub, bop_mul, bop_mod, bop_fdiv, bop_addT, bop_mulT, ixs_l (o.at_ 2 rfl), c2, dnK_extend (o.at_ 5 rfl), src_l (o.at_ 0 rfl)])
  refine lcL_sim (Q := _) Dv.int Dv.int w.c (fun h1 => OwnM m b k h0 h1 _) (fun e : Int => some (some ((r0.length : Int) + e))) (fun h1 o => seq_l (o.at_ 0 rfl)) ?_ (mapO_some _ _) o (by omega) (by unfold most; omega) ?_
  · rintro h1 y r _ o e
    cases e
    (try simp only [forall_const, reduceCtorEq, false_implies, implies_true, Bool.false_eq_true, Dv.tup.injEq, dnR_noX, dnS_toS, dnSL_cons, dnSL_nil, dn_par, dn_par3, dn_asg, dn_setlc, dn_exp, dn_ret, dn_iff, dn_aug, dn_forr, dn_whl, dn_brk, dn_cnt, dn_retn, start, wipeS, glLen, most, tyIs, Option.map_some, Option.bind_some, Option.some.injEq, List.map_cons, List.map_nil, List.cons_append, List.nil_append, List.length_cons, List.length_nil, List.reduceReplicate, List.getElem?_cons_zero, List.getElem?_cons_succ, List.set_cons_zero, List.set_cons_succ, Nat.reduceAdd, Nat.reduceSub, Nat.reduceLeDiff, decide_true, decide_false, if_true, Bool.true_and, Bool.and_true, Dv.bl.injEq, Dv.int.injEq, exists_eq_left, exists_eq_left', true_and, and_true, Bool.and_self, Bool.not_true, Bool.not_false, eq_self, ↓reduceIte, List.isEmpty_cons, Nat.zero_add, and_self, true_implies, decide_eq_true_eq, decide_eq_false_iff_not, dnE_var, dnE_gint, dnE_int, dnE_str, dnE_bl, dnE_non, dnE_tup, dnE_lst, dnE_bin, dnE_cmp, dnE_chain, dnE_not, dnE_neg, dnE_and, dnE_or, dnA_one, dnA_cons, dnO_one, dnO_cons, dnE_ife, dnE_ix, dnE_sl, dnS_slT, dnE_call, dnE_bi, dnE_bm, dnE_isi, dnE_dnew, dnE_disp, dnE_lc, dnE_lcStp, dnF_nil, dnF_cons, dnL_nil, dnL_cons, dnV_none, dnV_some, dnI_seq, dnI_rng1, dnI_rng2, dnI_enum, dnG_name, dnG_tup, dnG_sub, dnGL_nil, dnGL_cons, dnB_len_t, dnB_set0, dnB_int, ixs_t, src_t, cop_lt, cop_le, cop_gt, cop_ge, cop_eq, cop_ne, bop_add, bop_sub, bop_mul, bop_mod, bop_fdiv, bop_addT, bop_mulT])
    exact o
  intro p5 o
  refine ext1 o (j := 5) rfl (by simp; omega) fun p6 o => ?_
  simp only [List.set_cons_succ, List.set_cons_zero] at o
  (try simp only [forall_const, reduceCtorEq, false_implies, implies_true, Bool.false_eq_true, Dv.tup.injEq, dnR_noX, dnS_toS, dnSL_cons, dnSL_nil, dn_par, dn_par3, dn_asg, dn_setlc, dn_exp, dn_ret, dn_iff, dn_aug, dn_forr, dn_whl, dn_brk, dn_cnt, dn_retn, start, wipeS, glLen, most, tyIs, Option.map_some, Option.bind_some, Option.some.injEq, List.map_cons, List.map_nil, List.cons_append, List.nil_append, List.length_cons, List.length_nil, List.reduceReplicate, List.getElem?_cons_zero, List.getElem?_cons_succ, List.set_cons_zero, List.set_cons_succ, Nat.reduceAdd, Nat.reduceSub, Nat.reduceLeDiff, decide_true, decide_false, if_true, Bool.true_and, Bool.and_true, Dv.bl.injEq, Dv.int.injEq, exists_eq_left, exists_eq_left', true_and, and_true, Bool.and_self, Bool.not_true, Bool.not_false, eq_self, ↓reduceIte, List.isEmpty_cons, Nat.zero_add, and_self, true_implies, decide_eq_true_eq, decide_eq_false_iff_not, dnE_var, dnE_gint, dnE_int, dnE_str, dnE_bl, dnE_non, dnE_tup, dnE_lst, dnE_bin, dnE_cmp, dnE_chain, dnE_not, dnE_neg, dnE_and, dnE_or, dnA_one, dnA_cons, dnO_one, dnO_cons, dnE_ife, dnE_ix, dnE_sl, dnS_slT, dnE_call, dnE_bi, dnE_bm, dnE_isi, dnE_dnew, dnE_disp, dnE_lc, dnE_lcStp, dnF_nil, dnF_cons, dnL_nil, dnL_cons, dnV_none, dnV_some, dnI_seq, dnI_rng1, dnI_rng2, dnI_enum, dnG_name, dnG_tup, dnG_sub, dnGL_nil, dnGL_cons, dnB_len_t, dnB_set0, dnB_int, ixs_t, src_t, cop_lt, cop_le, cop_gt, cop_ge, cop_eq, cop_ne, bop_add, bop_sub, bop_mul, bop_mod, bop_fdiv, bop_addT, bop_mulT, dnB_len_l (o.at_ 1 rfl), List.length_map])
  exact o.drop _ (by repeat (first | exact List.Sublist.refl _ | apply List.Sublist.cons₂ | apply List.Sublist.cons))
end
end FF
end

section
set_option Elab.async false
set_option linter.all false
set_option maxRecDepth 100000
set_option maxHeartbeats 8000000
/-! PL16: drawn changes of up to four flags. -/
namespace FF
open PySem

structure St where
  a : List Int
  b : List Int
  c : List Int
  f : List Int
def told4 : List (List (List Int)) := [[[0, 1, 2, 3], [0, 2, 1, 3], [1, 0, 3, 2]], [[0, 1, 2, 3], [1, 0, 3, 2], [0, 2, 1, 3]], [[0, 1, 2, 3], [1, 0, 3, 2], [2, 3, 0, 1]], [[0, 1, 3, 2], [0, 2, 1, 3], [1, 0, 2, 3]], [[0, 1, 3, 2], [0, 2, 1, 3], [1, 0, 3, 2]], [[0, 2, 1, 3], [1, 0, 3, 2], [0, 1, 2, 3]], [[0, 2, 1, 3], [1, 0, 3, 2], [0, 2, 1, 3]], [[0, 3, 2, 1], [1, 0, 3, 2], [2, 1, 0, 3]], [[0, 3, 2, 1], [1, 0, 3, 2], [2, 3, 0, 1]], [[1, 0, 3, 2], [0, 1, 2, 3], [2, 3, 0, 1]], [[1, 0, 3, 2], [0, 1, 3, 2], [2, 3, 0, 1]], [[1, 0, 3, 2], [0, 2, 1, 3], [0, 1, 2, 3]], [[1, 0, 3, 2], [0, 2, 1, 3], [0, 1, 3, 2]], [[1, 0, 3, 2], [0, 2, 1, 3], [1, 0, 3, 2]], [[1, 0, 3, 2], [0, 2, 1, 3], [2, 3, 0, 1]], [[1, 0, 3, 2], [0, 3, 2, 1], [2, 3, 0, 1]], [[1, 0, 3, 2], [1, 0, 3, 2], [2, 3, 0, 1]], [[1, 0, 3, 2], [2, 3, 0, 1], [0, 1, 2, 3]], [[1, 0, 3, 2], [2, 3, 0, 1], [0, 1, 3, 2]], [[1, 0, 3, 2], [2, 3, 0, 1], [1, 0, 3, 2]], [[1, 0, 3, 2], [2, 3, 0, 1], [2, 3, 0, 1]], [[1, 0, 3, 2], [2, 3, 0, 1], [3, 2, 1, 0]]]
def sz (s : St) : Bool := decide (s.a.length ≤ 4) && decide (s.b.length ≤ 100) && decide (s.c.length ≤ 100) && decide (s.f.length ≤ 100)
def fin (s : St) : Bool := sz s && decide (1 ≤ s.a.length) && (if s.a.length = 4 then match lleastM [s.a, s.b, s.c, [1, 1, 1, 1], [1, 1, 1, 1]] with
  | some l => decide (l.take 3 ∈ told4)
  | none => false else true)
def ok2 : Nat → St → Bool
  | 0, s => fin s && decide (s.f = [])
  | g + 1, s => fin s && match s.f with
    | [] => true
    | x :: rest => ok2 g ⟨s.a, s.b, s.c, rest⟩ && rest.all fun o => match (sA s.b x o).bind fun b1 => sA b1 o x with
      | some b2 => ok2 g ⟨s.a, b2, s.c, rest.filter fun y => decide (y ≠ o)⟩
      | none => false
def st0 (w : Wd) (s : St) : St := ⟨putA s.a.length s.a w.a, putB s.a.length s.b w.a.length, putA s.a.length s.c w.c, (List.range w.a.length).map fun k : Nat => (k : Int)⟩
def st1 (w : Wd) (s : St) (link : Int) : Option St :=
  (sA (putB s.a.length s.b w.a.length) link (s.a.length : Nat)).bind fun b1 => (sA b1 (s.a.length : Nat) link).map fun b2 => ⟨putA s.a.length s.a w.a, b2, putA s.a.length s.c w.c, (s.f.filter fun x => decide (x ≠ link)) ++ (List.range (w.a.length - 1)).map fun k : Nat => (s.a.length : Int) + (1 + (k : Int) * 1)⟩
def endOk (s : St) : Bool := if s.a = [] then fin (st0 ⟨"one", [0], [0]⟩ s) else ok2 6 s
def ok1 : Nat → St → Bool
  | 0, _ => false
  | f + 1, s => sz s && endOk s && wds.all fun w => decide (4 < s.a.length + w.a.length) || (decide (0 < s.a.length ∧ s.f = []) || (if 0 < s.a.length then s.f.all fun link => match st1 w s link with
      | some s' => ok1 f s'
      | none => false
    else ok1 f (st0 w s)))
theorem ok1_sz {f : Nat} {s : St} (e : ok1 f s = true) : s.a.length ≤ 4 ∧ s.b.length ≤ 100 ∧ s.c.length ≤ 100 ∧ s.f.length ≤ 100 := by
  cases f with
  | zero => cases e
  | succ f =>
    simp only [ok1, sz, Bool.and_eq_true, decide_eq_true_eq] at e
    obtain ⟨⟨⟨⟨⟨h1, h2⟩, h3⟩, h4⟩, _⟩, _⟩ := e
    exact ⟨h1, h2, h3, h4⟩
theorem fin_sz {s : St} (e : fin s = true) : s.a.length ≤ 4 ∧ s.b.length ≤ 100 ∧ s.c.length ≤ 100 ∧ s.f.length ≤ 100 := by
  simp only [fin, sz, Bool.and_eq_true, decide_eq_true_eq] at e
  obtain ⟨⟨⟨⟨⟨h1, h2⟩, h3⟩, h4⟩, _⟩, _⟩ := e
  exact ⟨h1, h2, h3, h4⟩
theorem ok2_fin {g : Nat} {s : St} (e : ok2 g s = true) : fin s = true := by
  cases g <;> · simp only [ok2, Bool.and_eq_true] at e; exact e.1
def szD : List ((Int ⊕ Str) × Dv) := [(.inr "four", .int 4), (.inr "zero", .int 2), (.inr "two", .int 2), (.inr "both", .int 2), (.inr "one", .int 1)]
theorem disps_s : disps [.str "four", .str "zero", .str "two", .str "both", .str "one"] [.int 4, .int 2, .int 2, .int 2, .int 1] [] = some szD := rfl
theorem szD_look {w : Wd} (h : w ∈ wds) : kLook szD (.inr w.w) = some (.int (w.a.length : Nat)) := by
  simp only [wds, List.mem_cons, List.not_mem_nil, or_false] at h
  rcases h with rfl | rfl | rfl | rfl | rfl <;> rfl
theorem wds_len {w : Wd} (h : w ∈ wds) : 1 ≤ w.a.length ∧ w.a.length ≤ 4 := by
  simp only [wds, List.mem_cons, List.not_mem_nil, or_false] at h
  rcases h with rfl | rfl | rfl | rfl | rfl <;> decide
theorem mem_wds {v : Dv} (h : v ∈ [Dv.str "four", .str "zero", .str "two", .str "both", .str "one"]) : ∃ w ∈ wds, v = .str w.w := by
  simp only [List.mem_cons, List.not_mem_nil, or_false] at h
  rcases h with rfl | rfl | rfl | rfl | rfl
  · exact ⟨⟨"four", [1, 0, 3, 2], [2, 3, 0, 1]⟩, by simp [wds], rfl⟩
  · exact ⟨⟨"zero", [1, 0], [0, 1]⟩, by simp [wds], rfl⟩
  · exact ⟨⟨"two", [0, 1], [1, 0]⟩, by simp [wds], rfl⟩
  · exact ⟨⟨"both", [1, 0], [1, 0]⟩, by simp [wds], rfl⟩
  · exact ⟨⟨"one", [0], [0]⟩, by simp [wds], rfl⟩
theorem ext_ok {m b k : Nat} {h0 p : Hh} {z : List Int} {X : Nat} {r : List Int} {Q : Dv → Hh → Prop} {j : Nat} {ll : List (Nat × Ob)} (o : OwnM m b k h0 p ll) (e : ll[j]? = some (X, .lst (r.map .int))) (hz : z.length + r.length ≤ 100000) (kk : ∀ p', OwnM m b k h0 p' (ll.set j (X, .lst ((r ++ z).map .int))) → Q .non p') : dnR (mts .extend (.ref X) [.ref p.length] (p ++ [Ob.lst (z.map .int)])) Q := by
  have o' := o.alloc (.lst (z.map .int))
  have e' : ((p.length, Ob.lst (z.map .int)) :: ll)[j + 1]? = some (X, .lst (r.map .int)) := by simpa using e
  rw [dnM_extend (o'.at_ _ e') (o'.at_ 0 rfl)]
  refine ⟨⟨by simp [most]; omega, o'.nn e' (j := 0) rfl (by omega)⟩, ?_⟩
  have o2 := o'.set _ e' (.lst (r.map .int ++ z.map .int))
  rw [← List.map_append] at o2 ⊢
  exact kk _ (o2.drop _ (by simp))
theorem OwnM.perm {m b k : Nat} {h0 h : Hh} {l l' : List (Nat × Ob)} (o : OwnM m b k h0 h l) (p : l.Perm l') : OwnM m b k h0 h l' := ⟨o.1, o.2.1, fun q mq => o.2.2.1 q (p.mem_iff.mpr mq), (p.map _).nodup_iff.mp o.2.2.2.1, o.ms⟩
theorem OwnM.last {m b k : Nat} {h0 h : Hh} {x : Nat × Ob} {l : List (Nat × Ob)} (o : OwnM m b k h0 h (x :: l)) : OwnM m b k h0 h (l ++ [x]) := o.perm (List.perm_append_comm (l₁ := [x]) (l₂ := l))
theorem cut_drop1 {α : Type} (g : α → Dv) (xs : List α) : cut (xs.map g) (some 1) none = (xs.drop 1).map g := cut_dropA g xs 1
theorem ok2_drop {g : Nat} {s : St} (e : ok2 g s = true) : ∃ g', ok2 g' ⟨s.a, s.b, s.c, s.f.drop 1⟩ = true := by
  obtain ⟨a, b, c, f⟩ := s
  cases f with
  | nil => exact ⟨g, e⟩
  | cons x r =>
    cases g with
    | zero => simp [ok2] at e
    | succ g =>
      simp only [ok2, Bool.and_eq_true] at e
      exact ⟨g, e.2.1⟩
theorem at0_c1 {x y : Dv} {r : List Dv} : at0 (x :: y :: r) 1 = some y := by
  unfold at0 ixA
  simp only [List.length_cons]
  rw [if_pos (by omega), if_pos (by omega)]
  rfl
section
variable {wf : Nat} (hw : 2000 ≤ wf)
include hw
theorem frame_ok {n b m k : Nat} {h : Hh} (hok : ok1 7 ⟨[], [], [], []⟩ = true) (x : MS b h m k) (hb : b ≤ h.length) (hk : k ≤ 10000) : dnR (callN Lw.T wf (n + 3) 10 [.ref m, .int 4] h) fun v h' => ∃ (R A B C k' : Nat) (s : St), v = .ref R ∧ OwnM m h.length k' h h' [(R, .lst [.ref A, .ref B, .ref C]), (A, .lst (s.a.map .int)), (B, .lst (s.b.map .int)), (C, .lst (s.c.map .int))] ∧ k' ≤ k + 1000 ∧ fin s = true := by
  refine call_ir rfl rfl ?_
  have o := OwnM.start x hb
  (try simp only [forall_const, reduceCtorEq, false_implies, implies_true, Bool.false_eq_true, Dv.tup.injEq, dnR_noX, dnS_toS, dnSL_cons, dnSL_nil, dn_par, dn_par3, dn_asg, dn_setlc, dn_exp, dn_ret, dn_iff, dn_aug, dn_forr, dn_whl, dn_brk, dn_cnt, dn_retn, start, wipeS, glLen, most, tyIs, Option.map_some, Option.bind_some, Option.some.injEq, List.map_cons, List.map_nil, List.cons_append, List.nil_append, List.length_cons, List.length_nil, List.reduceReplicate, List.getElem?_cons_zero, List.getElem?_cons_succ, List.set_cons_zero, List.set_cons_succ, Nat.reduceAdd, Nat.reduceSub, Nat.reduceLeDiff, decide_true, decide_false, if_true, Bool.true_and, Bool.and_true, Dv.bl.injEq, Dv.int.injEq, exists_eq_left, exists_eq_left', true_and, and_true, Bool.and_self, Bool.not_true, Bool.not_false, eq_self, ↓reduceIte, List.isEmpty_cons, Nat.zero_add, and_self, true_implies, decide_eq_true_eq, decide_eq_false_iff_not, dnE_var, dnE_gint, dnE_int, dnE_str, dnE_bl, dnE_non, dnE_tup, dnE_lst, dnE_bin, dnE_cmp, dnE_chain, dnE_not, dnE_neg, dnE_and, dnE_or, dnA_one, dnA_cons, dnO_one, dnO_cons, dnE_ife, dnE_ix, dnE_sl, dnS_slT, dnE_call, dnE_bi, dnE_bm, dnE_isi, dnE_dnew, dnE_disp, dnE_lc, dnE_lcStp, dnF_nil, dnF_cons, dnL_nil, dnL_cons, dnV_none, dnV_some, dnI_seq, dnI_rng1, dnI_rng2, dnI_enum, dnG_name, dnG_tup, dnG_sub, dnGL_nil, dnGL_cons, dnB_len_t, dnB_set0, dnB_int, ixs_t, src_t, cop_lt, cop_le, cop_gt, cop_ge, cop_eq, cop_ne, bop_add, bop_sub, bop_mul, bop_mod, bop_fdiv, bop_addT, bop_mulT, Lw.ir__law_frame])
  have o := o.alloc (.lst [])
  generalize h ++ [Ob.lst []] = g1 at o ⊢
  generalize hA : List.length h = A at o ⊢
  have o := o.alloc (.lst [])
  generalize g1 ++ [Ob.lst []] = g2 at o ⊢
  generalize g1.length = B at o ⊢
  have o := o.alloc (.lst [])
  generalize g2 ++ [Ob.lst []] = g3 at o ⊢
  generalize g2.length = C at o ⊢
  have o := o.alloc (.lst [.ref A, .ref B, .ref C])
  generalize g3 ++ [Ob.lst [.ref A, .ref B, .ref C]] = g4 at o ⊢
  generalize g3.length = R at o ⊢
  have o := o.alloc (.lst [])
  generalize g4 ++ [Ob.lst []] = g5 at o ⊢
  generalize g4.length = F0 at o ⊢
  refine dnR.imp (draw_ok hw o.ms (by omega) (by omega) (by omega)) ?_
  rintro _ g6 ⟨d, ob, rfl, d1, d2, e6, x6⟩
  have o := o.drawn e6 x6
  have o : OwnM m A (k + 1) h g6 [(R, .lst [.ref A, .ref B, .ref C]), (A, .lst (([] : List Int).map .int)), (B, .lst (([] : List Int).map .int)), (C, .lst (([] : List Int).map .int)), (F0, .lst (([] : List Int).map .int))] := ⟨o.1, o.2.1, fun p mp => o.2.2.1 p (by simp only [List.map_nil, List.mem_cons, List.not_mem_nil, or_false] at mp ⊢; rcases mp with rfl | rfl | rfl | rfl | rfl <;> simp), by
    have n := o.2.2.2.1
    simp only [List.map_cons, List.map_nil, List.nodup_cons, List.mem_cons, List.not_mem_nil, or_false, not_or, not_false_eq_true, List.nodup_nil, and_true] at n ⊢
    omega, o.ms⟩
  (try simp only [forall_const, reduceCtorEq, false_implies, implies_true, Bool.false_eq_true, Dv.tup.injEq, dnR_noX, dnS_toS, dnSL_cons, dnSL_nil, dn_par, dn_par3, dn_asg, dn_setlc, dn_exp, dn_ret, dn_iff, dn_aug, dn_forr, dn_whl, dn_brk, dn_cnt, dn_retn, start, wipeS, glLen, most, tyIs, Option.map_some, Option.bind_some, Option.some.injEq, List.map_cons, List.map_nil, List.cons_append, List.nil_append, List.length_cons, List.length_nil, List.reduceReplicate, List.getElem?_cons_zero, List.getElem?_cons_succ, List.set_cons_zero, List.set_cons_succ, Nat.reduceAdd, Nat.reduceSub, Nat.reduceLeDiff, decide_true, decide_false, if_true, Bool.true_and, Bool.and_true, Dv.bl.injEq, Dv.int.injEq, exists_eq_left, exists_eq_left', true_and, and_true, Bool.and_self, Bool.not_true, Bool.not_false, eq_self, ↓reduceIte, List.isEmpty_cons, Nat.zero_add, and_self, true_implies, decide_eq_true_eq, decide_eq_false_iff_not, dnE_var, dnE_gint, dnE_int, dnE_str, dnE_bl, dnE_non, dnE_tup, dnE_lst, dnE_bin, dnE_cmp, dnE_chain, dnE_not, dnE_neg, dnE_and, dnE_or, dnA_one, dnA_cons, dnO_one, dnO_cons, dnE_ife, dnE_ix, dnE_sl, dnS_slT, dnE_call, dnE_bi, dnE_bm, dnE_isi, dnE_dnew, dnE_disp, dnE_lc, dnE_lcStp, dnF_nil, dnF_cons, dnL_nil, dnL_cons, dnV_none, dnV_some, dnI_seq, dnI_rng1, dnI_rng2, dnI_enum, dnG_name, dnG_tup, dnG_sub, dnGL_nil, dnGL_cons, dnB_len_t, dnB_set0, dnB_int, ixs_t, src_t, cop_lt, cop_le, cop_gt, cop_ge, cop_eq, cop_ne, bop_add, bop_sub, bop_mul, bop_mod, bop_fdiv, bop_addT, bop_mulT])
  have hN : (1 + d).toNat ≤ 6 := by omega
  refine ⟨by simp only [intOk, Bool.and_eq_true, decide_eq_true_eq]; omega, ?_⟩
  generalize (1 + d).toNat = N at hN ⊢
  refine forL_inv (xs := (List.range N).map fun i : Nat => Dv.int (i : Int)) (fun i σ h1 => ∃ (f : Nat) (s : St) (F : Nat) (x4 x5 x6 x7 x8 x9 x10 x11 : Option Dv), σ = [some (.ref m), some (.int 4), some (.ref R), some (.ref F), x4, x5, x6, x7, x8, x9, x10, x11] ∧ OwnM m A (k + 1 + 2 * i) h h1 [(R, .lst [.ref A, .ref B, .ref C]), (A, .lst (s.a.map .int)), (B, .lst (s.b.map .int)), (C, .lst (s.c.map .int)), (F, .lst (s.f.map .int))] ∧ ok1 f s = true) (fun i σ h _ => rng_list h N) ?_ ?_ wf 0 _ _ ⟨7, ⟨[], [], [], []⟩, F0, _, _, _, _, _, _, _, _, rfl, o, hok⟩ (by simp; omega) (Nat.zero_le _)
  · rintro i σ h1 v hv ⟨f, s, F, x4, x5, x6, x7, x8, x9, x10, x11, rfl, o, e⟩
    have hi : i < N := by simpa using (List.getElem?_eq_some_iff.mp hv).1
    rw [List.getElem?_map, List.getElem?_range hi] at hv
    cases hv
    have hsz := ok1_sz e
    cases f with
    | zero => cases e
    | succ f =>
      have e' := e
      simp only [ok1, Bool.and_eq_true, List.all_eq_true] at e'
      obtain ⟨_, es⟩ := e'
      (try simp only [forall_const, reduceCtorEq, false_implies, implies_true, Bool.false_eq_true, Dv.tup.injEq, dnR_noX, dnS_toS, dnSL_cons, dnSL_nil, dn_par, dn_par3, dn_asg, dn_setlc, dn_exp, dn_ret, dn_iff, dn_aug, dn_forr, dn_whl, dn_brk, dn_cnt, dn_retn, start, wipeS, glLen, most, tyIs, Option.map_some, Option.bind_some, Option.some.injEq, List.map_cons, List.map_nil, List.cons_append, List.nil_append, List.length_cons, List.length_nil, List.reduceReplicate, List.getElem?_cons_zero, List.getElem?_cons_succ, List.set_cons_zero, List.set_cons_succ, Nat.reduceAdd, Nat.reduceSub, Nat.reduceLeDiff, decide_true, decide_false, if_true, Bool.true_and, Bool.and_true, Dv.bl.injEq, Dv.int.injEq, exists_eq_left, exists_eq_left', true_and, and_true, Bool.and_self, Bool.not_true, Bool.not_false, eq_self, ↓reduceIte, List.isEmpty_cons, Nat.zero_add, and_self, true_implies, decide_eq_true_eq, decide_eq_false_iff_not, dnE_var, dnE_gint, dnE_int, dnE_str, dnE_bl, dnE_non, dnE_tup, dnE_lst, dnE_bin, dnE_cmp, dnE_chain, dnE_not, dnE_neg, dnE_and, dnE_or, dnA_one, dnA_cons, dnO_one, dnO_cons, dnE_ife, dnE_ix, dnE_sl, dnS_slT, dnE_call, dnE_bi, dnE_bm, dnE_isi, dnE_dnew, dnE_disp, dnE_lc, dnE_lcStp, dnF_nil, dnF_cons, dnL_nil, dnL_cons, dnV_none, dnV_some, dnI_seq, dnI_rng1, dnI_rng2, dnI_enum, dnG_name, dnG_tup, dnG_sub, dnGL_nil, dnGL_cons, dnB_len_t, dnB_set0, dnB_int, ixs_t, src_t, cop_lt, cop_le, cop_gt, cop_ge, cop_eq, cop_ne, bop_add, bop_sub, bop_mul, bop_mod, bop_fdiv, bop_addT, bop_mulT])
      have o1 := o.alloc (.lst [.str "four", .str "zero", .str "two", .str "both", .str "one"])
      refine dnR.imp (of_ok hw o1.ms (by omega) (o1.at_ 0 rfl) (by simp) (by simp)) ?_
      rintro v g7 ⟨ob, hv, e2, x2⟩
      have o := (o1.drawn e2 x2).drop [(R, .lst [.ref A, .ref B, .ref C]), (A, .lst (s.a.map .int)), (B, .lst (s.b.map .int)), (C, .lst (s.c.map .int)), (F, .lst (s.f.map .int))] (by simp)
      obtain ⟨w, hwd, rfl⟩ := mem_wds hv
      have hwl := wds_len hwd
      (try simp only [forall_const, reduceCtorEq, false_implies, implies_true, Bool.false_eq_true, Dv.tup.injEq, dnR_noX, dnS_toS, dnSL_cons, dnSL_nil, dn_par, dn_par3, dn_asg, dn_setlc, dn_exp, dn_ret, dn_iff, dn_aug, dn_forr, dn_whl, dn_brk, dn_cnt, dn_retn, start, wipeS, glLen, most, tyIs, Option.map_some, Option.bind_some, Option.some.injEq, List.map_cons, List.map_nil, List.cons_append, List.nil_append, List.length_cons, List.length_nil, List.reduceReplicate, List.getElem?_cons_zero, List.getElem?_cons_succ, List.set_cons_zero, List.set_cons_succ, Nat.reduceAdd, Nat.reduceSub, Nat.reduceLeDiff, decide_true, decide_false, if_true, Bool.true_and, Bool.and_true, Dv.bl.injEq, Dv.int.injEq, exists_eq_left, exists_eq_left', true_and, and_true, Bool.and_self, Bool.not_true, Bool.not_false, eq_self, ↓reduceIte, List.isEmpty_cons, Nat.zero_add, and_self, true_implies, decide_eq_true_eq, decide_eq_false_iff_not, dnE_var, dnE_gint, dnE_int, dnE_str, dnE_bl, dnE_non, dnE_tup, dnE_lst, dnE_bin, dnE_cmp, dnE_chain, dnE_not, dnE_neg, dnE_and, dnE_or, dnA_one, dnA_cons, dnO_one, dnO_cons, dnE_ife, dnE_ix, dnE_sl, dnS_slT, dnE_call, dnE_bi, dnE_bm, dnE_isi, dnE_dnew, dnE_disp, dnE_lc, dnE_lcStp, dnF_nil, dnF_cons, dnL_nil, dnL_cons, dnV_none, dnV_some, dnI_seq, dnI_rng1, dnI_rng2, dnI_enum, dnG_name, dnG_tup, dnG_sub, dnGL_nil, dnGL_cons, dnB_len_t, dnB_set0, dnB_int, ixs_t, src_t, cop_lt, cop_le, cop_gt, cop_ge, cop_eq, cop_ne, bop_add, bop_sub, bop_mul, bop_mod, bop_fdiv, bop_addT, bop_mulT])
      refine ⟨szD, disps_s, by decide, ?_⟩
      rw [ixs_k get_fr, szD_look hwd]
      have o := o.garb [.dk szD]
      generalize g7 ++ [Ob.dk szD] = g8 at o ⊢
      (try simp only [forall_const, reduceCtorEq, false_implies, implies_true, Bool.false_eq_true, Dv.tup.injEq, dnR_noX, dnS_toS, dnSL_cons, dnSL_nil, dn_par, dn_par3, dn_asg, dn_setlc, dn_exp, dn_ret, dn_iff, dn_aug, dn_forr, dn_whl, dn_brk, dn_cnt, dn_retn, start, wipeS, glLen, most, tyIs, Option.map_some, Option.bind_some, Option.some.injEq, List.map_cons, List.map_nil, List.cons_append, List.nil_append, List.length_cons, List.length_nil, List.reduceReplicate, List.getElem?_cons_zero, List.getElem?_cons_succ, List.set_cons_zero, List.set_cons_succ, Nat.reduceAdd, Nat.reduceSub, Nat.reduceLeDiff, decide_true, decide_false, if_true, Bool.true_and, Bool.and_true, Dv.bl.injEq, Dv.int.injEq, exists_eq_left, exists_eq_left', true_and, and_true, Bool.and_self, Bool.not_true, Bool.not_false, eq_self, ↓reduceIte, List.isEmpty_cons, Nat.zero_add, and_self, true_implies, decide_eq_true_eq, decide_eq_false_iff_not, dnE_var, dnE_gint, dnE_int, dnE_str, dnE_bl, dnE_non, dnE_tup, dnE_lst, dnE_bin, dnE_cmp, dnE_chain, dnE_not, dnE_neg, dnE_and, dnE_or, dnA_one, dnA_cons, dnO_one, dnO_cons, dnE_ife, dnE_ix, dnE_sl, dnS_slT, dnE_call, dnE_bi, dnE_bm, dnE_isi, dnE_dnew, dnE_disp, dnE_lc, dnE_lcStp, dnF_nil, dnF_cons, dnL_nil, dnL_cons, dnV_none, dnV_some, dnI_seq, dnI_rng1, dnI_rng2, dnI_enum, dnG_name, dnG_tup, dnG_sub, dnGL_nil, dnGL_cons, dnB_len_t, dnB_set0, dnB_int, ixs_t, src_t, cop_lt, cop_le, cop_gt, cop_ge, cop_eq, cop_ne, bop_add, bop_sub, bop_mul, bop_mod, bop_fdiv, bop_addT, bop_mulT, ixs_l (o.at_ 0 rfl), at0_c0, dnB_len_l (o.at_ 1 rfl), List.length_map])
      have skip : ∀ {h3 : Hh} {v5 v6 v7 v8 v9 v10 v11 : Option Dv}, g8 <+: h3 → ∃ (f : Nat) (s : St) (F' : Nat) (x4 x5 x6 x7 x8 x9 x10 x11 : Option Dv), [some (Dv.ref m), some (.int 4), some (.ref R), some (.ref F), some (.int i), v5, v6, v7, v8, v9, v10, v11] = [some (Dv.ref m), some (.int 4), some (.ref R), some (.ref F'), x4, x5, x6, x7, x8, x9, x10, x11] ∧ OwnM m A (k + 1 + 2 * (i + 1)) h h3 [(R, .lst [.ref A, .ref B, .ref C]), (A, .lst (s.a.map .int)), (B, .lst (s.b.map .int)), (C, .lst (s.c.map .int)), (F', .lst (s.f.map .int))] ∧ ok1 f s = true :=
        fun hp => ⟨f + 1, s, F, _, _, _, _, _, _, _, _, rfl, (o.ext hp).mono (by omega), e⟩
      refine ⟨fun hle => ⟨fun hpos => ?_, fun hneg => ?_⟩, fun hgt => skip (List.prefix_refl _)⟩
      · have o1 := o.alloc (.lst [])
        (try simp only [forall_const, reduceCtorEq, false_implies, implies_true, Bool.false_eq_true, Dv.tup.injEq, dnR_noX, dnS_toS, dnSL_cons, dnSL_nil, dn_par, dn_par3, dn_asg, dn_setlc, dn_exp, dn_ret, dn_iff, dn_aug, dn_forr, dn_whl, dn_brk, dn_cnt, dn_retn, start, wipeS, glLen, most, tyIs, Option.map_some, Option.bind_some, Option.some.injEq, List.map_cons, List.map_nil, List.cons_append, List.nil_append, List.length_cons, List.length_nil, List.reduceReplicate, List.getElem?_cons_zero, List.getElem?_cons_succ, List.set_cons_zero, List.set_cons_succ, Nat.reduceAdd, Nat.reduceSub, Nat.reduceLeDiff, decide_true, decide_false, if_true, Bool.true_and, Bool.and_true, Dv.bl.injEq, Dv.int.injEq, exists_eq_left, exists_eq_left', true_and, and_true, Bool.and_self, Bool.not_true, Bool.not_false, eq_self, ↓reduceIte, List.isEmpty_cons, Nat.zero_add, and_self, true_implies, decide_eq_true_eq, decide_eq_false_iff_not, dnE_var, dnE_gint, dnE_int, dnE_str, dnE_bl, dnE_non, dnE_tup, dnE_lst, dnE_bin, dnE_cmp, dnE_chain, dnE_not, dnE_neg, dnE_and, dnE_or, dnA_one, dnA_cons, dnO_one, dnO_cons, dnE_ife, dnE_ix, dnE_sl, dnS_slT, dnE_call, dnE_bi, dnE_bm, dnE_isi, dnE_dnew, dnE_disp, dnE_lc, dnE_lcStp, dnF_nil, dnF_cons, dnL_nil, dnL_cons, dnV_none, dnV_some, dnI_seq, dnI_rng1, dnI_rng2, dnI_enum, dnG_name, dnG_tup, dnG_sub, dnGL_nil, dnGL_cons, dnB_len_t, dnB_set0, dnB_int, ixs_t, src_t, cop_lt, cop_le, cop_gt, cop_ge, cop_eq, cop_ne, bop_add, bop_sub, bop_mul, bop_mod, bop_fdiv, bop_addT, bop_mulT, cop_eq_nil (o1.at_ 5 rfl) (o1.at_ 0 rfl)])
        refine ⟨fun hz => skip (List.prefix_append _ _), fun hz => ?_⟩
        have o := o.garb [.lst []]
        generalize g8 ++ [Ob.lst []] = g9 at o ⊢
        refine dnR.imp (put_ok hw hwd (by omega) (by omega) (by omega) o) ?_
        rintro _ g10 ⟨rfl, o⟩
        have hfl : 1 ≤ s.f.length := by
          cases hsf : s.f with
          | nil => rw [hsf] at hz; cases hz
          | cons x r => simp
        refine ⟨fun _ => ?_, fun z => absurd hpos z⟩
        refine dnR.imp (of_ok hw o.ms (by omega) (o.at_ 4 rfl) (by simpa using hfl) (by simp; omega)) ?_
        rintro v g11 ⟨ob, hv, e3, x3⟩
        have o := o.drawn e3 x3
        obtain ⟨link, hl, rfl⟩ := List.mem_map.mp hv
        have ew := es w hwd
        simp only [Bool.or_eq_true, decide_eq_true_eq] at ew
        rcases ew with ew | ⟨_, ew⟩ | ew
        · omega
        · rw [ew] at hfl; simp at hfl
        rw [if_pos (by omega), List.all_eq_true] at ew
        have ew := ew link hl
        split at ew
        case h_2 => cases ew
        rename_i s' hs'
        simp only [st1] at hs'
        obtain ⟨b1, q1, hs'⟩ := opt_bind hs'
        obtain ⟨b2, q2, rfl⟩ := Option.map_eq_some_iff.mp hs'
        (try simp only [forall_const, reduceCtorEq, false_implies, implies_true, Bool.false_eq_true, Dv.tup.injEq, dnR_noX, dnS_toS, dnSL_cons, dnSL_nil, dn_par, dn_par3, dn_asg, dn_setlc, dn_exp, dn_ret, dn_iff, dn_aug, dn_forr, dn_whl, dn_brk, dn_cnt, dn_retn, start, wipeS, glLen, most, tyIs, Option.map_some, Option.bind_some, Option.some.injEq, List.map_cons, List.map_nil, List.cons_append, List.nil_append, List.length_cons, List.length_nil, List.reduceReplicate, List.getElem?_cons_zero, List.getElem?_cons_succ, List.set_cons_zero, List.set_cons_succ, Nat.reduceAdd, Nat.reduceSub, Nat.reduceLeDiff, decide_true, decide_false, if_true, Bool.true_and, Bool.and_true, Dv.bl.injEq, Dv.int.injEq, exists_eq_left, exists_eq_left', true_and, and_true, Bool.and_self, Bool.not_true, Bool.not_false, eq_self, ↓reduceIte, List.isEmpty_cons, Nat.zero_add, and_self, true_implies, decide_eq_true_eq, decide_eq_false_iff_not, dnE_var, dnE_gint, dnE_int, dnE_str, dnE_bl, dnE_non, dnE_tup, dnE_lst, dnE_bin, dnE_cmp, dnE_chain, dnE_not, dnE_neg, dnE_and, dnE_or, dnA_one, dnA_cons, dnO_one, dnO_cons, dnE_ife, dnE_ix, dnE_sl, dnS_slT, dnE_call, dnE_bi, dnE_bm, dnE_isi, dnE_dnew, dnE_disp, dnE_lc, dnE_lcStp, dnF_nil, dnF_cons, dnL_nil, dnL_cons, dnV_none, dnV_some, dnI_seq, dnI_rng1, dnI_rng2, dnI_enum, dnG_name, dnG_tup, dnG_sub, dnGL_nil, dnGL_cons, dnB_len_t, dnB_set0, dnB_int, ixs_t, src_t, cop_lt, cop_le, cop_gt, cop_ge, cop_eq, cop_ne, bop_add, bop_sub, bop_mul, bop_mod, bop_fdiv, bop_addT, bop_mulT, ixs_l (o.at_ 0 rfl), at0_c1, sets_l (o.at_ 2 rfl), sA_map, q1])
        have o := o.set 2 rfl (.lst (b1.map .int))
        simp only [List.set_cons_succ, List.set_cons_zero] at o
        generalize List.set g11 B (Ob.lst (List.map Dv.int b1)) = g12 at o ⊢
        (try simp only [forall_const, reduceCtorEq, false_implies, implies_true, Bool.false_eq_true, Dv.tup.injEq, dnR_noX, dnS_toS, dnSL_cons, dnSL_nil, dn_par, dn_par3, dn_asg, dn_setlc, dn_exp, dn_ret, dn_iff, dn_aug, dn_forr, dn_whl, dn_brk, dn_cnt, dn_retn, start, wipeS, glLen, most, tyIs, Option.map_some, Option.bind_some, Option.some.injEq, List.map_cons, List.map_nil, List.cons_append, List.nil_append, List.length_cons, List.length_nil, List.reduceReplicate, List.getElem?_cons_zero, List.getElem?_cons_succ, List.set_cons_zero, List.set_cons_succ, Nat.reduceAdd, Nat.reduceSub, Nat.reduceLeDiff, decide_true, decide_false, if_true, Bool.true_and, Bool.and_true, Dv.bl.injEq, Dv.int.injEq, exists_eq_left, exists_eq_left', true_and, and_true, Bool.and_self, Bool.not_true, Bool.not_false, eq_self, ↓reduceIte, List.isEmpty_cons, Nat.zero_add, and_self, true_implies, decide_eq_true_eq, decide_eq_false_iff_not, dnE_var, dnE_gint, dnE_int, dnE_str, dnE_bl, dnE_non, dnE_tup, dnE_lst, dnE_bin, dnE_cmp, dnE_chain, dnE_not, dnE_neg, dnE_and, dnE_or, dnA_one, dnA_cons, dnO_one, dnO_cons, dnE_ife, dnE_ix, dnE_sl, dnS_slT, dnE_call, dnE_bi, dnE_bm, dnE_isi, dnE_dnew, dnE_disp, dnE_lc, dnE_lcStp, dnF_nil, dnF_cons, dnL_nil, dnL_cons, dnV_none, dnV_some, dnI_seq, dnI_rng1, dnI_rng2, dnI_enum, dnG_name, dnG_tup, dnG_sub, dnGL_nil, dnGL_cons, dnB_len_t, dnB_set0, dnB_int, ixs_t, src_t, cop_lt, cop_le, cop_gt, cop_ge, cop_eq, cop_ne, bop_add, bop_sub, bop_mul, bop_mod, bop_fdiv, bop_addT, bop_mulT, ixs_l (o.at_ 0 rfl), at0_c1, sets_l (o.at_ 2 rfl), sA_map, q2])
        have o := o.set 2 rfl (.lst (b2.map .int))
        simp only [List.set_cons_succ, List.set_cons_zero] at o
        generalize List.set g12 B (Ob.lst (List.map Dv.int b2)) = g13 at o ⊢
        (try simp only [forall_const, reduceCtorEq, false_implies, implies_true, Bool.false_eq_true, Dv.tup.injEq, dnR_noX, dnS_toS, dnSL_cons, dnSL_nil, dn_par, dn_par3, dn_asg, dn_setlc, dn_exp, dn_ret, dn_iff, dn_aug, dn_forr, dn_whl, dn_brk, dn_cnt, dn_retn, start, wipeS, glLen, most, tyIs, Option.map_some, Option.bind_some, Option.some.injEq, List.map_cons, List.map_nil, List.cons_append, List.nil_append, List.length_cons, List.length_nil, List.reduceReplicate, List.getElem?_cons_zero, List.getElem?_cons_succ, List.set_cons_zero, List.set_cons_succ, Nat.reduceAdd, Nat.reduceSub, Nat.reduceLeDiff, decide_true, decide_false, if_true, Bool.true_and, Bool.and_true, Dv.bl.injEq, Dv.int.injEq, exists_eq_left, exists_eq_left', true_and, and_true, Bool.and_self, Bool.not_true, Bool.not_false, eq_self, ↓reduceIte, List.isEmpty_cons, Nat.zero_add, and_self, true_implies, decide_eq_true_eq, decide_eq_false_iff_not, dnE_var, dnE_gint, dnE_int, dnE_str, dnE_bl, dnE_non, dnE_tup, dnE_lst, dnE_bin, dnE_cmp, dnE_chain, dnE_not, dnE_neg, dnE_and, dnE_or, dnA_one, dnA_cons, dnO_one, dnO_cons, dnE_ife, dnE_ix, dnE_sl, dnS_slT, dnE_call, dnE_bi, dnE_bm, dnE_isi, dnE_dnew, dnE_disp, dnE_lc, dnE_lcStp, dnF_nil, dnF_cons, dnL_nil, dnL_cons, dnV_none, dnV_some, dnI_seq, dnI_rng1, dnI_rng2, dnI_enum, dnG_name, dnG_tup, dnG_sub, dnGL_nil, dnGL_cons, dnB_len_t, dnB_set0, dnB_int, ixs_t, src_t, cop_lt, cop_le, cop_gt, cop_ge, cop_eq, cop_ne, bop_add, bop_sub, bop_mul, bop_mod, bop_fdiv, bop_addT, bop_mulT, src_l (o.at_ 4 rfl)])
        refine lcL_sim (Q := _) Dv.int Dv.int s.f (fun h1 => OwnM m A _ h h1 _) (fun y : Int => some (if decide (y ≠ link) = true then some y else none)) (fun h1 o => seq_l (o.at_ 4 rfl)) ?_ (mapO_filter _ _ _) o (by omega) (by unfold most; omega) ?_
        · rintro h1 y r _ o e
          cases e
          (try simp only [forall_const, reduceCtorEq, false_implies, implies_true, Bool.false_eq_true, Dv.tup.injEq, dnR_noX, dnS_toS, dnSL_cons, dnSL_nil, dn_par, dn_par3, dn_asg, dn_setlc, dn_exp, dn_ret, dn_iff, dn_aug, dn_forr, dn_whl, dn_brk, dn_cnt, dn_retn, start, wipeS, glLen, most, tyIs, Option.map_some, Option.bind_some, Option.some.injEq, List.map_cons, List.map_nil, List.cons_append, List.nil_append, List.length_cons, List.length_nil, List.reduceReplicate, List.getElem?_cons_zero, List.getElem?_cons_succ, List.set_cons_zero, List.set_cons_succ, Nat.reduceAdd, Nat.reduceSub, Nat.reduceLeDiff, decide_true, decide_false, if_true, Bool.true_and, Bool.and_true, Dv.bl.injEq, Dv.int.injEq, exists_eq_left, exists_eq_left', true_and, and_true, Bool.and_self, Bool.not_true, Bool.not_false, eq_self, ↓reduceIte, List.isEmpty_cons, Nat.zero_add, and_self, true_implies, decide_eq_true_eq, decide_eq_false_iff_not, dnE_var, dnE_gint, dnE_int, dnE_str, dnE_bl, dnE_non, dnE_tup, dnE_lst, dnE_bin, dnE_cmp, dnE_chain, dnE_not, dnE_neg, dnE_and, dnE_or, dnA_one, dnA_cons, dnO_one, dnO_cons, dnE_ife, dnE_ix, dnE_sl, dnS_slT, dnE_call, dnE_bi, dnE_bm, dnE_isi, dnE_dnew, dnE_disp, dnE_lc, dnE_lcStp, dnF_nil, dnF_cons, dnL_nil, dnL_cons, dnV_none, dnV_some, dnI_seq, dnI_rng1, dnI_rng2, dnI_enum, dnG_name, dnG_tup, dnG_sub, dnGL_nil, dnGL_cons, dnB_len_t, dnB_set0, dnB_int, ixs_t, src_t, cop_lt, cop_le, cop_gt, cop_ge, cop_eq, cop_ne, bop_add, bop_sub, bop_mul, bop_mod, bop_fdiv, bop_addT, bop_mulT])
          refine ⟨fun z => ?_, fun z => ?_⟩
          · rw [if_pos (by simpa using z)]
            exact ⟨rfl, o⟩
          · rw [if_neg (by simpa using z)]
            exact ⟨rfl, o⟩
        rw [List.map_id' (List.filter _ _)]
        intro g14 o
        have hflen := List.length_filter_le (fun y => decide (y ≠ link)) s.f
        generalize hfil : List.filter (fun y => decide (y ≠ link)) s.f = fil at hflen ⊢
        have o := o.alloc (.lst (fil.map .int))
        generalize g14 ++ [Ob.lst (fil.map .int)] = g15 at o ⊢
        generalize g14.length = F' at o ⊢
        (try simp only [forall_const, reduceCtorEq, false_implies, implies_true, Bool.false_eq_true, Dv.tup.injEq, dnR_noX, dnS_toS, dnSL_cons, dnSL_nil, dn_par, dn_par3, dn_asg, dn_setlc, dn_exp, dn_ret, dn_iff, dn_aug, dn_forr, dn_whl, dn_brk, dn_cnt, dn_retn, start, wipeS, glLen, most, tyIs, Option.map_some, Option.bind_some, Option.some.injEq, List.map_cons, List.map_nil, List.cons_append, List.nil_append, List.length_cons, List.length_nil, List.reduceReplicate, List.getElem?_cons_zero, List.getElem?_cons_succ, List.set_cons_zero, List.set_cons_succ, Nat.reduceAdd, Nat.reduceSub, Nat.reduceLeDiff, decide_true, decide_false, if_true, Bool.true_and, Bool.and_true, Dv.bl.injEq, Dv.int.injEq, exists_eq_left, exists_eq_left', true_and, and_true, Bool.and_self, Bool.not_true, Bool.not_false, eq_self, ↓reduceIte, List.isEmpty_cons, Nat.zero_add, and_self, true_implies, decide_eq_true_eq, decide_eq_false_iff_not, dnE_var, dnE_gint, dnE_int, dnE_str, dnE_bl, dnE_non, dnE_tup, dnE_lst, dnE_bin, dnE_cmp, dnE_chain, dnE_not, dnE_neg, dnE_and, dnE_or, dnA_one, dnA_cons, dnO_one, dnO_cons, dnE_ife, dnE_ix, dnE_sl, dnS_slT, dnE_call, dnE_bi, dnE_bm, dnE_isi, dnE_dnew, dnE_disp, dnE_lc, dnE_lcStp, dnF_nil, dnF_cons, dnL_nil, dnL_cons, dnV_none, dnV_some, dnI_seq, dnI_rng1, dnI_rng2, dnI_enum, dnG_name, dnG_tup, dnG_sub, dnGL_nil, dnGL_cons, dnB_len_t, dnB_set0, dnB_int, ixs_t, src_t, cop_lt, cop_le, cop_gt, cop_ge, cop_eq, cop_ne, bop_add, bop_sub, bop_mul, bop_mod, bop_fdiv, bop_addT, bop_mulT, dnK_extend (o.at_ 0 rfl)])
        refine ⟨_, _, rfl, rfl, rfl, intOk_nat (by omega), ?_⟩
        have hn : ((w.a.length : Int) - 1).toNat = w.a.length - 1 := by omega
        rw [hn]
        refine lcL_sim (Q := _) (fun i : Nat => Dv.int (1 + (i : Int) * 1)) Dv.int (List.range (w.a.length - 1)) (fun h1 => OwnM m A _ h h1 _) (fun e : Nat => some (some ((s.a.length : Int) + (1 + (e : Int) * 1)))) (fun _ _ => rfl) ?_ (mapO_some _ _) o (by simp; omega) (by unfold most; simp; omega) ?_
        · rintro h1 y r _ o e
          cases e
          (try simp only [forall_const, reduceCtorEq, false_implies, implies_true, Bool.false_eq_true, Dv.tup.injEq, dnR_noX, dnS_toS, dnSL_cons, dnSL_nil, dn_par, dn_par3, dn_asg, dn_setlc, dn_exp, dn_ret, dn_iff, dn_aug, dn_forr, dn_whl, dn_brk, dn_cnt, dn_retn, start, wipeS, glLen, most, tyIs, Option.map_some, Option.bind_some, Option.some.injEq, List.map_cons, List.map_nil, List.cons_append, List.nil_append, List.length_cons, List.length_nil, List.reduceReplicate, List.getElem?_cons_zero, List.getElem?_cons_succ, List.set_cons_zero, List.set_cons_succ, Nat.reduceAdd, Nat.reduceSub, Nat.reduceLeDiff, decide_true, decide_false, if_true, Bool.true_and, Bool.and_true, Dv.bl.injEq, Dv.int.injEq, exists_eq_left, exists_eq_left', true_and, and_true, Bool.and_self, Bool.not_true, Bool.not_false, eq_self, ↓reduceIte, List.isEmpty_cons, Nat.zero_add, and_self, true_implies, decide_eq_true_eq, decide_eq_false_iff_not, dnE_var, dnE_gint, dnE_int, dnE_str, dnE_bl, dnE_non, dnE_tup, dnE_lst, dnE_bin, dnE_cmp, dnE_chain, dnE_not, dnE_neg, dnE_and, dnE_or, dnA_one, dnA_cons, dnO_one, dnO_cons, dnE_ife, dnE_ix, dnE_sl, dnS_slT, dnE_call, dnE_bi, dnE_bm, dnE_isi, dnE_dnew, dnE_disp, dnE_lc, dnE_lcStp, dnF_nil, dnF_cons, dnL_nil, dnL_cons, dnV_none, dnV_some, dnI_seq, dnI_rng1, dnI_rng2, dnI_enum, dnG_name, dnG_tup, dnG_sub, dnGL_nil, dnGL_cons, dnB_len_t, dnB_set0, dnB_int, ixs_t, src_t, cop_lt, cop_le, cop_gt, cop_ge, cop_eq, cop_ne, bop_add, bop_sub, bop_mul, bop_mod, bop_fdiv, bop_addT, bop_mulT])
          exact o
        intro g16 o
        refine ext_ok o (j := 0) rfl (by simp; omega) fun g17 o => ?_
        simp only [List.set_cons_succ, List.set_cons_zero] at o
        have o := (o.drop [_, (R, .lst [.ref A, .ref B, .ref C]), _, _, _] (by repeat (first | exact List.Sublist.refl _ | apply List.Sublist.cons₂ | apply List.Sublist.cons))).last
        rw [hfil] at ew
        exact ⟨f, _, F', _, _, _, _, _, _, _, _, rfl, o.mono (by omega), ew⟩
      · refine dnR.imp (put_ok hw hwd (by omega) (by omega) (by omega) o) ?_
        rintro _ g10 ⟨rfl, o⟩
        refine ⟨fun z => absurd z hneg, fun _ => ⟨intOk_nat (by omega), ?_⟩⟩
        have ew := es w hwd
        simp only [Bool.or_eq_true, decide_eq_true_eq] at ew
        rcases ew with ew | ⟨ew, _⟩ | ew
        · omega
        · omega
        rw [if_neg (by omega)] at ew
        rw [Int.toNat_natCast]
        refine lcL_sim (Q := _) (fun i : Nat => Dv.int (i : Int)) Dv.int (List.range w.a.length) (fun h1 => OwnM m A _ h h1 _) (fun e : Nat => some (some (e : Int))) (fun _ _ => rng_list _ _) ?_ (mapO_some _ _) o (by simp; omega) (by unfold most; simp; omega) ?_
        · rintro h1 y r _ o e
          cases e
          (try simp only [forall_const, reduceCtorEq, false_implies, implies_true, Bool.false_eq_true, Dv.tup.injEq, dnR_noX, dnS_toS, dnSL_cons, dnSL_nil, dn_par, dn_par3, dn_asg, dn_setlc, dn_exp, dn_ret, dn_iff, dn_aug, dn_forr, dn_whl, dn_brk, dn_cnt, dn_retn, start, wipeS, glLen, most, tyIs, Option.map_some, Option.bind_some, Option.some.injEq, List.map_cons, List.map_nil, List.cons_append, List.nil_append, List.length_cons, List.length_nil, List.reduceReplicate, List.getElem?_cons_zero, List.getElem?_cons_succ, List.set_cons_zero, List.set_cons_succ, Nat.reduceAdd, Nat.reduceSub, Nat.reduceLeDiff, decide_true, decide_false, if_true, Bool.true_and, Bool.and_true, Dv.bl.injEq, Dv.int.injEq, exists_eq_left, exists_eq_left', true_and, and_true, Bool.and_self, Bool.not_true, Bool.not_false, eq_self, ↓reduceIte, List.isEmpty_cons, Nat.zero_add, and_self, true_implies, decide_eq_true_eq, decide_eq_false_iff_not, dnE_var, dnE_gint, dnE_int, dnE_str, dnE_bl, dnE_non, dnE_tup, dnE_lst, dnE_bin, dnE_cmp, dnE_chain, dnE_not, dnE_neg, dnE_and, dnE_or, dnA_one, dnA_cons, dnO_one, dnO_cons, dnE_ife, dnE_ix, dnE_sl, dnS_slT, dnE_call, dnE_bi, dnE_bm, dnE_isi, dnE_dnew, dnE_disp, dnE_lc, dnE_lcStp, dnF_nil, dnF_cons, dnL_nil, dnL_cons, dnV_none, dnV_some, dnI_seq, dnI_rng1, dnI_rng2, dnI_enum, dnG_name, dnG_tup, dnG_sub, dnGL_nil, dnGL_cons, dnB_len_t, dnB_set0, dnB_int, ixs_t, src_t, cop_lt, cop_le, cop_gt, cop_ge, cop_eq, cop_ne, bop_add, bop_sub, bop_mul, bop_mod, bop_fdiv, bop_addT, bop_mulT])
          exact o
        intro g16 o
        have o := o.alloc (.lst (((List.range w.a.length).map fun k : Nat => (k : Int)).map .int))
        have o := (o.drop [_, (R, .lst [.ref A, .ref B, .ref C]), _, _, _] (by repeat (first | exact List.Sublist.refl _ | apply List.Sublist.cons₂ | apply List.Sublist.cons))).last
        exact ⟨f, st0 w s, _, _, _, _, _, _, _, _, _, rfl, o.mono (by omega), ew⟩
  · rintro σ h1 ⟨f, s, F, x4, x5, x6, x7, x8, x9, x10, x11, rfl, o, e⟩
    have hsz := ok1_sz e
    have hend : endOk s = true := by
      cases f with
      | zero => cases e
      | succ f => simp only [ok1, Bool.and_eq_true] at e; exact e.1.2
    rw [List.length_map, List.length_range] at o
    have o1 := o.alloc (.lst [])
    (try simp only [forall_const, reduceCtorEq, false_implies, implies_true, Bool.false_eq_true, Dv.tup.injEq, dnR_noX, dnS_toS, dnSL_cons, dnSL_nil, dn_par, dn_par3, dn_asg, dn_setlc, dn_exp, dn_ret, dn_iff, dn_aug, dn_forr, dn_whl, dn_brk, dn_cnt, dn_retn, start, wipeS, glLen, most, tyIs, Option.map_some, Option.bind_some, Option.some.injEq, List.map_cons, List.map_nil, List.cons_append, List.nil_append, List.length_cons, List.length_nil, List.reduceReplicate, List.getElem?_cons_zero, List.getElem?_cons_succ, List.set_cons_zero, List.set_cons_succ, Nat.reduceAdd, Nat.reduceSub, Nat.reduceLeDiff, decide_true, decide_false, if_true, Bool.true_and, Bool.and_true, Dv.bl.injEq, Dv.int.injEq, exists_eq_left, exists_eq_left', true_and, and_true, Bool.and_self, Bool.not_true, Bool.not_false, eq_self, ↓reduceIte, List.isEmpty_cons, Nat.zero_add, and_self, true_implies, decide_eq_true_eq, decide_eq_false_iff_not, dnE_var, dnE_gint, dnE_int, dnE_str, dnE_bl, dnE_non, dnE_tup, dnE_lst, dnE_bin, dnE_cmp, dnE_chain, dnE_not, dnE_neg, dnE_and, dnE_or, dnA_one, dnA_cons, dnO_one, dnO_cons, dnE_ife, dnE_ix, dnE_sl, dnS_slT, dnE_call, dnE_bi, dnE_bm, dnE_isi, dnE_dnew, dnE_disp, dnE_lc, dnE_lcStp, dnF_nil, dnF_cons, dnL_nil, dnL_cons, dnV_none, dnV_some, dnI_seq, dnI_rng1, dnI_rng2, dnI_enum, dnG_name, dnG_tup, dnG_sub, dnGL_nil, dnGL_cons, dnB_len_t, dnB_set0, dnB_int, ixs_t, src_t, cop_lt, cop_le, cop_gt, cop_ge, cop_eq, cop_ne, bop_add, bop_sub, bop_mul, bop_mod, bop_fdiv, bop_addT, bop_mulT, ixs_l (o.at_ 0 rfl), at0_c0, cop_eq_nil (o1.at_ 2 rfl) (o1.at_ 0 rfl)])
    have o := o.garb [.lst []]
    generalize h1 ++ [Ob.lst []] = g9 at o ⊢
    unfold endOk at hend
    refine ⟨fun hz => ?_, fun hz => ?_⟩
    · have hz' : s.a = [] := by simpa using hz
      rw [if_pos hz'] at hend
      refine dnR.imp (put_ok (w := ⟨"one", [0], [0]⟩) hw (by simp [wds]) (by omega) (by omega) (by omega) o) ?_
      rintro _ g10 ⟨rfl, o⟩
      exact ⟨R, A, B, C, _, _, rfl, o.drop _ (by repeat (first | exact List.Sublist.refl _ | exact List.nil_sublist _ | apply List.Sublist.cons₂ | apply List.Sublist.cons)), by omega, hend⟩
    · have hz' : s.a ≠ [] := by simpa using hz
      rw [if_neg hz'] at hend
      (try simp only [forall_const, reduceCtorEq, false_implies, implies_true, Bool.false_eq_true, Dv.tup.injEq, dnR_noX, dnS_toS, dnSL_cons, dnSL_nil, dn_par, dn_par3, dn_asg, dn_setlc, dn_exp, dn_ret, dn_iff, dn_aug, dn_forr, dn_whl, dn_brk, dn_cnt, dn_retn, start, wipeS, glLen, most, tyIs, Option.map_some, Option.bind_some, Option.some.injEq, List.map_cons, List.map_nil, List.cons_append, List.nil_append, List.length_cons, List.length_nil, List.reduceReplicate, List.getElem?_cons_zero, List.getElem?_cons_succ, List.set_cons_zero, List.set_cons_succ, Nat.reduceAdd, Nat.reduceSub, Nat.reduceLeDiff, decide_true, decide_false, if_true, Bool.true_and, Bool.and_true, Dv.bl.injEq, Dv.int.injEq, exists_eq_left, exists_eq_left', true_and, and_true, Bool.and_self, Bool.not_true, Bool.not_false, eq_self, ↓reduceIte, List.isEmpty_cons, Nat.zero_add, and_self, true_implies, decide_eq_true_eq, decide_eq_false_iff_not, dnE_var, dnE_gint, dnE_int, dnE_str, dnE_bl, dnE_non, dnE_tup, dnE_lst, dnE_bin, dnE_cmp, dnE_chain, dnE_not, dnE_neg, dnE_and, dnE_or, dnA_one, dnA_cons, dnO_one, dnO_cons, dnE_ife, dnE_ix, dnE_sl, dnS_slT, dnE_call, dnE_bi, dnE_bm, dnE_isi, dnE_dnew, dnE_disp, dnE_lc, dnE_lcStp, dnF_nil, dnF_cons, dnL_nil, dnL_cons, dnV_none, dnV_some, dnI_seq, dnI_rng1, dnI_rng2, dnI_enum, dnG_name, dnG_tup, dnG_sub, dnGL_nil, dnGL_cons, dnB_len_t, dnB_set0, dnB_int, ixs_t, src_t, cop_lt, cop_le, cop_gt, cop_ge, cop_eq, cop_ne, bop_add, bop_sub, bop_mul, bop_mod, bop_fdiv, bop_addT, bop_mulT, dnB_len_l (o.at_ 4 rfl), List.length_map])
      refine ⟨intOk_nat (by omega), ?_⟩
      rw [Int.toNat_natCast]
      generalize hN2 : s.f.length = N2
      have hN2' : N2 ≤ 100 := by omega
      refine forL_inv (xs := (List.range N2).map fun i : Nat => Dv.int (i : Int)) (fun i σ h1 => ∃ (f : Nat) (s : St) (F : Nat) (x4 x5 x6 x7 x8 x9 x10 x11 : Option Dv), σ = [some (.ref m), some (.int 4), some (.ref R), some (.ref F), x4, x5, x6, x7, x8, x9, x10, x11] ∧ OwnM m A (k + 1 + 2 * N + 2 * i) h h1 [(R, .lst [.ref A, .ref B, .ref C]), (A, .lst (s.a.map .int)), (B, .lst (s.b.map .int)), (C, .lst (s.c.map .int)), (F, .lst (s.f.map .int))] ∧ ok2 f s = true) (fun i σ h _ => rng_list h N2) ?_ ?_ wf 0 _ _ ⟨6, s, F, _, _, _, _, _, _, _, _, rfl, o, hend⟩ (by simp; omega) (Nat.zero_le _)
      · clear e o hend hsz hN2 hz' hz o1
        rintro i σ h1 v hv ⟨f, s, F, x4, x5, x6, x7, x8, x9, x10, x11, rfl, o, e⟩
        have hi : i < N2 := by simpa using (List.getElem?_eq_some_iff.mp hv).1
        have hsz := fin_sz (ok2_fin e)
        have other : ∀ {h3 : Hh} {v4 v5 v6 v7 v8 v9 v10 v11 : Option Dv} {k' : Nat}, k' ≤ k + 1 + 2 * N + 2 * (i + 1) → OwnM m A k' h h3 [(R, .lst [.ref A, .ref B, .ref C]), (A, .lst (s.a.map .int)), (B, .lst (s.b.map .int)), (C, .lst (s.c.map .int)), (F, .lst (s.f.map .int))] → ∃ (f : Nat) (s' : St) (F' : Nat) (x4 x5 x6 x7 x8 x9 x10 x11 : Option Dv), [some (Dv.ref m), some (.int 4), some (.ref R), some (.ref h3.length), v4, v5, v6, v7, v8, v9, v10, v11] = [some (Dv.ref m), some (.int 4), some (.ref R), some (.ref F'), x4, x5, x6, x7, x8, x9, x10, x11] ∧ OwnM m A (k + 1 + 2 * N + 2 * (i + 1)) h (h3 ++ [Ob.lst ((s.f.drop 1).map .int)]) [(R, .lst [.ref A, .ref B, .ref C]), (A, .lst (s'.a.map .int)), (B, .lst (s'.b.map .int)), (C, .lst (s'.c.map .int)), (F', .lst (s'.f.map .int))] ∧ ok2 f s' = true := by
          intro h3 v4 v5 v6 v7 v8 v9 v10 v11 k' hk' o
          obtain ⟨g', eg⟩ := ok2_drop e
          have o := o.alloc (.lst ((s.f.drop 1).map .int))
          have o := (o.drop [_, (R, .lst [.ref A, .ref B, .ref C]), _, _, _] (by repeat (first | exact List.Sublist.refl _ | apply List.Sublist.cons₂ | apply List.Sublist.cons))).last
          exact ⟨g', ⟨s.a, s.b, s.c, s.f.drop 1⟩, _, _, _, _, _, _, _, _, _, rfl, o.mono hk', eg⟩
        (try simp only [forall_const, reduceCtorEq, false_implies, implies_true, Bool.false_eq_true, Dv.tup.injEq, dnR_noX, dnS_toS, dnSL_cons, dnSL_nil, dn_par, dn_par3, dn_asg, dn_setlc, dn_exp, dn_ret, dn_iff, dn_aug, dn_forr, dn_whl, dn_brk, dn_cnt, dn_retn, start, wipeS, glLen, most, tyIs, Option.map_some, Option.bind_some, Option.some.injEq, List.map_cons, List.map_nil, List.cons_append, List.nil_append, List.length_cons, List.length_nil, List.reduceReplicate, List.getElem?_cons_zero, List.getElem?_cons_succ, List.set_cons_zero, List.set_cons_succ, Nat.reduceAdd, Nat.reduceSub, Nat.reduceLeDiff, decide_true, decide_false, if_true, Bool.true_and, Bool.and_true, Dv.bl.injEq, Dv.int.injEq, exists_eq_left, exists_eq_left', true_and, and_true, Bool.and_self, Bool.not_true, Bool.not_false, eq_self, ↓reduceIte, List.isEmpty_cons, Nat.zero_add, and_self, true_implies, decide_eq_true_eq, decide_eq_false_iff_not, dnE_var, dnE_gint, dnE_int, dnE_str, dnE_bl, dnE_non, dnE_tup, dnE_lst, dnE_bin, dnE_cmp, dnE_chain, dnE_not, dnE_neg, dnE_and, dnE_or, dnA_one, dnA_cons, dnO_one, dnO_cons, dnE_ife, dnE_ix, dnE_sl, dnS_slT, dnE_call, dnE_bi, dnE_bm, dnE_isi, dnE_dnew, dnE_disp, dnE_lc, dnE_lcStp, dnF_nil, dnF_cons, dnL_nil, dnL_cons, dnV_none, dnV_some, dnI_seq, dnI_rng1, dnI_rng2, dnI_enum, dnG_name, dnG_tup, dnG_sub, dnGL_nil, dnGL_cons, dnB_len_t, dnB_set0, dnB_int, ixs_t, src_t, cop_lt, cop_le, cop_gt, cop_ge, cop_eq, cop_ne, bop_add, bop_sub, bop_mul, bop_mod, bop_fdiv, bop_addT, bop_mulT, dnB_len_l (o.at_ 4 rfl), List.length_map])
        refine ⟨fun hl => ?_, fun hl => ?_⟩
        · refine dnR.imp (draw_ok hw o.ms (by omega) (by omega) (by omega)) ?_
          rintro _ g11 ⟨d, ob, rfl, d1, d2, e3, x3⟩
          have o := o.drawn e3 x3
          (try simp only [forall_const, reduceCtorEq, false_implies, implies_true, Bool.false_eq_true, Dv.tup.injEq, dnR_noX, dnS_toS, dnSL_cons, dnSL_nil, dn_par, dn_par3, dn_asg, dn_setlc, dn_exp, dn_ret, dn_iff, dn_aug, dn_forr, dn_whl, dn_brk, dn_cnt, dn_retn, start, wipeS, glLen, most, tyIs, Option.map_some, Option.bind_some, Option.some.injEq, List.map_cons, List.map_nil, List.cons_append, List.nil_append, List.length_cons, List.length_nil, List.reduceReplicate, List.getElem?_cons_zero, List.getElem?_cons_succ, List.set_cons_zero, List.set_cons_succ, Nat.reduceAdd, Nat.reduceSub, Nat.reduceLeDiff, decide_true, decide_false, if_true, Bool.true_and, Bool.and_true, Dv.bl.injEq, Dv.int.injEq, exists_eq_left, exists_eq_left', true_and, and_true, Bool.and_self, Bool.not_true, Bool.not_false, eq_self, ↓reduceIte, List.isEmpty_cons, Nat.zero_add, and_self, true_implies, decide_eq_true_eq, decide_eq_false_iff_not, dnE_var, dnE_gint, dnE_int, dnE_str, dnE_bl, dnE_non, dnE_tup, dnE_lst, dnE_bin, dnE_cmp, dnE_chain, dnE_not, dnE_neg, dnE_and, dnE_or, dnA_one, dnA_cons, dnO_one, dnO_cons, dnE_ife, dnE_ix, dnE_sl, dnS_slT, dnE_call, dnE_bi, dnE_bm, dnE_isi, dnE_dnew, dnE_disp, dnE_lc, dnE_lcStp, dnF_nil, dnF_cons, dnL_nil, dnL_cons, dnV_none, dnV_some, dnI_seq, dnI_rng1, dnI_rng2, dnI_enum, dnG_name, dnG_tup, dnG_sub, dnGL_nil, dnGL_cons, dnB_len_t, dnB_set0, dnB_int, ixs_t, src_t, cop_lt, cop_le, cop_gt, cop_ge, cop_eq, cop_ne, bop_add, bop_sub, bop_mul, bop_mod, bop_fdiv, bop_addT, bop_mulT])
          refine ⟨fun hd => ?_, fun hd => ?_⟩
          · rw [dnS_slL (o.at_ 4 rfl), cut_drop1]
            obtain ⟨xa, xb, xc, xf⟩ := s
            simp only at hl hsz o e ⊢
            cases xf with
            | nil => simp at hl
            | cons x rest =>
              simp only [List.drop_succ_cons, List.drop_zero, List.length_cons] at hl hsz ⊢
              have o1 := o.alloc (.lst (rest.map .int))
              refine dnR.imp (of_ok hw o1.ms (by omega) (o1.at_ 0 rfl) (by simp; omega) (by simp; omega)) ?_
              rintro v2 g12 ⟨ob2, hv2, e4, x4'⟩
              have o := (o1.drawn e4 x4').drop [(R, .lst [.ref A, .ref B, .ref C]), _, _, _, _] (List.sublist_cons_self _ _)
              obtain ⟨other', hl2, rfl⟩ := List.mem_map.mp hv2
              cases f with
              | zero => simp [ok2] at e
              | succ f =>
                simp only [ok2, Bool.and_eq_true, List.all_eq_true] at e
                have ew := e.2.2 other' hl2
                split at ew
                case h_2 => cases ew
                rename_i b2 hb2
                obtain ⟨b1, q1, q2⟩ := opt_bind hb2
                (try simp only [forall_const, reduceCtorEq, false_implies, implies_true, Bool.false_eq_true, Dv.tup.injEq, dnR_noX, dnS_toS, dnSL_cons, dnSL_nil, dn_par, dn_par3, dn_asg, dn_setlc, dn_exp, dn_ret, dn_iff, dn_aug, dn_forr, dn_whl, dn_brk, dn_cnt, dn_retn, start, wipeS, glLen, most, tyIs, Option.map_some, Option.bind_some, Option.some.injEq, List.map_cons, List.map_nil, List.cons_append, List.nil_append, List.length_cons, List.length_nil, List.reduceReplicate, List.getElem?_cons_zero, List.getElem?_cons_succ, List.set_cons_zero, List.set_cons_succ, Nat.reduceAdd, Nat.reduceSub, Nat.reduceLeDiff, decide_true, decide_false, if_true, Bool.true_and, Bool.and_true, Dv.bl.injEq, Dv.int.injEq, exists_eq_left, exists_eq_left', true_and, and_true, Bool.and_self, Bool.not_true, Bool.not_false, eq_self, ↓reduceIte, List.isEmpty_cons, Nat.zero_add, and_self, true_implies, decide_eq_true_eq, decide_eq_false_iff_not, dnE_var, dnE_gint, dnE_int, dnE_str, dnE_bl, dnE_non, dnE_tup, dnE_lst, dnE_bin, dnE_cmp, dnE_chain, dnE_not, dnE_neg, dnE_and, dnE_or, dnA_one, dnA_cons, dnO_one, dnO_cons, dnE_ife, dnE_ix, dnE_sl, dnS_slT, dnE_call, dnE_bi, dnE_bm, dnE_isi, dnE_dnew, dnE_disp, dnE_lc, dnE_lcStp, dnF_nil, dnF_cons, dnL_nil, dnL_cons, dnV_none, dnV_some, dnI_seq, dnI_rng1, dnI_rng2, dnI_enum, dnG_name, dnG_tup, dnG_sub, dnGL_nil, dnGL_cons, dnB_len_t, dnB_set0, dnB_int, ixs_t, src_t, cop_lt, cop_le, cop_gt, cop_ge, cop_eq, cop_ne, bop_add, bop_sub, bop_mul, bop_mod, bop_fdiv, bop_addT, bop_mulT, ixs_l (o.at_ 0 rfl), at0_c1, ixs_l (o.at_ 4 rfl), at0_c0, sets_l (o.at_ 2 rfl), sA_map, q1])
                have o := o.set 2 rfl (.lst (b1.map .int))
                simp only [List.set_cons_succ, List.set_cons_zero] at o
                generalize List.set g12 B (Ob.lst (List.map Dv.int b1)) = g13 at o ⊢
                (try simp only [forall_const, reduceCtorEq, false_implies, implies_true, Bool.false_eq_true, Dv.tup.injEq, dnR_noX, dnS_toS, dnSL_cons, dnSL_nil, dn_par, dn_par3, dn_asg, dn_setlc, dn_exp, dn_ret, dn_iff, dn_aug, dn_forr, dn_whl, dn_brk, dn_cnt, dn_retn, start, wipeS, glLen, most, tyIs, Option.map_some, Option.bind_some, Option.some.injEq, List.map_cons, List.map_nil, List.cons_append, List.nil_append, List.length_cons, List.length_nil, List.reduceReplicate, List.getElem?_cons_zero, List.getElem?_cons_succ, List.set_cons_zero, List.set_cons_succ, Nat.reduceAdd, Nat.reduceSub, Nat.reduceLeDiff, decide_true, decide_false, if_true, Bool.true_and, Bool.and_true, Dv.bl.injEq, Dv.int.injEq, exists_eq_left, exists_eq_left', true_and, and_true, Bool.and_self, Bool.not_true, Bool.not_false, eq_self, ↓reduceIte, List.isEmpty_cons, Nat.zero_add, and_self, true_implies, decide_eq_true_eq, decide_eq_false_iff_not, dnE_var, dnE_gint, dnE_int, dnE_str, dnE_bl, dnE_non, dnE_tup, dnE_lst, dnE_bin, dnE_cmp, dnE_chain, dnE_not, dnE_neg, dnE_and, dnE_or, dnA_one, dnA_cons, dnO_one, dnO_cons, dnE_ife, dnE_ix, dnE_sl, dnS_slT, dnE_call, dnE_bi, dnE_bm, dnE_isi, dnE_dnew, dnE_disp, dnE_lc, dnE_lcStp, dnF_nil, dnF_cons, dnL_nil, dnL_cons, dnV_none, dnV_some, dnI_seq, dnI_rng1, dnI_rng2, dnI_enum, dnG_name, dnG_tup, dnG_sub, dnGL_nil, dnGL_cons, dnB_len_t, dnB_set0, dnB_int, ixs_t, src_t, cop_lt, cop_le, cop_gt, cop_ge, cop_eq, cop_ne, bop_add, bop_sub, bop_mul, bop_mod, bop_fdiv, bop_addT, bop_mulT, ixs_l (o.at_ 0 rfl), at0_c1, ixs_l (o.at_ 4 rfl), at0_c0, sets_l (o.at_ 2 rfl), sA_map, q2])
                have o := o.set 2 rfl (.lst (b2.map .int))
                simp only [List.set_cons_succ, List.set_cons_zero] at o
                generalize List.set g13 B (Ob.lst (List.map Dv.int b2)) = g14 at o ⊢
                have c1 := cut_drop1 Dv.int (x :: rest)
                simp only [List.drop_succ_cons, List.drop_zero, List.map_cons] at c1
                have o4 := o.at_ 4 rfl
                simp only [List.map_cons] at o4
                rw [dnS_slL o4, c1]
                have o := o.alloc (.lst (rest.map .int))
                generalize g14 ++ [Ob.lst (rest.map .int)] = g15 at o ⊢
                generalize g14.length = F2 at o ⊢
                (try simp only [forall_const, reduceCtorEq, false_implies, implies_true, Bool.false_eq_true, Dv.tup.injEq, dnR_noX, dnS_toS, dnSL_cons, dnSL_nil, dn_par, dn_par3, dn_asg, dn_setlc, dn_exp, dn_ret, dn_iff, dn_aug, dn_forr, dn_whl, dn_brk, dn_cnt, dn_retn, start, wipeS, glLen, most, tyIs, Option.map_some, Option.bind_some, Option.some.injEq, List.map_cons, List.map_nil, List.cons_append, List.nil_append, List.length_cons, List.length_nil, List.reduceReplicate, List.getElem?_cons_zero, List.getElem?_cons_succ, List.set_cons_zero, List.set_cons_succ, Nat.reduceAdd, Nat.reduceSub, Nat.reduceLeDiff, decide_true, decide_false, if_true, Bool.true_and, Bool.and_true, Dv.bl.injEq, Dv.int.injEq, exists_eq_left, exists_eq_left', true_and, and_true, Bool.and_self, Bool.not_true, Bool.not_false, eq_self, ↓reduceIte, List.isEmpty_cons, Nat.zero_add, and_self, true_implies, decide_eq_true_eq, decide_eq_false_iff_not, dnE_var, dnE_gint, dnE_int, dnE_str, dnE_bl, dnE_non, dnE_tup, dnE_lst, dnE_bin, dnE_cmp, dnE_chain, dnE_not, dnE_neg, dnE_and, dnE_or, dnA_one, dnA_cons, dnO_one, dnO_cons, dnE_ife, dnE_ix, dnE_sl, dnS_slT, dnE_call, dnE_bi, dnE_bm, dnE_isi, dnE_dnew, dnE_disp, dnE_lc, dnE_lcStp, dnF_nil, dnF_cons, dnL_nil, dnL_cons, dnV_none, dnV_some, dnI_seq, dnI_rng1, dnI_rng2, dnI_enum, dnG_name, dnG_tup, dnG_sub, dnGL_nil, dnGL_cons, dnB_len_t, dnB_set0, dnB_int, ixs_t, src_t, cop_lt, cop_le, cop_gt, cop_ge, cop_eq, cop_ne, bop_add, bop_sub, bop_mul, bop_mod, bop_fdiv, bop_addT, bop_mulT, src_l (o.at_ 0 rfl)])
                refine lcL_sim (Q := _) Dv.int Dv.int rest (fun h1 => OwnM m A _ h h1 _) (fun y : Int => some (if decide (y ≠ other') = true then some y else none)) (fun h1 o => seq_l (o.at_ 0 rfl)) ?_ (mapO_filter _ _ _) o (by omega) (by unfold most; omega) ?_
                · rintro h1 y r _ o e
                  cases e
                  (try simp only [forall_const, reduceCtorEq, false_implies, implies_true, Bool.false_eq_true, Dv.tup.injEq, dnR_noX, dnS_toS, dnSL_cons, dnSL_nil, dn_par, dn_par3, dn_asg, dn_setlc, dn_exp, dn_ret, dn_iff, dn_aug, dn_forr, dn_whl, dn_brk, dn_cnt, dn_retn, start, wipeS, glLen, most, tyIs, Option.map_some, Option.bind_some, Option.some.injEq, List.map_cons, List.map_nil, List.cons_append, List.nil_append, List.length_cons, List.length_nil, List.reduceReplicate, List.getElem?_cons_zero, List.getElem?_cons_succ, List.set_cons_zero, List.set_cons_succ, Nat.reduceAdd, Nat.reduceSub, Nat.reduceLeDiff, decide_true, decide_false, if_true, Bool.true_and, Bool.and_true, Dv.bl.injEq, Dv.int.injEq, exists_eq_left, exists_eq_left', true_and, and_true, Bool.and_self, Bool.not_true, Bool.not_false, eq_self, ↓reduceIte, List.isEmpty_cons, Nat.zero_add, and_self, true_implies, decide_eq_true_eq, decide_eq_false_iff_not, dnE_var, dnE_gint, dnE_int, dnE_str, dnE_bl, dnE_non, dnE_tup, dnE_lst, dnE_bin, dnE_cmp, dnE_chain, dnE_not, dnE_neg, dnE_and, dnE_or, dnA_one, dnA_cons, dnO_one, dnO_cons, dnE_ife, dnE_ix, dnE_sl, dnS_slT, dnE_call, dnE_bi, dnE_bm, dnE_isi, dnE_dnew, dnE_disp, dnE_lc, dnE_lcStp, dnF_nil, dnF_cons, dnL_nil, dnL_cons, dnV_none, dnV_some, dnI_seq, dnI_rng1, dnI_rng2, dnI_enum, dnG_name, dnG_tup, dnG_sub, dnGL_nil, dnGL_cons, dnB_len_t, dnB_set0, dnB_int, ixs_t, src_t, cop_lt, cop_le, cop_gt, cop_ge, cop_eq, cop_ne, bop_add, bop_sub, bop_mul, bop_mod, bop_fdiv, bop_addT, bop_mulT])
                  refine ⟨fun z => ?_, fun z => ?_⟩
                  · rw [if_pos (by simpa using z)]
                    exact ⟨rfl, o⟩
                  · rw [if_neg (by simpa using z)]
                    exact ⟨rfl, o⟩
                rw [List.map_id' (List.filter _ _)]
                intro g16 o
                have o := o.alloc (.lst ((List.filter (fun y => decide (y ≠ other')) rest).map .int))
                have o := (o.drop [_, (R, .lst [.ref A, .ref B, .ref C]), _, _, _] (by repeat (first | exact List.Sublist.refl _ | apply List.Sublist.cons₂ | apply List.Sublist.cons))).last
                exact ⟨f, _, _, _, _, _, _, _, _, _, _, rfl, o.mono (by omega), ew⟩
          · rw [dnS_slL (o.at_ 4 rfl), cut_drop1]
            exact other (by omega) o
        · rw [dnS_slL (o.at_ 4 rfl), cut_drop1]
          exact other (by omega) o
      · rintro σ h1 ⟨f, s, F, x4, x5, x6, x7, x8, x9, x10, x11, rfl, o, e⟩
        rw [List.length_map, List.length_range] at o
        (try simp only [forall_const, reduceCtorEq, false_implies, implies_true, Bool.false_eq_true, Dv.tup.injEq, dnR_noX, dnS_toS, dnSL_cons, dnSL_nil, dn_par, dn_par3, dn_asg, dn_setlc, dn_exp, dn_ret, dn_iff, dn_aug, dn_forr, dn_whl, dn_brk, dn_cnt, dn_retn, start, wipeS, glLen, most, tyIs, Option.map_some, Option.bind_some, Option.some.injEq, List.map_cons, List.map_nil, List.cons_append, List.nil_append, List.length_cons, List.length_nil, List.reduceReplicate, List.getElem?_cons_zero, List.getElem?_cons_succ, List.set_cons_zero, List.set_cons_succ, Nat.reduceAdd, Nat.reduceSub, Nat.reduceLeDiff, decide_true, decide_false, if_true, Bool.true_and, Bool.and_true, Dv.bl.injEq, Dv.int.injEq, exists_eq_left, exists_eq_left', true_and, and_true, Bool.and_self, Bool.not_true, Bool.not_false, eq_self, ↓reduceIte, List.isEmpty_cons, Nat.zero_add, and_self, true_implies, decide_eq_true_eq, decide_eq_false_iff_not, dnE_var, dnE_gint, dnE_int, dnE_str, dnE_bl, dnE_non, dnE_tup, dnE_lst, dnE_bin, dnE_cmp, dnE_chain, dnE_not, dnE_neg, dnE_and, dnE_or, dnA_one, dnA_cons, dnO_one, dnO_cons, dnE_ife, dnE_ix, dnE_sl, dnS_slT, dnE_call, dnE_bi, dnE_bm, dnE_isi, dnE_dnew, dnE_disp, dnE_lc, dnE_lcStp, dnF_nil, dnF_cons, dnL_nil, dnL_cons, dnV_none, dnV_some, dnI_seq, dnI_rng1, dnI_rng2, dnI_enum, dnG_name, dnG_tup, dnG_sub, dnGL_nil, dnGL_cons, dnB_len_t, dnB_set0, dnB_int, ixs_t, src_t, cop_lt, cop_le, cop_gt, cop_ge, cop_eq, cop_ne, bop_add, bop_sub, bop_mul, bop_mod, bop_fdiv, bop_addT, bop_mulT])
        exact ⟨R, A, B, C, _, _, rfl, o.drop _ (by repeat (first | exact List.Sublist.refl _ | exact List.nil_sublist _ | apply List.Sublist.cons₂ | apply List.Sublist.cons)), by omega, ok2_fin e⟩
end
end FF
end

section
set_option Elab.async false
set_option linter.all false
set_option maxRecDepth 100000
set_option maxHeartbeats 8000000
/-! PL17: the law. -/
namespace FF
open PySem

def lexI (le : Bool) : List Int → List Int → Bool
  | [], [] => le
  | [], _ :: _ => true
  | _ :: _, [] => false
  | x :: xs, y :: ys => if x = y then lexI le xs ys else decide (x < y)
def lexP (le : Bool) : List (List Int) → List (List Int) → Bool
  | [], [] => le
  | [], _ :: _ => true
  | _ :: _, [] => false
  | x :: xs, y :: ys => if x = y then lexP le xs ys else lexI le x y
theorem ltDl_int (le : Bool) (n : Nat) {a b : Int} (h : a ≠ b) : ltD le (n + 1) (.int a) (.int b) = some (decide (a < b)) := by
  cases le
  · simp [ltD]
  · simp [ltD]; omega
theorem ltDl_isI (le : Bool) (n : Nat) (a b : Int) : (ltD le (n + 1) (.int a) (.int b)).isSome = true := by simp [ltD]
theorem ltDl_go_int (le : Bool) (n : Nat) (a b : List Int) : ltD.go le (n + 1) (a.map .int) (b.map .int) = some (lexI le a b) := by
  induction a generalizing b with
  | nil => cases b <;> simp [ltD.go_nn, ltD.go_nc, lexI]
  | cons x r ih => cases b with
    | nil => simp [ltD.go_cn, lexI]
    | cons y s =>
      simp only [List.map_cons, ltD.go_cc, eqv_int, lexI, ih]
      by_cases h : x = y
      · simp [h]
      · simp only [h, decide_false, if_false, ltDl_int le n h, Bool.false_eq_true]
        rw [if_pos]
        rw [List.all_eq_true]
        rintro ⟨u, v⟩ m
        obtain ⟨m1, m2⟩ := List.of_mem_zip m
        obtain ⟨u, _, rfl⟩ := List.mem_map.mp m1
        obtain ⟨v, _, rfl⟩ := List.mem_map.mp m2
        simp [ltDl_isI]
theorem ltDl_iD (le : Bool) (n : Nat) (a b : List Int) : ltD le (n + 2) (iD a) (iD b) = some (lexI le a b) := by
  simp only [ltD, iD]
  exact ltDl_go_int le n a b
theorem ltDl_go_pat (le : Bool) (n : Nat) (a b : List (List Int)) : ltD.go le (n + 2) (a.map iD) (b.map iD) = some (lexP le a b) := by
  induction a generalizing b with
  | nil => cases b <;> simp [ltD.go_nn, ltD.go_nc, lexP]
  | cons x r ih => cases b with
    | nil => simp [ltD.go_cn, lexP]
    | cons y s =>
      simp only [List.map_cons, ltD.go_cc, eqv_iD, lexP, ih]
      by_cases h : x = y
      · simp [h]
      · simp only [h, decide_false, if_false, ltDl_iD, Bool.false_eq_true]
        rw [if_pos]
        rw [List.all_eq_true]
        rintro ⟨u, v⟩ m
        obtain ⟨m1, m2⟩ := List.of_mem_zip m
        obtain ⟨u, _, rfl⟩ := List.mem_map.mp m1
        obtain ⟨v, _, rfl⟩ := List.mem_map.mp m2
        simp [ltDl_iD]
theorem dltl_pT (le : Bool) (h : Hh) (a b : List (List Int)) : dlt le h (pT a) (pT b) = some (lexP le a b) := by
  have : dlt le h (pT a) (pT b) = match toD 8 h (pT a), toD 8 h (pT b) with
    | some a, some b => ltD le 8 a b
    | _, _ => none := by unfold dlt pT; rfl
  rw [this, toD_pT, toD_pT]
  simp only [ltD, pD]
  exact ltDl_go_pat le 5 a b
theorem cop_le_pT {h : Hh} {a b : List (List Int)} : cop .le (pT a) (pT b) h = some (lexP true a b) := by simp only [cop, dltl_pT]
theorem toD_ppT (n : Nat) (h : Hh) (fs : List (List (List Int))) : toD (n + 4) h (.tup (fs.map pT)) = some (.tuple (fs.map pD)) := by
  unfold toD
  simp only
  suffices (fs.map pT).mapM (toD (n + 3) h) = some (fs.map pD) by rw [this]; rfl
  induction fs with
  | nil => rfl
  | cons i r ih => rw [List.map_cons, List.mapM_cons, ih, toD_pT]; rfl
theorem eqvAll_refl (fs : List (List (List Int))) : PyData.eqv (.tuple (fs.map pD)) (.tuple (fs.map pD)) = true := by
  simp only [PyData.eqv]
  induction fs with
  | nil => simp [PyData.eqvAll]
  | cons f r ih => simp [PyData.eqvAll, eqv_pD, ih]
theorem cop_eq_ppT {h : Hh} {fs : List (List (List Int))} : cop .eq (.tup (fs.map pT)) (.tup (fs.map pT)) h = some true := by
  have q : deq h (.tup (fs.map pT)) (.tup (fs.map pT)) = match toD 8 h (.tup (fs.map pT)), toD 8 h (.tup (fs.map pT)) with
    | some a, some b => some (PyData.eqv a b)
    | _, _ => none := by unfold deq; rfl
  simp only [cop, q, toD_ppT 4, eqvAll_refl]
theorem cop_ne_ppT {h : Hh} {fs : List (List (List Int))} : cop .ne (.tup (fs.map pT)) (.tup (fs.map pT)) h = some false := by
  have := cop_eq_ppT (h := h) (fs := fs)
  simp only [cop] at this ⊢
  rw [this]
  rfl
theorem any_eqv_pD (fs : List (List (List Int))) (p : List (List Int)) : ((fs.map pD).any fun z => PyData.eqv z (pD p)) = decide (p ∈ fs) := by
  induction fs with
  | nil => simp
  | cons g gs ih2 =>
    simp only [List.map_cons, List.any_cons, eqv_pD, List.mem_cons, ih2]
    by_cases hg : g = p
    · subst hg; simp
    · have : ¬ p = g := fun z => hg z.symm
      simp [hg, this]
theorem cop_nmem_ppT {h : Hh} {fs : List (List (List Int))} {p : List (List Int)} : cop .nmem (pT p) (.tup (fs.map pT)) h = some (!decide (p ∈ fs)) := by
  have hs : (scalD (pT p) && (fs.map pT).all scalD) = false := by simp [pT, scalD]
  have q : isMem (pT p) (.tup (fs.map pT)) h = isMem.memU (.tup (fs.map pT)) (pT p) h := by
    simp only [isMem, hs]
    rfl
  simp only [cop, q, isMem.memU, toD_ppT 4, toD_pT, any_eqv_pD, Option.map_some]
theorem at0_c2 {x y z : Dv} {r : List Dv} : at0 (x :: y :: z :: r) 2 = some z := by
  unfold at0 ixA
  simp only [List.length_cons]
  rw [if_pos (by omega), if_pos (by omega)]
  rfl
def chk (f : List (List Int)) : Bool := match f with
  | [s0, s1, s2] => match mapO (fun flag : Nat => (lroundM s0 s1 (flag : Int)).map some) (List.range 4), mapO (fun flag : Nat => (lroundM s1 s2 (flag : Int)).map some) (List.range 4) with
    | some p, some q => lispatM s0 s1 s2 p q
    | _, _ => false
  | _ => false
def upM : Option (List Int) := mapO (fun i : Nat => (gA told4 (1 + (i : Int) * 1)).bind fun a => (gA told4 ((1 + (i : Int) * 1) - 1)).bind fun b => some (if lexP true a b = true then some (1 + (i : Int) * 1) else none)) (List.range 21)
theorem call_ext {T : List FD} {wf n f k : Nat} {g : List Dv → Hh → R Dv} {vs : List Dv} {h : Hh} {Q : Dv → Hh → Prop} (e : T[f]? = some (.ext k g)) (l : k ≤ n) (x : dnR (g vs h) Q) : dnR (callN T wf (n + 1) f vs h) Q := by
  unfold callN
  rw [e]
  simp only
  rw [if_pos l]
  exact x
section
variable {wf : Nat} (hw : 2000 ≤ wf)
include hw
theorem law_ok {n : Nat} {ns : List Int} (hl : ns.length ≤ 63) (k1 : ok1 7 ⟨[], [], [], []⟩ = true) (k2 : ∀ c, 1 ≤ c → c ≤ 3 → ∃ t, framesM c = some t ∧ lframesM c = some t) (k3 : framesM 4 = some told4) (k4 : upM = some []) (k5 : told4.all chk = true) : dnR (callN Lw.T wf (n + 5) 21 [.ref 0] [.fro (ns.map .int)]) fun v _ => v = .bl true := by
  refine call_ir rfl rfl ?_
  generalize hh0 : ([Ob.fro (ns.map .int)] : Hh) = h0
  have hz : h0[0]? = some (.fro (ns.map .int)) := by rw [← hh0]; rfl
  have hl0 : h0.length = 1 := by rw [← hh0]; rfl
  (try simp only [forall_const, reduceCtorEq, false_implies, implies_true, Bool.false_eq_true, Dv.tup.injEq, dnR_noX, dnS_toS, dnSL_cons, dnSL_nil, dn_par, dn_par3, dn_asg, dn_setlc, dn_exp, dn_ret, dn_iff, dn_aug, dn_forr, dn_whl, dn_brk, dn_cnt, dn_retn, start, wipeS, glLen, most, tyIs, Option.map_some, Option.bind_some, Option.some.injEq, List.map_cons, List.map_nil, List.cons_append, List.nil_append, List.length_cons, List.length_nil, List.reduceReplicate, List.getElem?_cons_zero, List.getElem?_cons_succ, List.set_cons_zero, List.set_cons_succ, Nat.reduceAdd, Nat.reduceSub, Nat.reduceLeDiff, decide_true, decide_false, if_true, Bool.true_and, Bool.and_true, Dv.bl.injEq, Dv.int.injEq, exists_eq_left, exists_eq_left', true_and, and_true, Bool.and_self, Bool.not_true, Bool.not_false, eq_self, ↓reduceIte, List.isEmpty_cons, Nat.zero_add, and_self, true_implies, decide_eq_true_eq, decide_eq_false_iff_not, dnE_var, dnE_gint, dnE_int, dnE_str, dnE_bl, dnE_non, dnE_tup, dnE_lst, dnE_bin, dnE_cmp, dnE_chain, dnE_not, dnE_neg, dnE_and, dnE_or, dnA_one, dnA_cons, dnO_one, dnO_cons, dnE_ife, dnE_ix, dnE_sl, dnS_slT, dnE_call, dnE_bi, dnE_bm, dnE_isi, dnE_dnew, dnE_disp, dnE_lc, dnE_lcStp, dnF_nil, dnF_cons, dnL_nil, dnL_cons, dnV_none, dnV_some, dnI_seq, dnI_rng1, dnI_rng2, dnI_enum, dnG_name, dnG_tup, dnG_sub, dnGL_nil, dnGL_cons, dnB_len_t, dnB_set0, dnB_int, ixs_t, src_t, cop_lt, cop_le, cop_gt, cop_ge, cop_eq, cop_ne, bop_add, bop_sub, bop_mul, bop_mod, bop_fdiv, bop_addT, bop_mulT, Lw.ir_law])
  refine dnR.imp (begun_ok (k := 0) hw (by omega) (by omega) hz) ?_
  rintro _ h1 ⟨m, rfl, hm, ms, hp⟩
  have keep : ∀ {h h' : Hh}, h <+: h' → h[0]? = some (.fro (ns.map .int)) → h'[0]? = some (.fro (ns.map .int)) := by
    rintro h h' ⟨g, rfl⟩ e
    rw [List.getElem?_append_left (List.getElem?_eq_some_iff.mp e).1]
    exact e
  have z1 := keep hp hz
  (try simp only [forall_const, reduceCtorEq, false_implies, implies_true, Bool.false_eq_true, Dv.tup.injEq, dnR_noX, dnS_toS, dnSL_cons, dnSL_nil, dn_par, dn_par3, dn_asg, dn_setlc, dn_exp, dn_ret, dn_iff, dn_aug, dn_forr, dn_whl, dn_brk, dn_cnt, dn_retn, start, wipeS, glLen, most, tyIs, Option.map_some, Option.bind_some, Option.some.injEq, List.map_cons, List.map_nil, List.cons_append, List.nil_append, List.length_cons, List.length_nil, List.reduceReplicate, List.getElem?_cons_zero, List.getElem?_cons_succ, List.set_cons_zero, List.set_cons_succ, Nat.reduceAdd, Nat.reduceSub, Nat.reduceLeDiff, decide_true, decide_false, if_true, Bool.true_and, Bool.and_true, Dv.bl.injEq, Dv.int.injEq, exists_eq_left, exists_eq_left', true_and, and_true, Bool.and_self, Bool.not_true, Bool.not_false, eq_self, ↓reduceIte, List.isEmpty_cons, Nat.zero_add, and_self, true_implies, decide_eq_true_eq, decide_eq_false_iff_not, dnE_var, dnE_gint, dnE_int, dnE_str, dnE_bl, dnE_non, dnE_tup, dnE_lst, dnE_bin, dnE_cmp, dnE_chain, dnE_not, dnE_neg, dnE_and, dnE_or, dnA_one, dnA_cons, dnO_one, dnO_cons, dnE_ife, dnE_ix, dnE_sl, dnS_slT, dnE_call, dnE_bi, dnE_bm, dnE_isi, dnE_dnew, dnE_disp, dnE_lc, dnE_lcStp, dnF_nil, dnF_cons, dnL_nil, dnL_cons, dnV_none, dnV_some, dnI_seq, dnI_rng1, dnI_rng2, dnI_enum, dnG_name, dnG_tup, dnG_sub, dnGL_nil, dnGL_cons, dnB_len_t, dnB_set0, dnB_int, ixs_t, src_t, cop_lt, cop_le, cop_gt, cop_ge, cop_eq, cop_ne, bop_add, bop_sub, bop_mul, bop_mod, bop_fdiv, bop_addT, bop_mulT])
  refine dnR.imp (draw_ok hw ms (by omega) (by omega) (by omega)) ?_
  rintro _ h2 ⟨d, ob, rfl, d1, d2, rfl, ms⟩
  have z2 : (h1.set m ob)[0]? = some (.fro (ns.map .int)) := by rw [List.getElem?_set_ne (by omega)]; exact z1
  have ll2 : (h1.set m ob).length = h1.length := List.length_set
  generalize h1.set m ob = h2 at ms z2 ll2 ⊢
  rw [← ll2] at ms
  clear z1 ll2
  obtain ⟨c, hc⟩ : ∃ c : Nat, 1 + d = (c : Int) := ⟨(1 + d).toNat, by omega⟩
  obtain ⟨t, hf, hlf⟩ := k2 c (by omega) (by omega)
  (try simp only [forall_const, reduceCtorEq, false_implies, implies_true, Bool.false_eq_true, Dv.tup.injEq, dnR_noX, dnS_toS, dnSL_cons, dnSL_nil, dn_par, dn_par3, dn_asg, dn_setlc, dn_exp, dn_ret, dn_iff, dn_aug, dn_forr, dn_whl, dn_brk, dn_cnt, dn_retn, start, wipeS, glLen, most, tyIs, Option.map_some, Option.bind_some, Option.some.injEq, List.map_cons, List.map_nil, List.cons_append, List.nil_append, List.length_cons, List.length_nil, List.reduceReplicate, List.getElem?_cons_zero, List.getElem?_cons_succ, List.set_cons_zero, List.set_cons_succ, Nat.reduceAdd, Nat.reduceSub, Nat.reduceLeDiff, decide_true, decide_false, if_true, Bool.true_and, Bool.and_true, Dv.bl.injEq, Dv.int.injEq, exists_eq_left, exists_eq_left', true_and, and_true, Bool.and_self, Bool.not_true, Bool.not_false, eq_self, ↓reduceIte, List.isEmpty_cons, Nat.zero_add, and_self, true_implies, decide_eq_true_eq, decide_eq_false_iff_not, dnE_var, dnE_gint, dnE_int, dnE_str, dnE_bl, dnE_non, dnE_tup, dnE_lst, dnE_bin, dnE_cmp, dnE_chain, dnE_not, dnE_neg, dnE_and, dnE_or, dnA_one, dnA_cons, dnO_one, dnO_cons, dnE_ife, dnE_ix, dnE_sl, dnS_slT, dnE_call, dnE_bi, dnE_bm, dnE_isi, dnE_dnew, dnE_disp, dnE_lc, dnE_lcStp, dnF_nil, dnF_cons, dnL_nil, dnL_cons, dnV_none, dnV_some, dnI_seq, dnI_rng1, dnI_rng2, dnI_enum, dnG_name, dnG_tup, dnG_sub, dnGL_nil, dnGL_cons, dnB_len_t, dnB_set0, dnB_int, ixs_t, src_t, cop_lt, cop_le, cop_gt, cop_ge, cop_eq, cop_ne, bop_add, bop_sub, bop_mul, bop_mod, bop_fdiv, bop_addT, bop_mulT, hc])
  refine dnR.imp (frames_ok hw rfl hf) ?_
  rintro _ h3 ⟨rfl, p3⟩
  refine dnR.imp (lframes_ok hw rfl hlf) ?_
  rintro _ h4 ⟨rfl, p4⟩
  have ms := (ms.ext (p3.trans p4)).mono (p3.trans p4).length_le (Nat.le_refl _)
  have z4 := keep (p3.trans p4) z2
  (try simp only [forall_const, reduceCtorEq, false_implies, implies_true, Bool.false_eq_true, Dv.tup.injEq, dnR_noX, dnS_toS, dnSL_cons, dnSL_nil, dn_par, dn_par3, dn_asg, dn_setlc, dn_exp, dn_ret, dn_iff, dn_aug, dn_forr, dn_whl, dn_brk, dn_cnt, dn_retn, start, wipeS, glLen, most, tyIs, Option.map_some, Option.bind_some, Option.some.injEq, List.map_cons, List.map_nil, List.cons_append, List.nil_append, List.length_cons, List.length_nil, List.reduceReplicate, List.getElem?_cons_zero, List.getElem?_cons_succ, List.set_cons_zero, List.set_cons_succ, Nat.reduceAdd, Nat.reduceSub, Nat.reduceLeDiff, decide_true, decide_false, if_true, Bool.true_and, Bool.and_true, Dv.bl.injEq, Dv.int.injEq, exists_eq_left, exists_eq_left', true_and, and_true, Bool.and_self, Bool.not_true, Bool.not_false, eq_self, ↓reduceIte, List.isEmpty_cons, Nat.zero_add, and_self, true_implies, decide_eq_true_eq, decide_eq_false_iff_not, dnE_var, dnE_gint, dnE_int, dnE_str, dnE_bl, dnE_non, dnE_tup, dnE_lst, dnE_bin, dnE_cmp, dnE_chain, dnE_not, dnE_neg, dnE_and, dnE_or, dnA_one, dnA_cons, dnO_one, dnO_cons, dnE_ife, dnE_ix, dnE_sl, dnS_slT, dnE_call, dnE_bi, dnE_bm, dnE_isi, dnE_dnew, dnE_disp, dnE_lc, dnE_lcStp, dnF_nil, dnF_cons, dnL_nil, dnL_cons, dnV_none, dnV_some, dnI_seq, dnI_rng1, dnI_rng2, dnI_enum, dnG_name, dnG_tup, dnG_sub, dnGL_nil, dnGL_cons, dnB_len_t, dnB_set0, dnB_int, ixs_t, src_t, cop_lt, cop_le, cop_gt, cop_ge, cop_eq, cop_ne, bop_add, bop_sub, bop_mul, bop_mod, bop_fdiv, bop_addT, bop_mulT, cop_ne_ppT])
  refine dnR.imp (draw_ok hw ms (by omega) (by omega) (by omega)) ?_
  rintro _ h5 ⟨d', ob', rfl, d1', d2', e5, ms⟩
  have z5 : h5[0]? = some (.fro (ns.map .int)) := by rw [e5, List.getElem?_set_ne (by omega)]; exact z4
  have ll5 : h5.length = h4.length := by rw [e5]; exact List.length_set
  rw [← ll5] at ms
  (try simp only [forall_const, reduceCtorEq, false_implies, implies_true, Bool.false_eq_true, Dv.tup.injEq, dnR_noX, dnS_toS, dnSL_cons, dnSL_nil, dn_par, dn_par3, dn_asg, dn_setlc, dn_exp, dn_ret, dn_iff, dn_aug, dn_forr, dn_whl, dn_brk, dn_cnt, dn_retn, start, wipeS, glLen, most, tyIs, Option.map_some, Option.bind_some, Option.some.injEq, List.map_cons, List.map_nil, List.cons_append, List.nil_append, List.length_cons, List.length_nil, List.reduceReplicate, List.getElem?_cons_zero, List.getElem?_cons_succ, List.set_cons_zero, List.set_cons_succ, Nat.reduceAdd, Nat.reduceSub, Nat.reduceLeDiff, decide_true, decide_false, if_true, Bool.true_and, Bool.and_true, Dv.bl.injEq, Dv.int.injEq, exists_eq_left, exists_eq_left', true_and, and_true, Bool.and_self, Bool.not_true, Bool.not_false, eq_self, ↓reduceIte, List.isEmpty_cons, Nat.zero_add, and_self, true_implies, decide_eq_true_eq, decide_eq_false_iff_not, dnE_var, dnE_gint, dnE_int, dnE_str, dnE_bl, dnE_non, dnE_tup, dnE_lst, dnE_bin, dnE_cmp, dnE_chain, dnE_not, dnE_neg, dnE_and, dnE_or, dnA_one, dnA_cons, dnO_one, dnO_cons, dnE_ife, dnE_ix, dnE_sl, dnS_slT, dnE_call, dnE_bi, dnE_bm, dnE_isi, dnE_dnew, dnE_disp, dnE_lc, dnE_lcStp, dnF_nil, dnF_cons, dnL_nil, dnL_cons, dnV_none, dnV_some, dnI_seq, dnI_rng1, dnI_rng2, dnI_enum, dnG_name, dnG_tup, dnG_sub, dnGL_nil, dnGL_cons, dnB_len_t, dnB_set0, dnB_int, ixs_t, src_t, cop_lt, cop_le, cop_gt, cop_ge, cop_eq, cop_ne, bop_add, bop_sub, bop_mul, bop_mod, bop_fdiv, bop_addT, bop_mulT])
  refine call_ext rfl (by omega) ?_
  have hr : Lw.refF [Dv.int (5 + d')] h5 = .ok (.bl true) h5 := by
    simp only [Lw.refF]
    rw [if_pos (by omega)]
  rw [hr, dnR_ok]
  (try simp only [forall_const, reduceCtorEq, false_implies, implies_true, Bool.false_eq_true, Dv.tup.injEq, dnR_noX, dnS_toS, dnSL_cons, dnSL_nil, dn_par, dn_par3, dn_asg, dn_setlc, dn_exp, dn_ret, dn_iff, dn_aug, dn_forr, dn_whl, dn_brk, dn_cnt, dn_retn, start, wipeS, glLen, most, tyIs, Option.map_some, Option.bind_some, Option.some.injEq, List.map_cons, List.map_nil, List.cons_append, List.nil_append, List.length_cons, List.length_nil, List.reduceReplicate, List.getElem?_cons_zero, List.getElem?_cons_succ, List.set_cons_zero, List.set_cons_succ, Nat.reduceAdd, Nat.reduceSub, Nat.reduceLeDiff, decide_true, decide_false, if_true, Bool.true_and, Bool.and_true, Dv.bl.injEq, Dv.int.injEq, exists_eq_left, exists_eq_left', true_and, and_true, Bool.and_self, Bool.not_true, Bool.not_false, eq_self, ↓reduceIte, List.isEmpty_cons, Nat.zero_add, and_self, true_implies, decide_eq_true_eq, decide_eq_false_iff_not, dnE_var, dnE_gint, dnE_int, dnE_str, dnE_bl, dnE_non, dnE_tup, dnE_lst, dnE_bin, dnE_cmp, dnE_chain, dnE_not, dnE_neg, dnE_and, dnE_or, dnA_one, dnA_cons, dnO_one, dnO_cons, dnE_ife, dnE_ix, dnE_sl, dnS_slT, dnE_call, dnE_bi, dnE_bm, dnE_isi, dnE_dnew, dnE_disp, dnE_lc, dnE_lcStp, dnF_nil, dnF_cons, dnL_nil, dnL_cons, dnV_none, dnV_some, dnI_seq, dnI_rng1, dnI_rng2, dnI_enum, dnG_name, dnG_tup, dnG_sub, dnGL_nil, dnGL_cons, dnB_len_t, dnB_set0, dnB_int, ixs_t, src_t, cop_lt, cop_le, cop_gt, cop_ge, cop_eq, cop_ne, bop_add, bop_sub, bop_mul, bop_mod, bop_fdiv, bop_addT, bop_mulT, dnB_len_f z5, List.length_map])
  refine ⟨by omega, fun hq => ?_, fun hq => ?_⟩
  · refine dnR.imp (frames_ok (count := 4) hw rfl k3) ?_
    rintro _ h6 ⟨rfl, p6⟩
    have hlen : told4.length = 22 := rfl
    (try simp only [forall_const, reduceCtorEq, false_implies, implies_true, Bool.false_eq_true, Dv.tup.injEq, dnR_noX, dnS_toS, dnSL_cons, dnSL_nil, dn_par, dn_par3, dn_asg, dn_setlc, dn_exp, dn_ret, dn_iff, dn_aug, dn_forr, dn_whl, dn_brk, dn_cnt, dn_retn, start, wipeS, glLen, most, tyIs, Option.map_some, Option.bind_some, Option.some.injEq, List.map_cons, List.map_nil, List.cons_append, List.nil_append, List.length_cons, List.length_nil, List.reduceReplicate, List.getElem?_cons_zero, List.getElem?_cons_succ, List.set_cons_zero, List.set_cons_succ, Nat.reduceAdd, Nat.reduceSub, Nat.reduceLeDiff, decide_true, decide_false, if_true, Bool.true_and, Bool.and_true, Dv.bl.injEq, Dv.int.injEq, exists_eq_left, exists_eq_left', true_and, and_true, Bool.and_self, Bool.not_true, Bool.not_false, eq_self, ↓reduceIte, List.isEmpty_cons, Nat.zero_add, and_self, true_implies, decide_eq_true_eq, decide_eq_false_iff_not, dnE_var, dnE_gint, dnE_int, dnE_str, dnE_bl, dnE_non, dnE_tup, dnE_lst, dnE_bin, dnE_cmp, dnE_chain, dnE_not, dnE_neg, dnE_and, dnE_or, dnA_one, dnA_cons, dnO_one, dnO_cons, dnE_ife, dnE_ix, dnE_sl, dnS_slT, dnE_call, dnE_bi, dnE_bm, dnE_isi, dnE_dnew, dnE_disp, dnE_lc, dnE_lcStp, dnF_nil, dnF_cons, dnL_nil, dnL_cons, dnV_none, dnV_some, dnI_seq, dnI_rng1, dnI_rng2, dnI_enum, dnG_name, dnG_tup, dnG_sub, dnGL_nil, dnGL_cons, dnB_len_t, dnB_set0, dnB_int, ixs_t, src_t, cop_lt, cop_le, cop_gt, cop_ge, cop_eq, cop_ne, bop_add, bop_sub, bop_mul, bop_mod, bop_fdiv, bop_addT, bop_mulT, dnB_len_t, List.length_map, hlen])
    refine ⟨_, _, rfl, rfl, by decide, by decide, ?_⟩
    have hn : (((22 : Nat) : Int) - 1).toNat = 21 := rfl
    rw [hn]
    refine lcL_sim (Q := _) (fun i : Nat => Dv.int (1 + (i : Int) * 1)) Dv.int (List.range 21) (fun h' => h6 = h') _ (fun _ _ => rfl) ?_ k4 rfl (by simp; omega) (by unfold most; simp) ?_
    · rintro h' y o _ rfl e
      obtain ⟨a, q1, e⟩ := opt_bind e
      obtain ⟨b, q2, e⟩ := opt_bind e
      cases e
      (try simp only [forall_const, reduceCtorEq, false_implies, implies_true, Bool.false_eq_true, Dv.tup.injEq, dnR_noX, dnS_toS, dnSL_cons, dnSL_nil, dn_par, dn_par3, dn_asg, dn_setlc, dn_exp, dn_ret, dn_iff, dn_aug, dn_forr, dn_whl, dn_brk, dn_cnt, dn_retn, start, wipeS, glLen, most, tyIs, Option.map_some, Option.bind_some, Option.some.injEq, List.map_cons, List.map_nil, List.cons_append, List.nil_append, List.length_cons, List.length_nil, List.reduceReplicate, List.getElem?_cons_zero, List.getElem?_cons_succ, List.set_cons_zero, List.set_cons_succ, Nat.reduceAdd, Nat.reduceSub, Nat.reduceLeDiff, decide_true, decide_false, if_true, Bool.true_and, Bool.and_true, Dv.bl.injEq, Dv.int.injEq, exists_eq_left, exists_eq_left', true_and, and_true, Bool.and_self, Bool.not_true, Bool.not_false, eq_self, ↓reduceIte, List.isEmpty_cons, Nat.zero_add, and_self, true_implies, decide_eq_true_eq, decide_eq_false_iff_not, dnE_var, dnE_gint, dnE_int, dnE_str, dnE_bl, dnE_non, dnE_tup, dnE_lst, dnE_bin, dnE_cmp, dnE_chain, dnE_not, dnE_neg, dnE_and, dnE_or, dnA_one, dnA_cons, dnO_one, dnO_cons, dnE_ife, dnE_ix, dnE_sl, dnS_slT, dnE_call, dnE_bi, dnE_bm, dnE_isi, dnE_dnew, dnE_disp, dnE_lc, dnE_lcStp, dnF_nil, dnF_cons, dnL_nil, dnL_cons, dnV_none, dnV_some, dnI_seq, dnI_rng1, dnI_rng2, dnI_enum, dnG_name, dnG_tup, dnG_sub, dnGL_nil, dnGL_cons, dnB_len_t, dnB_set0, dnB_int, ixs_t, src_t, cop_lt, cop_le, cop_gt, cop_ge, cop_eq, cop_ne, bop_add, bop_sub, bop_mul, bop_mod, bop_fdiv, bop_addT, bop_mulT, at0_map, q1, q2, cop_le_pT])
      refine ⟨fun z => ?_, fun z => ?_⟩
      · rw [if_pos z]; rfl
      · rw [if_neg (by rw [z]; decide)]; rfl
    rintro _ rfl
    (try simp only [forall_const, reduceCtorEq, false_implies, implies_true, Bool.false_eq_true, Dv.tup.injEq, dnR_noX, dnS_toS, dnSL_cons, dnSL_nil, dn_par, dn_par3, dn_asg, dn_setlc, dn_exp, dn_ret, dn_iff, dn_aug, dn_forr, dn_whl, dn_brk, dn_cnt, dn_retn, start, wipeS, glLen, most, tyIs, Option.map_some, Option.bind_some, Option.some.injEq, List.map_cons, List.map_nil, List.cons_append, List.nil_append, List.length_cons, List.length_nil, List.reduceReplicate, List.getElem?_cons_zero, List.getElem?_cons_succ, List.set_cons_zero, List.set_cons_succ, Nat.reduceAdd, Nat.reduceSub, Nat.reduceLeDiff, decide_true, decide_false, if_true, Bool.true_and, Bool.and_true, Dv.bl.injEq, Dv.int.injEq, exists_eq_left, exists_eq_left', true_and, and_true, Bool.and_self, Bool.not_true, Bool.not_false, eq_self, ↓reduceIte, List.isEmpty_cons, Nat.zero_add, and_self, true_implies, decide_eq_true_eq, decide_eq_false_iff_not, dnE_var, dnE_gint, dnE_int, dnE_str, dnE_bl, dnE_non, dnE_tup, dnE_lst, dnE_bin, dnE_cmp, dnE_chain, dnE_not, dnE_neg, dnE_and, dnE_or, dnA_one, dnA_cons, dnO_one, dnO_cons, dnE_ife, dnE_ix, dnE_sl, dnS_slT, dnE_call, dnE_bi, dnE_bm, dnE_isi, dnE_dnew, dnE_disp, dnE_lc, dnE_lcStp, dnF_nil, dnF_cons, dnL_nil, dnL_cons, dnV_none, dnV_some, dnI_seq, dnI_rng1, dnI_rng2, dnI_enum, dnG_name, dnG_tup, dnG_sub, dnGL_nil, dnGL_cons, dnB_len_t, dnB_set0, dnB_int, ixs_t, src_t, cop_lt, cop_le, cop_gt, cop_ge, cop_eq, cop_ne, bop_add, bop_sub, bop_mul, bop_mod, bop_fdiv, bop_addT, bop_mulT, cop_ne_fr0])
    have ms := (ms.ext p6).mono p6.length_le (Nat.le_refl _)
    have z6 := keep p6 z5
    have p7 : h6 <+: h6 ++ [Ob.lst []] ++ [Ob.lst []] := (List.prefix_append _ _).trans (List.prefix_append _ _)
    have ms := (ms.ext p7).mono p7.length_le (Nat.le_refl _)
    have z7 := keep p7 z6
    generalize h6 ++ [Ob.lst []] ++ [Ob.lst []] = h7 at ms z7 ⊢
    refine forL_sim pT told4 (fun (s : Unit) σ h1 => ∃ x4 x5 x6 x7 x8 x9 x10 x11 x12 x13 x14 x15, σ = [some (.ref 0), some (.ref m), some (.int c), some (.tup (told4.map pT)), x4, x5, x6, x7, x8, x9, x10, x11, x12, x13, x14, x15] ∧ MS h1.length h1 m 2 ∧ h1[0]? = some (.fro (ns.map .int))) (fun _ _ => some ()) ?_ ?_ (s0 := ()) (s1 := ()) (unit_fold _) ⟨_, _, _, _, _, _, _, _, _, _, _, _, rfl, ms, z7⟩ (by omega) ?_
    · exact fun s σ h1 _ => rfl
    · rintro s s' σ h1 one hone ⟨x4, x5, x6, x7, x8, x9, x10, x11, x12, x13, x14, x15, rfl, ms, z⟩ e
      have hc := List.all_eq_true.mp k5 one hone
      unfold chk at hc
      split at hc
      case h_2 => cases hc
      rename_i s0 s1 s2
      split at hc
      case h_2 => cases hc
      rename_i p q hp hq
      (try simp only [forall_const, reduceCtorEq, false_implies, implies_true, Bool.false_eq_true, Dv.tup.injEq, dnR_noX, dnS_toS, dnSL_cons, dnSL_nil, dn_par, dn_par3, dn_asg, dn_setlc, dn_exp, dn_ret, dn_iff, dn_aug, dn_forr, dn_whl, dn_brk, dn_cnt, dn_retn, start, wipeS, glLen, most, tyIs, Option.map_some, Option.bind_some, Option.some.injEq, List.map_cons, List.map_nil, List.cons_append, List.nil_append, List.length_cons, List.length_nil, List.reduceReplicate, List.getElem?_cons_zero, List.getElem?_cons_succ, List.set_cons_zero, List.set_cons_succ, Nat.reduceAdd, Nat.reduceSub, Nat.reduceLeDiff, decide_true, decide_false, if_true, Bool.true_and, Bool.and_true, Dv.bl.injEq, Dv.int.injEq, exists_eq_left, exists_eq_left', true_and, and_true, Bool.and_self, Bool.not_true, Bool.not_false, eq_self, ↓reduceIte, List.isEmpty_cons, Nat.zero_add, and_self, true_implies, decide_eq_true_eq, decide_eq_false_iff_not, dnE_var, dnE_gint, dnE_int, dnE_str, dnE_bl, dnE_non, dnE_tup, dnE_lst, dnE_bin, dnE_cmp, dnE_chain, dnE_not, dnE_neg, dnE_and, dnE_or, dnA_one, dnA_cons, dnO_one, dnO_cons, dnE_ife, dnE_ix, dnE_sl, dnS_slT, dnE_call, dnE_bi, dnE_bm, dnE_isi, dnE_dnew, dnE_disp, dnE_lc, dnE_lcStp, dnF_nil, dnF_cons, dnL_nil, dnL_cons, dnV_none, dnV_some, dnI_seq, dnI_rng1, dnI_rng2, dnI_enum, dnG_name, dnG_tup, dnG_sub, dnGL_nil, dnGL_cons, dnB_len_t, dnB_set0, dnB_int, ixs_t, src_t, cop_lt, cop_le, cop_gt, cop_ge, cop_eq, cop_ne, bop_add, bop_sub, bop_mul, bop_mod, bop_fdiv, bop_addT, bop_mulT, pT])
      refine ⟨by decide, ?_⟩
      have h4 : (4 : Int).toNat = 4 := rfl
      rw [h4]
      refine lcL_sim (Q := _) (fun i : Nat => Dv.int (i : Int)) Dv.int (List.range 4) (fun h' => h1 <+: h') _ (fun _ _ => rng_list _ _) ?_ hp (List.prefix_refl _) (by simp; omega) (by unfold most; simp) ?_
      · rintro h' y o _ p0 e
        obtain ⟨r, q1, rfl⟩ := Option.map_eq_some_iff.mp e
        (try simp only [forall_const, reduceCtorEq, false_implies, implies_true, Bool.false_eq_true, Dv.tup.injEq, dnR_noX, dnS_toS, dnSL_cons, dnSL_nil, dn_par, dn_par3, dn_asg, dn_setlc, dn_exp, dn_ret, dn_iff, dn_aug, dn_forr, dn_whl, dn_brk, dn_cnt, dn_retn, start, wipeS, glLen, most, tyIs, Option.map_some, Option.bind_some, Option.some.injEq, List.map_cons, List.map_nil, List.cons_append, List.nil_append, List.length_cons, List.length_nil, List.reduceReplicate, List.getElem?_cons_zero, List.getElem?_cons_succ, List.set_cons_zero, List.set_cons_succ, Nat.reduceAdd, Nat.reduceSub, Nat.reduceLeDiff, decide_true, decide_false, if_true, Bool.true_and, Bool.and_true, Dv.bl.injEq, Dv.int.injEq, exists_eq_left, exists_eq_left', true_and, and_true, Bool.and_self, Bool.not_true, Bool.not_false, eq_self, ↓reduceIte, List.isEmpty_cons, Nat.zero_add, and_self, true_implies, decide_eq_true_eq, decide_eq_false_iff_not, dnE_var, dnE_gint, dnE_int, dnE_str, dnE_bl, dnE_non, dnE_tup, dnE_lst, dnE_bin, dnE_cmp, dnE_chain, dnE_not, dnE_neg, dnE_and, dnE_or, dnA_one, dnA_cons, dnO_one, dnO_cons, dnE_ife, dnE_ix, dnE_sl, dnS_slT, dnE_call, dnE_bi, dnE_bm, dnE_isi, dnE_dnew, dnE_disp, dnE_lc, dnE_lcStp, dnF_nil, dnF_cons, dnL_nil, dnL_cons, dnV_none, dnV_some, dnI_seq, dnI_rng1, dnI_rng2, dnI_enum, dnG_name, dnG_tup, dnG_sub, dnGL_nil, dnGL_cons, dnB_len_t, dnB_set0, dnB_int, ixs_t, src_t, cop_lt, cop_le, cop_gt, cop_ge, cop_eq, cop_ne, bop_add, bop_sub, bop_mul, bop_mod, bop_fdiv, bop_addT, bop_mulT])
        refine dnR.imp (lround_ok hw q1) ?_
        rintro _ h8 ⟨rfl, p8⟩
        exact ⟨rfl, p0.trans p8⟩
      intro h8 p8
      (try simp only [forall_const, reduceCtorEq, false_implies, implies_true, Bool.false_eq_true, Dv.tup.injEq, dnR_noX, dnS_toS, dnSL_cons, dnSL_nil, dn_par, dn_par3, dn_asg, dn_setlc, dn_exp, dn_ret, dn_iff, dn_aug, dn_forr, dn_whl, dn_brk, dn_cnt, dn_retn, start, wipeS, glLen, most, tyIs, Option.map_some, Option.bind_some, Option.some.injEq, List.map_cons, List.map_nil, List.cons_append, List.nil_append, List.length_cons, List.length_nil, List.reduceReplicate, List.getElem?_cons_zero, List.getElem?_cons_succ, List.set_cons_zero, List.set_cons_succ, Nat.reduceAdd, Nat.reduceSub, Nat.reduceLeDiff, decide_true, decide_false, if_true, Bool.true_and, Bool.and_true, Dv.bl.injEq, Dv.int.injEq, exists_eq_left, exists_eq_left', true_and, and_true, Bool.and_self, Bool.not_true, Bool.not_false, eq_self, ↓reduceIte, List.isEmpty_cons, Nat.zero_add, and_self, true_implies, decide_eq_true_eq, decide_eq_false_iff_not, dnE_var, dnE_gint, dnE_int, dnE_str, dnE_bl, dnE_non, dnE_tup, dnE_lst, dnE_bin, dnE_cmp, dnE_chain, dnE_not, dnE_neg, dnE_and, dnE_or, dnA_one, dnA_cons, dnO_one, dnO_cons, dnE_ife, dnE_ix, dnE_sl, dnS_slT, dnE_call, dnE_bi, dnE_bm, dnE_isi, dnE_dnew, dnE_disp, dnE_lc, dnE_lcStp, dnF_nil, dnF_cons, dnL_nil, dnL_cons, dnV_none, dnV_some, dnI_seq, dnI_rng1, dnI_rng2, dnI_enum, dnG_name, dnG_tup, dnG_sub, dnGL_nil, dnGL_cons, dnB_len_t, dnB_set0, dnB_int, ixs_t, src_t, cop_lt, cop_le, cop_gt, cop_ge, cop_eq, cop_ne, bop_add, bop_sub, bop_mul, bop_mod, bop_fdiv, bop_addT, bop_mulT, dnB_tuple_fr])
      refine ⟨by decide, ?_⟩
      refine lcL_sim (Q := _) (fun i : Nat => Dv.int (i : Int)) Dv.int (List.range 4) (fun h' => h1 <+: h') _ (fun _ _ => rng_list _ _) ?_ hq (p8.trans (List.prefix_append _ _)) (by simp; omega) (by unfold most; simp) ?_
      · rintro h' y o _ p0 e
        obtain ⟨r, q1, rfl⟩ := Option.map_eq_some_iff.mp e
        (try simp only [forall_const, reduceCtorEq, false_implies, implies_true, Bool.false_eq_true, Dv.tup.injEq, dnR_noX, dnS_toS, dnSL_cons, dnSL_nil, dn_par, dn_par3, dn_asg, dn_setlc, dn_exp, dn_ret, dn_iff, dn_aug, dn_forr, dn_whl, dn_brk, dn_cnt, dn_retn, start, wipeS, glLen, most, tyIs, Option.map_some, Option.bind_some, Option.some.injEq, List.map_cons, List.map_nil, List.cons_append, List.nil_append, List.length_cons, List.length_nil, List.reduceReplicate, List.getElem?_cons_zero, List.getElem?_cons_succ, List.set_cons_zero, List.set_cons_succ, Nat.reduceAdd, Nat.reduceSub, Nat.reduceLeDiff, decide_true, decide_false, if_true, Bool.true_and, Bool.and_true, Dv.bl.injEq, Dv.int.injEq, exists_eq_left, exists_eq_left', true_and, and_true, Bool.and_self, Bool.not_true, Bool.not_false, eq_self, ↓reduceIte, List.isEmpty_cons, Nat.zero_add, and_self, true_implies, decide_eq_true_eq, decide_eq_false_iff_not, dnE_var, dnE_gint, dnE_int, dnE_str, dnE_bl, dnE_non, dnE_tup, dnE_lst, dnE_bin, dnE_cmp, dnE_chain, dnE_not, dnE_neg, dnE_and, dnE_or, dnA_one, dnA_cons, dnO_one, dnO_cons, dnE_ife, dnE_ix, dnE_sl, dnS_slT, dnE_call, dnE_bi, dnE_bm, dnE_isi, dnE_dnew, dnE_disp, dnE_lc, dnE_lcStp, dnF_nil, dnF_cons, dnL_nil, dnL_cons, dnV_none, dnV_some, dnI_seq, dnI_rng1, dnI_rng2, dnI_enum, dnG_name, dnG_tup, dnG_sub, dnGL_nil, dnGL_cons, dnB_len_t, dnB_set0, dnB_int, ixs_t, src_t, cop_lt, cop_le, cop_gt, cop_ge, cop_eq, cop_ne, bop_add, bop_sub, bop_mul, bop_mod, bop_fdiv, bop_addT, bop_mulT])
        refine dnR.imp (lround_ok hw q1) ?_
        rintro _ h8 ⟨rfl, p8⟩
        exact ⟨rfl, p0.trans p8⟩
      intro h9 p9
      (try simp only [forall_const, reduceCtorEq, false_implies, implies_true, Bool.false_eq_true, Dv.tup.injEq, dnR_noX, dnS_toS, dnSL_cons, dnSL_nil, dn_par, dn_par3, dn_asg, dn_setlc, dn_exp, dn_ret, dn_iff, dn_aug, dn_forr, dn_whl, dn_brk, dn_cnt, dn_retn, start, wipeS, glLen, most, tyIs, Option.map_some, Option.bind_some, Option.some.injEq, List.map_cons, List.map_nil, List.cons_append, List.nil_append, List.length_cons, List.length_nil, List.reduceReplicate, List.getElem?_cons_zero, List.getElem?_cons_succ, List.set_cons_zero, List.set_cons_succ, Nat.reduceAdd, Nat.reduceSub, Nat.reduceLeDiff, decide_true, decide_false, if_true, Bool.true_and, Bool.and_true, Dv.bl.injEq, Dv.int.injEq, exists_eq_left, exists_eq_left', true_and, and_true, Bool.and_self, Bool.not_true, Bool.not_false, eq_self, ↓reduceIte, List.isEmpty_cons, Nat.zero_add, and_self, true_implies, decide_eq_true_eq, decide_eq_false_iff_not, dnE_var, dnE_gint, dnE_int, dnE_str, dnE_bl, dnE_non, dnE_tup, dnE_lst, dnE_bin, dnE_cmp, dnE_chain, dnE_not, dnE_neg, dnE_and, dnE_or, dnA_one, dnA_cons, dnO_one, dnO_cons, dnE_ife, dnE_ix, dnE_sl, dnS_slT, dnE_call, dnE_bi, dnE_bm, dnE_isi, dnE_dnew, dnE_disp, dnE_lc, dnE_lcStp, dnF_nil, dnF_cons, dnL_nil, dnL_cons, dnV_none, dnV_some, dnI_seq, dnI_rng1, dnI_rng2, dnI_enum, dnG_name, dnG_tup, dnG_sub, dnGL_nil, dnGL_cons, dnB_len_t, dnB_set0, dnB_int, ixs_t, src_t, cop_lt, cop_le, cop_gt, cop_ge, cop_eq, cop_ne, bop_add, bop_sub, bop_mul, bop_mod, bop_fdiv, bop_addT, bop_mulT, dnB_tuple_fr])
      refine dnR.imp (lispat_ok hw hc) ?_
      rintro _ h10 ⟨rfl, p10⟩
      have pp := p9.trans ((List.prefix_append _ _).trans p10)
      (try simp only [forall_const, reduceCtorEq, false_implies, implies_true, Bool.false_eq_true, Dv.tup.injEq, dnR_noX, dnS_toS, dnSL_cons, dnSL_nil, dn_par, dn_par3, dn_asg, dn_setlc, dn_exp, dn_ret, dn_iff, dn_aug, dn_forr, dn_whl, dn_brk, dn_cnt, dn_retn, start, wipeS, glLen, most, tyIs, Option.map_some, Option.bind_some, Option.some.injEq, List.map_cons, List.map_nil, List.cons_append, List.nil_append, List.length_cons, List.length_nil, List.reduceReplicate, List.getElem?_cons_zero, List.getElem?_cons_succ, List.set_cons_zero, List.set_cons_succ, Nat.reduceAdd, Nat.reduceSub, Nat.reduceLeDiff, decide_true, decide_false, if_true, Bool.true_and, Bool.and_true, Dv.bl.injEq, Dv.int.injEq, exists_eq_left, exists_eq_left', true_and, and_true, Bool.and_self, Bool.not_true, Bool.not_false, eq_self, ↓reduceIte, List.isEmpty_cons, Nat.zero_add, and_self, true_implies, decide_eq_true_eq, decide_eq_false_iff_not, dnE_var, dnE_gint, dnE_int, dnE_str, dnE_bl, dnE_non, dnE_tup, dnE_lst, dnE_bin, dnE_cmp, dnE_chain, dnE_not, dnE_neg, dnE_and, dnE_or, dnA_one, dnA_cons, dnO_one, dnO_cons, dnE_ife, dnE_ix, dnE_sl, dnS_slT, dnE_call, dnE_bi, dnE_bm, dnE_isi, dnE_dnew, dnE_disp, dnE_lc, dnE_lcStp, dnF_nil, dnF_cons, dnL_nil, dnL_cons, dnV_none, dnV_some, dnI_seq, dnI_rng1, dnI_rng2, dnI_enum, dnG_name, dnG_tup, dnG_sub, dnGL_nil, dnGL_cons, dnB_len_t, dnB_set0, dnB_int, ixs_t, src_t, cop_lt, cop_le, cop_gt, cop_ge, cop_eq, cop_ne, bop_add, bop_sub, bop_mul, bop_mod, bop_fdiv, bop_addT, bop_mulT])
      exact ⟨_, _, _, _, _, _, _, _, _, _, _, _, rfl, (ms.ext pp).mono pp.length_le (Nat.le_refl _), keep pp z⟩
    · rintro σ h1 ⟨x4, x5, x6, x7, x8, x9, x10, x11, x12, x13, x14, x15, rfl, ms, z⟩
      (try simp only [forall_const, reduceCtorEq, false_implies, implies_true, Bool.false_eq_true, Dv.tup.injEq, dnR_noX, dnS_toS, dnSL_cons, dnSL_nil, dn_par, dn_par3, dn_asg, dn_setlc, dn_exp, dn_ret, dn_iff, dn_aug, dn_forr, dn_whl, dn_brk, dn_cnt, dn_retn, start, wipeS, glLen, most, tyIs, Option.map_some, Option.bind_some, Option.some.injEq, List.map_cons, List.map_nil, List.cons_append, List.nil_append, List.length_cons, List.length_nil, List.reduceReplicate, List.getElem?_cons_zero, List.getElem?_cons_succ, List.set_cons_zero, List.set_cons_succ, Nat.reduceAdd, Nat.reduceSub, Nat.reduceLeDiff, decide_true, decide_false, if_true, Bool.true_and, Bool.and_true, Dv.bl.injEq, Dv.int.injEq, exists_eq_left, exists_eq_left', true_and, and_true, Bool.and_self, Bool.not_true, Bool.not_false, eq_self, ↓reduceIte, List.isEmpty_cons, Nat.zero_add, and_self, true_implies, decide_eq_true_eq, decide_eq_false_iff_not, dnE_var, dnE_gint, dnE_int, dnE_str, dnE_bl, dnE_non, dnE_tup, dnE_lst, dnE_bin, dnE_cmp, dnE_chain, dnE_not, dnE_neg, dnE_and, dnE_or, dnA_one, dnA_cons, dnO_one, dnO_cons, dnE_ife, dnE_ix, dnE_sl, dnS_slT, dnE_call, dnE_bi, dnE_bm, dnE_isi, dnE_dnew, dnE_disp, dnE_lc, dnE_lcStp, dnF_nil, dnF_cons, dnL_nil, dnL_cons, dnV_none, dnV_some, dnI_seq, dnI_rng1, dnI_rng2, dnI_enum, dnG_name, dnG_tup, dnG_sub, dnGL_nil, dnGL_cons, dnB_len_t, dnB_set0, dnB_int, ixs_t, src_t, cop_lt, cop_le, cop_gt, cop_ge, cop_eq, cop_ne, bop_add, bop_sub, bop_mul, bop_mod, bop_fdiv, bop_addT, bop_mulT])
      refine ⟨by decide, ?_⟩
      have h6 : (6 : Int).toNat = 6 := rfl
      rw [h6]
      refine forL_inv (xs := (List.range 6).map fun i : Nat => Dv.int (i : Int)) (fun i σ h1 => ∃ x4 x5 x6 x7 x8 x9 x10 x11 x12 x13 x14 x15, σ = [some (.ref 0), some (.ref m), some (.int c), some (.tup (told4.map pT)), x4, x5, x6, x7, x8, x9, x10, x11, x12, x13, x14, x15] ∧ MS h1.length h1 m (2 + 1000 * i) ∧ h1[0]? = some (.fro (ns.map .int))) (fun i σ h _ => rng_list h 6) ?_ ?_ wf 0 _ _ ⟨_, _, _, _, _, _, _, _, _, _, _, _, rfl, ms, z⟩ (by simp; omega) (Nat.zero_le _)
      · clear ms z
        rintro i σ h1 v hv ⟨x4, x5, x6, x7, x8, x9, x10, x11, x12, x13, x14, x15, rfl, ms, z⟩
        have hi : i < 6 := by simpa using (List.getElem?_eq_some_iff.mp hv).1
        have hm0 : 0 < h1.length := (List.getElem?_eq_some_iff.mp z).1
        (try simp only [forall_const, reduceCtorEq, false_implies, implies_true, Bool.false_eq_true, Dv.tup.injEq, dnR_noX, dnS_toS, dnSL_cons, dnSL_nil, dn_par, dn_par3, dn_asg, dn_setlc, dn_exp, dn_ret, dn_iff, dn_aug, dn_forr, dn_whl, dn_brk, dn_cnt, dn_retn, start, wipeS, glLen, most, tyIs, Option.map_some, Option.bind_some, Option.some.injEq, List.map_cons, List.map_nil, List.cons_append, List.nil_append, List.length_cons, List.length_nil, List.reduceReplicate, List.getElem?_cons_zero, List.getElem?_cons_succ, List.set_cons_zero, List.set_cons_succ, Nat.reduceAdd, Nat.reduceSub, Nat.reduceLeDiff, decide_true, decide_false, if_true, Bool.true_and, Bool.and_true, Dv.bl.injEq, Dv.int.injEq, exists_eq_left, exists_eq_left', true_and, and_true, Bool.and_self, Bool.not_true, Bool.not_false, eq_self, ↓reduceIte, List.isEmpty_cons, Nat.zero_add, and_self, true_implies, decide_eq_true_eq, decide_eq_false_iff_not, dnE_var, dnE_gint, dnE_int, dnE_str, dnE_bl, dnE_non, dnE_tup, dnE_lst, dnE_bin, dnE_cmp, dnE_chain, dnE_not, dnE_neg, dnE_and, dnE_or, dnA_one, dnA_cons, dnO_one, dnO_cons, dnE_ife, dnE_ix, dnE_sl, dnS_slT, dnE_call, dnE_bi, dnE_bm, dnE_isi, dnE_dnew, dnE_disp, dnE_lc, dnE_lcStp, dnF_nil, dnF_cons, dnL_nil, dnL_cons, dnV_none, dnV_some, dnI_seq, dnI_rng1, dnI_rng2, dnI_enum, dnG_name, dnG_tup, dnG_sub, dnGL_nil, dnGL_cons, dnB_len_t, dnB_set0, dnB_int, ixs_t, src_t, cop_lt, cop_le, cop_gt, cop_ge, cop_eq, cop_ne, bop_add, bop_sub, bop_mul, bop_mod, bop_fdiv, bop_addT, bop_mulT])
        refine dnR.imp (frame_ok hw k1 ms (Nat.le_refl _) (by omega)) ?_
        rintro _ h2 ⟨R, A, B, C, k', s, rfl, o, hk', hfin⟩
        have hsz := fin_sz hfin
        have hf1 : 1 ≤ s.a.length := by
          simp only [fin, Bool.and_eq_true, decide_eq_true_eq] at hfin
          exact hfin.1.2
        have ll : h1.length ≤ h2.length := o.1
        (try simp only [forall_const, reduceCtorEq, false_implies, implies_true, Bool.false_eq_true, Dv.tup.injEq, dnR_noX, dnS_toS, dnSL_cons, dnSL_nil, dn_par, dn_par3, dn_asg, dn_setlc, dn_exp, dn_ret, dn_iff, dn_aug, dn_forr, dn_whl, dn_brk, dn_cnt, dn_retn, start, wipeS, glLen, most, tyIs, Option.map_some, Option.bind_some, Option.some.injEq, List.map_cons, List.map_nil, List.cons_append, List.nil_append, List.length_cons, List.length_nil, List.reduceReplicate, List.getElem?_cons_zero, List.getElem?_cons_succ, List.set_cons_zero, List.set_cons_succ, Nat.reduceAdd, Nat.reduceSub, Nat.reduceLeDiff, decide_true, decide_false, if_true, Bool.true_and, Bool.and_true, Dv.bl.injEq, Dv.int.injEq, exists_eq_left, exists_eq_left', true_and, and_true, Bool.and_self, Bool.not_true, Bool.not_false, eq_self, ↓reduceIte, List.isEmpty_cons, Nat.zero_add, and_self, true_implies, decide_eq_true_eq, decide_eq_false_iff_not, dnE_var, dnE_gint, dnE_int, dnE_str, dnE_bl, dnE_non, dnE_tup, dnE_lst, dnE_bin, dnE_cmp, dnE_chain, dnE_not, dnE_neg, dnE_and, dnE_or, dnA_one, dnA_cons, dnO_one, dnO_cons, dnE_ife, dnE_ix, dnE_sl, dnS_slT, dnE_call, dnE_bi, dnE_bm, dnE_isi, dnE_dnew, dnE_disp, dnE_lc, dnE_lcStp, dnF_nil, dnF_cons, dnL_nil, dnL_cons, dnV_none, dnV_some, dnI_seq, dnI_rng1, dnI_rng2, dnI_enum, dnG_name, dnG_tup, dnG_sub, dnGL_nil, dnGL_cons, dnB_len_t, dnB_set0, dnB_int, ixs_t, src_t, cop_lt, cop_le, cop_gt, cop_ge, cop_eq, cop_ne, bop_add, bop_sub, bop_mul, bop_mod, bop_fdiv, bop_addT, bop_mulT, ixs_l (o.at_ 0 rfl), at0_c0, at0_c1, at0_c2, dnB_len_l (o.at_ 1 rfl), dnB_tuple_l (o.at_ 1 rfl), dnB_tuple_l (o.at_ 2 rfl), dnB_tuple_l (o.at_ 3 rfl), List.length_map, Int.toNat_natCast, ones_rep])
        refine ⟨by simp only [Bool.and_eq_true, decide_eq_true_eq]; omega, fun h4 => ?_, fun h4 => ?_⟩
        · have h4' : s.a.length = 4 := by omega
          have hr : List.replicate s.a.length (1 : Int) = [1, 1, 1, 1] := by rw [h4']; rfl
          simp only [fin, Bool.and_eq_true, if_pos h4'] at hfin
          have hl := hfin.2
          split at hl
          case h_2 => cases hl
          rename_i l hl'
          rw [hr]
          refine dnR.imp (lleast_ok (p := [s.a, s.b, s.c, [1, 1, 1, 1], [1, 1, 1, 1]]) hw hl') ?_
          rintro _ h3 ⟨rfl, p3⟩
          have hm := cop_nmem_ppT (h := h3) (fs := told4) (p := l.take 3)
          rw [hl] at hm
          simp only [pT] at hm ⊢
          (try simp only [forall_const, reduceCtorEq, false_implies, implies_true, Bool.false_eq_true, Dv.tup.injEq, dnR_noX, dnS_toS, dnSL_cons, dnSL_nil, dn_par, dn_par3, dn_asg, dn_setlc, dn_exp, dn_ret, dn_iff, dn_aug, dn_forr, dn_whl, dn_brk, dn_cnt, dn_retn, start, wipeS, glLen, most, tyIs, Option.map_some, Option.bind_some, Option.some.injEq, List.map_cons, List.map_nil, List.cons_append, List.nil_append, List.length_cons, List.length_nil, List.reduceReplicate, List.getElem?_cons_zero, List.getElem?_cons_succ, List.set_cons_zero, List.set_cons_succ, Nat.reduceAdd, Nat.reduceSub, Nat.reduceLeDiff, decide_true, decide_false, if_true, Bool.true_and, Bool.and_true, Dv.bl.injEq, Dv.int.injEq, exists_eq_left, exists_eq_left', true_and, and_true, Bool.and_self, Bool.not_true, Bool.not_false, eq_self, ↓reduceIte, List.isEmpty_cons, Nat.zero_add, and_self, true_implies, decide_eq_true_eq, decide_eq_false_iff_not, dnE_var, dnE_gint, dnE_int, dnE_str, dnE_bl, dnE_non, dnE_tup, dnE_lst, dnE_bin, dnE_cmp, dnE_chain, dnE_not, dnE_neg, dnE_and, dnE_or, dnA_one, dnA_cons, dnO_one, dnO_cons, dnE_ife, dnE_ix, dnE_sl, dnS_slT, dnE_call, dnE_bi, dnE_bm, dnE_isi, dnE_dnew, dnE_disp, dnE_lc, dnE_lcStp, dnF_nil, dnF_cons, dnL_nil, dnL_cons, dnV_none, dnV_some, dnI_seq, dnI_rng1, dnI_rng2, dnI_enum, dnG_name, dnG_tup, dnG_sub, dnGL_nil, dnGL_cons, dnB_len_t, dnB_set0, dnB_int, ixs_t, src_t, cop_lt, cop_le, cop_gt, cop_ge, cop_eq, cop_ne, bop_add, bop_sub, bop_mul, bop_mod, bop_fdiv, bop_addT, bop_mulT, cut_take3, hm])
          exact ⟨_, _, _, _, _, _, _, _, _, _, _, _, rfl, (o.ms.ext p3).mono (Nat.le_trans ll p3.length_le) (by omega), keep p3 (o.2.1 0 hm0 (by omega) ns z)⟩
        · exact ⟨_, _, _, _, _, _, _, _, _, _, _, _, rfl, o.ms.mono ll (by omega), o.2.1 0 hm0 (by omega) ns z⟩
      · rintro σ h1 ⟨x4, x5, x6, x7, x8, x9, x10, x11, x12, x13, x14, x15, rfl, ms, z⟩
        (try simp only [forall_const, reduceCtorEq, false_implies, implies_true, Bool.false_eq_true, Dv.tup.injEq, dnR_noX, dnS_toS, dnSL_cons, dnSL_nil, dn_par, dn_par3, dn_asg, dn_setlc, dn_exp, dn_ret, dn_iff, dn_aug, dn_forr, dn_whl, dn_brk, dn_cnt, dn_retn, start, wipeS, glLen, most, tyIs, Option.map_some, Option.bind_some, Option.some.injEq, List.map_cons, List.map_nil, List.cons_append, List.nil_append, List.length_cons, List.length_nil, List.reduceReplicate, List.getElem?_cons_zero, List.getElem?_cons_succ, List.set_cons_zero, List.set_cons_succ, Nat.reduceAdd, Nat.reduceSub, Nat.reduceLeDiff, decide_true, decide_false, if_true, Bool.true_and, Bool.and_true, Dv.bl.injEq, Dv.int.injEq, exists_eq_left, exists_eq_left', true_and, and_true, Bool.and_self, Bool.not_true, Bool.not_false, eq_self, ↓reduceIte, List.isEmpty_cons, Nat.zero_add, and_self, true_implies, decide_eq_true_eq, decide_eq_false_iff_not, dnE_var, dnE_gint, dnE_int, dnE_str, dnE_bl, dnE_non, dnE_tup, dnE_lst, dnE_bin, dnE_cmp, dnE_chain, dnE_not, dnE_neg, dnE_and, dnE_or, dnA_one, dnA_cons, dnO_one, dnO_cons, dnE_ife, dnE_ix, dnE_sl, dnS_slT, dnE_call, dnE_bi, dnE_bm, dnE_isi, dnE_dnew, dnE_disp, dnE_lc, dnE_lcStp, dnF_nil, dnF_cons, dnL_nil, dnL_cons, dnV_none, dnV_some, dnI_seq, dnI_rng1, dnI_rng2, dnI_enum, dnG_name, dnG_tup, dnG_sub, dnGL_nil, dnGL_cons, dnB_len_t, dnB_set0, dnB_int, ixs_t, src_t, cop_lt, cop_le, cop_gt, cop_ge, cop_eq, cop_ne, bop_add, bop_sub, bop_mul, bop_mod, bop_fdiv, bop_addT, bop_mulT])
        refine dnR.imp (frames_ok hw rfl hf) ?_
        rintro _ h8 ⟨rfl, p8⟩
        refine dnR.imp (lframes_ok hw rfl hlf) ?_
        rintro _ h9 ⟨rfl, p9⟩
        (try simp only [forall_const, reduceCtorEq, false_implies, implies_true, Bool.false_eq_true, Dv.tup.injEq, dnR_noX, dnS_toS, dnSL_cons, dnSL_nil, dn_par, dn_par3, dn_asg, dn_setlc, dn_exp, dn_ret, dn_iff, dn_aug, dn_forr, dn_whl, dn_brk, dn_cnt, dn_retn, start, wipeS, glLen, most, tyIs, Option.map_some, Option.bind_some, Option.some.injEq, List.map_cons, List.map_nil, List.cons_append, List.nil_append, List.length_cons, List.length_nil, List.reduceReplicate, List.getElem?_cons_zero, List.getElem?_cons_succ, List.set_cons_zero, List.set_cons_succ, Nat.reduceAdd, Nat.reduceSub, Nat.reduceLeDiff, decide_true, decide_false, if_true, Bool.true_and, Bool.and_true, Dv.bl.injEq, Dv.int.injEq, exists_eq_left, exists_eq_left', true_and, and_true, Bool.and_self, Bool.not_true, Bool.not_false, eq_self, ↓reduceIte, List.isEmpty_cons, Nat.zero_add, and_self, true_implies, decide_eq_true_eq, decide_eq_false_iff_not, dnE_var, dnE_gint, dnE_int, dnE_str, dnE_bl, dnE_non, dnE_tup, dnE_lst, dnE_bin, dnE_cmp, dnE_chain, dnE_not, dnE_neg, dnE_and, dnE_or, dnA_one, dnA_cons, dnO_one, dnO_cons, dnE_ife, dnE_ix, dnE_sl, dnS_slT, dnE_call, dnE_bi, dnE_bm, dnE_isi, dnE_dnew, dnE_disp, dnE_lc, dnE_lcStp, dnF_nil, dnF_cons, dnL_nil, dnL_cons, dnV_none, dnV_some, dnI_seq, dnI_rng1, dnI_rng2, dnI_enum, dnG_name, dnG_tup, dnG_sub, dnGL_nil, dnGL_cons, dnB_len_t, dnB_set0, dnB_int, ixs_t, src_t, cop_lt, cop_le, cop_gt, cop_ge, cop_eq, cop_ne, bop_add, bop_sub, bop_mul, bop_mod, bop_fdiv, bop_addT, bop_mulT, cop_eq_ppT])
  · refine dnR.imp (frames_ok hw rfl hf) ?_
    rintro _ h8 ⟨rfl, p8⟩
    refine dnR.imp (lframes_ok hw rfl hlf) ?_
    rintro _ h9 ⟨rfl, p9⟩
    (try simp only [forall_const, reduceCtorEq, false_implies, implies_true, Bool.false_eq_true, Dv.tup.injEq, dnR_noX, dnS_toS, dnSL_cons, dnSL_nil, dn_par, dn_par3, dn_asg, dn_setlc, dn_exp, dn_ret, dn_iff, dn_aug, dn_forr, dn_whl, dn_brk, dn_cnt, dn_retn, start, wipeS, glLen, most, tyIs, Option.map_some, Option.bind_some, Option.some.injEq, List.map_cons, List.map_nil, List.cons_append, List.nil_append, List.length_cons, List.length_nil, List.reduceReplicate, List.getElem?_cons_zero, List.getElem?_cons_succ, List.set_cons_zero, List.set_cons_succ, Nat.reduceAdd, Nat.reduceSub, Nat.reduceLeDiff, decide_true, decide_false, if_true, Bool.true_and, Bool.and_true, Dv.bl.injEq, Dv.int.injEq, exists_eq_left, exists_eq_left', true_and, and_true, Bool.and_self, Bool.not_true, Bool.not_false, eq_self, ↓reduceIte, List.isEmpty_cons, Nat.zero_add, and_self, true_implies, decide_eq_true_eq, decide_eq_false_iff_not, dnE_var, dnE_gint, dnE_int, dnE_str, dnE_bl, dnE_non, dnE_tup, dnE_lst, dnE_bin, dnE_cmp, dnE_chain, dnE_not, dnE_neg, dnE_and, dnE_or, dnA_one, dnA_cons, dnO_one, dnO_cons, dnE_ife, dnE_ix, dnE_sl, dnS_slT, dnE_call, dnE_bi, dnE_bm, dnE_isi, dnE_dnew, dnE_disp, dnE_lc, dnE_lcStp, dnF_nil, dnF_cons, dnL_nil, dnL_cons, dnV_none, dnV_some, dnI_seq, dnI_rng1, dnI_rng2, dnI_enum, dnG_name, dnG_tup, dnG_sub, dnGL_nil, dnGL_cons, dnB_len_t, dnB_set0, dnB_int, ixs_t, src_t, cop_lt, cop_le, cop_gt, cop_ge, cop_eq, cop_ne, bop_add, bop_sub, bop_mul, bop_mod, bop_fdiv, bop_addT, bop_mulT, cop_eq_ppT])
end
end FF
end

section
set_option Elab.async false
set_option linter.all false
set_option maxRecDepth 1000000
set_option maxHeartbeats 0
/-! PL18: what the kernel computes; k90 holds. -/
namespace FF
open PySem
theorem fact1 : ok1 7 ⟨[], [], [], []⟩ = true := by decide +kernel
theorem fact2 (c : Nat) (h1 : 1 ≤ c) (h2 : c ≤ 3) : ∃ t, framesM c = some t ∧ lframesM c = some t := by
  have e : ∀ {c : Nat}, (framesM c).isSome = true → decide (framesM c = lframesM c) = true → ∃ t, framesM c = some t ∧ lframesM c = some t := by
    intro c h e
    obtain ⟨t, ht⟩ := Option.isSome_iff_exists.mp h
    exact ⟨t, ht, (of_decide_eq_true e).symm.trans ht⟩
  rcases (by omega : c = 1 ∨ c = 2 ∨ c = 3) with rfl | rfl | rfl
  · exact e (by decide +kernel) (by decide +kernel)
  · exact e (by decide +kernel) (by decide +kernel)
  · exact e (by decide +kernel) (by decide +kernel)
theorem fact3 : framesM 4 = some told4 := by decide +kernel
theorem fact4 : upM = some [] := by decide +kernel
theorem fact5 : told4.all chk = true := by decide +kernel
theorem plain90 (ns : List Int) (hl : ns.length ≤ 63) : ∃ h', callN Lw.T Lw.wf Lw.lev 21 [.ref 0] [.fro (ns.map .int)] = .ok (.bl true) h' := by
  have := law_ok (wf := Lw.wf) (by decide) (n := 35) hl fact1 fact2 fact3 fact4 fact5
  obtain ⟨v, h', e, rfl⟩ := dnR_iff.mp this
  exact ⟨h', e⟩
end FF
theorem PySem.Challenge.cw_flagfloors_k90_whole_frames_holds : PySem.Challenge.rw_flagfloors_k90_whole_frames.Holds :=
  holds_of FF.plain90
end
