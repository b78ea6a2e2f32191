import PyProof.Rows.All
import Wide.All
import OpenK.AllK
import Wide.FinOn
import HandS.ForMost
import HandS.TupAny
import HandS.Zip
import HandS.Conv
import HandS.IsInst
import HandS.Deep
import HandS.Codes
import KE.SortData
import HandS.HeadWalk
import HandS.EndBits
import PySem.Challenge.RW_cornerhouse_k28_inner_points
set_option Elab.async false
set_option linter.all false
set_option maxRecDepth 100000
/-! The evaluator: pure data D, slots, the state of the law's drawing dict, and what a term or a statement comes to. -/
namespace CH
open PySem

inductive D where
  | non
  | bl (b : Bool)
  | int (i : Int)
  | str (s : Str)
  | tup (l : List D)
  | lst (l : List D)
  | scr (l : List Int)
  | obj (l : List D)
  | hnd

structure LS where
  numbers : List Int
  at_ : Int
  rest : Int
  seed : Int
abbrev S := Option LS

inductive Slot where
  | un
  | v (d : D)
  | own (l : List D)
abbrev Rho := List Slot
abbrev Sm := List D → S → Option (D × S)

inductive Out where
  | nx (r : Rho) (s : S)
  | rt (d : D) (s : S)

structure C where
  N : List Str
  sc : Scope
  fn : Str → Bool
  fns : List Str
  F : Str → Sm
  bn : List Str
  M : List Nat
  ks : Str → Option Int := fun _ => none
  ob : Bool := false
  cls : List Str := []
  mts : List Str := []
  Mt : Str → Sm := fun _ _ _ => none

/-! ### names -/
def visB (sc : Scope) (x : Str) : Bool := match sc.names.lookup x with
  | some .local => true
  | some .cell => true
  | some .free => true
  | _ => false
def locB (c : C) (x : Str) : Bool := match c.sc.names.lookup x with
  | some .local => true
  | some .cell => c.fn x
  | _ => false
def glB (c : C) (x : Str) : Bool := match c.sc.names.lookup x with
  | some .globalImplicit => true
  | _ => false
def idx (N : List Str) (x : Str) : Option Nat := N.findIdx? fun y => decide (y = x)
def slotOf (c : C) (x : Str) : Option Nat :=
  if visB c.sc x && !decide (x = ("__debug__" : Str)) && !decide (x = ("__classdict__" : Str)) then idx c.N x else none
def dstOf (c : C) (x : Str) : Option Nat := if locB c x then idx c.N x else none
def bltB (c : C) (x : Str) : Bool := glB c x && c.bn.any fun y => decide (y = x)
def fnB (c : C) (x : Str) : Bool := glB c x && c.fns.any fun y => decide (y = x)
def clsB (c : C) (x : Str) : Bool := glB c x && c.cls.any fun y => decide (y = x)
def mtB (c : C) (m : Str) : Bool := c.ob && c.mts.any fun y => decide (y = m)

/-! ### data -/
mutual
def D.toPy : D → Option PyData
  | .non => some .none
  | .bl b => some (.bool b)
  | .int i => some (.int i)
  | .str s => some (.str s)
  | .tup l => (D.toPys l).map .tuple
  | .lst l => (D.toPys l).map .list
  | .scr _ => none
  | .obj _ => none
  | .hnd => none
def D.toPys : List D → Option (List PyData)
  | [] => some []
  | d :: r => match D.toPy d, D.toPys r with
    | some p, some q => some (p :: q)
    | _, _ => none
end
def eqD (a b : D) : Option Bool := match a.toPy, b.toPy with
  | some p, some q => if SeqAt.shaped p && SeqAt.shaped q then some (PyData.eqv p q) else none
  | _, _ => none
def asInts : List D → Option (List Int)
  | [] => some []
  | .int i :: r => (asInts r).map (i :: ·)
  | _ :: _ => none
def asBls : List D → Option (List Bool)
  | [] => some []
  | .bl b :: r => (asBls r).map (b :: ·)
  | _ :: _ => none
def inD (x y : D) : Option Bool := match y with
  | .lst l => match x.toPy, D.toPys l with
    | some p, some q => if SeqAt.shaped p && SeqAt.shaped (.list q) then some (q.any fun z => PyData.eqv z p) else none
    | _, _ => none
  | .tup l => match x, asInts l with
    | .int i, some q => some (q.any fun z => decide (z = i))
    | _, _ => none
  | _ => none
def line : Nat := 16777216
/-! order of data -/
def leD (a b : D) : Bool := match a.toPy, b.toPy with
  | some p, some q => !PySem.W.dataLt q p
  | _, _ => true
def sortable (ps : List PyData) : Bool := (ps.all fun p => match p with
    | .tuple (_ :: _) => true
    | _ => false) || (ps.all fun p => match p with
    | .none => false
    | .tuple _ => false
    | _ => true)
def sortD (l : List D) : Option (List D) := match D.toPys l with
  | some ps => if (ps.all fun p => ps.all fun q => PySem.W.alike p q) && sortable ps && (ps.all fun p => decide (p.depth ≤ 60)) && decide (ps.length ≤ line) then some (l.mergeSort leD) else none
  | none => none
/-- an attribute of a body -/
def fldD (f : Str) (l : List D) : Option D := match l with
  | [a, b, c, d] => if f = "dim" then some a else if f = "rows" then some b else if f = "corners" then some c else if f = "rays" then some d else none
  | _ => none
def fits (i : Int) : Bool := decide (i.natAbs.log2 < 60000000)
def ixN (n : Nat) (i : Int) : Option Nat := if 0 ≤ i then (if i < n then some i.toNat else none) else if -(n : Int) ≤ i then some (i + n).toNat else none
def atD (l : List D) (i : Int) : Option D := (ixN l.length i).bind fun j => l[j]?
def sIx (n d : Nat) : Option Int → Nat
  | none => d
  | some v => if v < 0 then (v + (n : Int)).toNat else min v.toNat n
def cutD (l : List D) (lo hi : Option Int) : List D := (l.drop (sIx l.length 0 lo)).take (sIx l.length l.length hi - sIx l.length 0 lo)

def opD : Operator → D → D → Option D
  | .Add, .int a, .int b => some (.int (a + b))
  | .Add, .tup a, .tup b => if a.length + b.length ≤ line then some (.tup (a ++ b)) else none
  | .Add, .lst a, .lst b => if a.length + b.length ≤ line then some (.lst (a ++ b)) else none
  | .Sub, .int a, .int b => some (.int (a - b))
  | .Mult, .int a, .int b => if fits a && fits b then some (.int (a * b)) else none
  | .FloorDiv, .int a, .int b => if b ≠ 0 ∧ b.natAbs.log2 < 60000000 then some (.int (a.fdiv b)) else none
  | .Mod, .int a, .int b => if b ≠ 0 then some (.int (a.fmod b)) else none
  | .Pow, .int a, .int b => if 0 ≤ b ∧ b ≤ 1000000 ∧ a.natAbs < 2 ^ 64 then some (.int (a ^ b.toNat)) else none
  | _, _, _ => none
def isD : D → D → Option Bool
  | .bl a, .bl b => some (a == b)
  | .non, .non => some true
  | x, .non => match x with
    | .scr _ => none
    | _ => some false
  | _, _ => none
def cmpD : CmpOp → D → D → Option Bool
  | .Eq, a, b => eqD a b
  | .NotEq, a, b => (eqD a b).map (!·)
  | .Lt, .int a, .int b => some (decide (a < b))
  | .LtE, .int a, .int b => some (decide (a ≤ b))
  | .Gt, .int a, .int b => some (decide (b < a))
  | .GtE, .int a, .int b => some (decide (b ≤ a))
  | .In, a, b => inD a b
  | .NotIn, a, b => (inD a b).map (!·)
  | .Is, a, b => isD a b
  | .IsNot, a, b => (isD a b).map (!·)
  | _, _, _ => none
def tyD : D → Option String
  | .non => some "NoneType"
  | .bl _ => some "bool"
  | .int _ => some "int"
  | .str _ => some "str"
  | .tup _ => some "tuple"
  | .lst _ => some "list"
  | _ => none
/-- a plain built-in function of values -/
def bltD (x : Str) (ds : List D) : Option D :=
  if x = "abs" then match ds with
    | [.int i] => some (.int (if i < 0 then -i else i))
    | _ => none
  else if x = "len" then match ds with
    | [.tup l] => some (.int l.length)
    | [.lst l] => some (.int l.length)
    | [.scr l] => some (.int l.length)
    | _ => none
  else if x = "tuple" then match ds with
    | [.tup l] => some (.tup l)
    | [.lst l] => some (.tup l)
    | _ => none
  else if x = "list" then match ds with
    | [.tup l] => some (.lst l)
    | [.lst l] => some (.lst l)
    | _ => none
  else if x = "int" then match ds with
    | [.int i] => some (.int i)
    | [.bl b] => some (.int (if b then 1 else 0))
    | _ => none
  else if x = "sum" then match ds with
    | [.lst l] => (asInts l).map fun q => .int q.sum
    | _ => none
  else if x = "all" then match ds with
    | [.lst l] => (asBls l).map fun q => .bl (q.all id)
    | _ => none
  else if x = "any" then match ds with
    | [.lst l] => (asBls l).map fun q => .bl (q.any id)
    | _ => none
  else if x = "max" then match ds with
    | [.int i, .int j] => some (.int (if j > i then j else i))
    | _ => none
  else if x = "sorted" then match ds with
    | [.tup _] => none
    | [.lst l] => (sortD l).map .lst
    | _ => none
  else none

/-! ### slots -/
def getS (r : Rho) (i : Nat) : Slot := r.getD i .un
def wipeR (r : Rho) : List Nat → Rho
  | [] => r
  | v :: vs => (wipeR r vs).set v .un
def freeze1 : Slot → Slot
  | .own l => .v (.lst l)
  | x => x
def freeze (r : Rho) : List Nat → Rho
  | [] => r
  | i :: is => (freeze r is).set i (freeze1 (getS (freeze r is) i))
def freezeAll (r : Rho) : Rho := freeze r (List.range r.length)

/-! ### the drawing dict -/
def getK (s : S) (k : Str) : Option D := match s with
  | none => none
  | some t =>
    if k = "numbers" then some (.scr t.numbers)
    else if k = "at" then some (.int t.at_)
    else if k = "rest" then some (.int t.rest)
    else if k = "seed" then some (.int t.seed)
    else none
def putK (s : S) (k : Str) (d : D) : Option S := match s, d with
  | some t, .int i =>
    if k = "at" then some (some { t with at_ := i })
    else if k = "rest" then some (some { t with rest := i })
    else if k = "seed" then some (some { t with seed := i })
    else none
  | _, _ => none

/-! ### helpers over lists of terms -/
def seqE (f : Expr → Rho → S → Option (D × S)) : List Expr → Rho → S → Option (List D × S)
  | [], _, s => some ([], s)
  | e :: es, r, s => match f e r s with
    | none => none
    | some (d, s1) => match seqE f es r s1 with
      | none => none
      | some (ds, s2) => some (d :: ds, s2)
/-- what a comprehension makes of its items -/
def compE (bind : D → Rho → Option Rho) (test : Rho → S → Option (Bool × S)) (elt : Rho → S → Option (D × S)) (r : Rho) : List D → S → Option (List D × S)
  | [], s => some ([], s)
  | x :: xs, s => match bind x r with
    | none => none
    | some r1 => match test r1 s with
      | none => none
      | some (false, s1) => compE bind test elt r xs s1
      | some (true, s1) => match elt r1 s1 with
        | none => none
        | some (y, s2) => match compE bind test elt r xs s2 with
          | none => none
          | some (ys, s3) => some (y :: ys, s3)
def forE (bind : D → Rho → Option Rho) (body : Rho → S → Option Out) : List D → Rho → S → Option Out
  | [], r, s => some (.nx r s)
  | x :: xs, r, s => match bind x r with
    | none => none
    | some r1 => match body r1 s with
      | none => none
      | some (.rt d s1) => some (.rt d s1)
      | some (.nx r2 s1) => forE bind body xs r2 s1
def whE (test : Rho → S → Option (Bool × S)) (body : Rho → S → Option Out) : Nat → Rho → S → Option Out
  | 0, _, _ => none
  | k + 1, r, s => match test r s with
    | none => none
    | some (false, s1) => some (.nx r s1)
    | some (true, s1) => match body r s1 with
      | none => none
      | some (.rt d s2) => some (.rt d s2)
      | some (.nx r2 s2) => whE test body k r2 s2
def whF : Nat := 1000000000000000000000
def andE (f : Expr → Rho → S → Option (D × S)) : List Expr → Rho → S → Option (D × S)
  | [], _, _ => none
  | [e], r, s => f e r s
  | e :: es, r, s => match f e r s with
    | some (.bl true, s1) => andE f es r s1
    | some (.bl false, s1) => some (.bl false, s1)
    | _ => none
def orE (f : Expr → Rho → S → Option (D × S)) : List Expr → Rho → S → Option (D × S)
  | [], _, _ => none
  | [e], r, s => f e r s
  | e :: es, r, s => match f e r s with
    | some (.bl false, s1) => orE f es r s1
    | some (.bl true, s1) => some (.bl true, s1)
    | _ => none
def andT (f : Expr → Rho → S → Option (Bool × S)) : List Expr → Rho → S → Option (Bool × S)
  | [], _, _ => none
  | [e], r, s => f e r s
  | e :: es, r, s => match f e r s with
    | some (true, s1) => andT f es r s1
    | some (false, s1) => some (false, s1)
    | none => none
def orT (f : Expr → Rho → S → Option (Bool × S)) : List Expr → Rho → S → Option (Bool × S)
  | [], _, _ => none
  | [e], r, s => f e r s
  | e :: es, r, s => match f e r s with
    | some (false, s1) => orT f es r s1
    | some (true, s1) => some (true, s1)
    | none => none
/-- the items that a walk hands out -/
def itemsD : D → Option (List D)
  | .lst l => some l
  | .tup l => some l
  | .scr l => some (l.map .int)
  | _ => none
def rangeD (lo hi : Int) : Option (List D) :=
  if lo.natAbs.log2 < 62 ∧ hi.natAbs.log2 < 62 then some ((List.range (hi - lo).toNat).map fun (k : Nat) => D.int (lo + (k : Int))) else none
def zipD : D → D → Option (List D)
  | .tup a, .tup b => some (List.zipWith (fun x y => .tup [x, y]) a b)
  | .lst a, .lst b => some (List.zipWith (fun x y => .tup [x, y]) a b)
  | _, _ => none
/-- targets: a name, or names in a tuple -/
def tgtL (c : C) : List Expr → Option (List Nat)
  | [] => some []
  | e :: es => match e with
    | .Name x _ => match dstOf c x, tgtL c es with
      | some i, some is => some (i :: is)
      | _, _ => none
    | _ => none
def tgtN : List Expr → List Str
  | [] => []
  | e :: es => match e with
    | .Name x _ => x :: tgtN es
    | _ => tgtN es
def tgtNames : Expr → List Str
  | .Name x _ => [x]
  | .Tuple es _ _ => tgtN es
  | _ => []
def setAll : List Nat → List D → Rho → Option Rho
  | [], [], r => some r
  | i :: is, d :: ds, r => setAll is ds (r.set i (.v d))
  | _, _, _ => none
def bindT (c : C) (t : Expr) (d : D) (r : Rho) : Option Rho := match t with
  | .Name x _ => (dstOf c x).map fun i => r.set i (.v d)
  | .Tuple es _ _ => match tgtL c es, d with
    | some is, .tup ds => setAll is ds r
    | _, _ => none
  | _ => none
/-- the context of a comprehension's block -/
def C.blk (c : C) (scope : Scope) : C := { c with sc := L2.relS scope c.sc, fn := fun x => scope.names.lookup x == some .cell }
def ownOf (c : C) (t : Expr) : List (Str × Nat) := (tgtNames t).map fun x => (x, (idx c.N x).getD 0)
/-- a new list is made -/
def fresh (c : C) : Expr → Bool
  | .List _ _ => true
  | .ListComp _ _ _ _ => true
  | .Call (.Name f _) [_] [] _ => decide (f = ("list" : Str)) && !clsB c f && (!fnB c f && bltB c f)
  | _ => false

/-! ### the evaluator -/

/-- one level of terms, over what the level below does; b: a borrowing look -/
def bor (f : Expr → Rho → S → Option (D × S)) (c : C) (e : Expr) (r : Rho) (s : S) : Option (D × S) := match e with
  | .Name x p => match slotOf c x with
    | some i => match getS r i with
      | .own l => some (.lst l, s)
      | _ => f (.Name x p) r s
    | none => f (.Name x p) r s
  | e => f e r s
def callB (x : Str) : Bool := decide (x = "abs") || decide (x = "len") || decide (x = "tuple") || decide (x = "list") || decide (x = "int") || decide (x = "sum") || decide (x = "all") || decide (x = "any") || decide (x = "max") || decide (x = "sorted")
def tupE : Expr → Bool
  | .Tuple _ _ _ => true
  | _ => false
def genE (f : Expr → Rho → S → Option (D × S)) (it : Expr) (r : Rho) (s : S) : Option (List D × S) := match f it r s with
  | some (d, s1) => (itemsD d).map fun l => (l, s1)
  | none => none
def srcE (f : Expr → Rho → S → Option (D × S)) (c : C) (tg it : Expr) (r : Rho) (s : S) : Option (List D × S) := match it with
  | .Call (.Name g _) as [] _ =>
    if g = "range" then
      if bltB c "range" then match as with
        | [a] => match f a r s with
          | some (.int n, s1) => (rangeD 0 n).map fun l => (l, s1)
          | _ => none
        | [a, b] => match f a r s with
          | some (.int m, s1) => match f b r s1 with
            | some (.int n, s2) => (rangeD m n).map fun l => (l, s2)
            | _ => none
          | _ => none
        | _ => none
      else none
    else if g = "zip" then
      if bltB c "zip" && tupE tg then match as with
        | [a, b] => match f a r s with
          | some (x, s1) => match f b r s1 with
            | some (y, s2) => (zipD x y).map fun l => (l, s2)
            | none => none
          | none => none
        | _ => none
      else none
    else genE f it r s
  | it => genE f it r s

/-- a clause's tests -/
def ifsT (f : Expr → Rho → S → Option (Bool × S)) (ifs : List Expr) (r : Rho) (s : S) : Option (Bool × S) := match ifs with
  | [] => some (true, s)
  | [t] => f t r s
  | _ => none
def setE : Expr → Bool
  | .Set _ _ _ => true
  | _ => false
mutual
def ev : Nat → C → Expr → Rho → S → Option (D × S)
  | 0, _, _, _, _ => none
  | n + 1, c, e, r, s => match e with
    | .Constant k _ _ => match k with
      | .none => some (.non, s)
      | .bool b => some (.bl b, s)
      | .int i => some (.int i, s)
      | .str x => some (.str x, s)
      | _ => none
    | .Name x _ => match slotOf c x with
      | some i => match getS r i with
        | .v d => some (d, s)
        | _ => none
      | none => if glB c x && !decide (x = ("__debug__" : Str)) then (c.ks x).map fun i => (.int i, s) else none
    | .Attribute (.Name x xp) f _ => if c.ob then match ev n c (.Name x xp) r s with
        | some (.obj l, s1) => (fldD f l).map fun d => (d, s1)
        | _ => none
      else none
    | .BinOp a op b _ => match bor (ev n c) c a r s with
      | none => none
      | some (x, s1) => match bor (ev n c) c b r s1 with
        | none => none
        | some (y, s2) => (opD op x y).map fun z => (z, s2)
    | .UnaryOp op a _ => match op with
      | .USub => match ev n c a r s with
        | some (.int i, s1) => some (.int (-i), s1)
        | _ => none
      | .Not => match ev n c a r s with
        | some (.bl b, s1) => some (.bl (!b), s1)
        | _ => none
      | _ => none
    | .BoolOp op vs _ => match op with
      | .And => andE (ev n c) vs r s
      | .Or => orE (ev n c) vs r s
    | .Compare a [op] [b] _ => match bor (ev n c) c a r s with
      | none => none
      | some (x, s1) => match bor (ev n c) c b r s1 with
        | none => none
        | some (y, s2) => (cmpD op x y).map fun z => (.bl z, s2)
    | .Compare a [op, op'] [b, b'] _ => if setE b' then none else match ev n c a r s with
      | none => none
      | some (x, s1) => match ev n c b r s1 with
        | none => none
        | some (y, s2) => match cmpD op x y with
          | none => none
          | some false => some (.bl false, s2)
          | some true => match ev n c b' r s2 with
            | none => none
            | some (z, s3) => (cmpD op' y z).map fun w => (.bl w, s3)
    | .IfExp t a b _ => match evT n c t r s with
      | some (true, s1) => ev n c a r s1
      | some (false, s1) => ev n c b r s1
      | none => none
    | .Tuple es _ _ => match seqE (ev n c) es r s with
      | some (ds, s1) => if ds.length ≤ line then some (.tup ds, s1) else none
      | none => none
    | .List es _ => match seqE (ev n c) es r s with
      | some (ds, s1) => if ds.length ≤ line then some (.lst ds, s1) else none
      | none => none
    | .Subscript a b _ => match b with
      | .Slice lo hi none _ => match bor (ev n c) c a r s with
        | none => none
        | some (x, s1) =>
          match (match lo with
            | none => some (none, s1)
            | some e => match ev n c e r s1 with
              | some (.int i, s2) => some (some i, s2)
              | _ => none : Option (Option Int × S)) with
          | none => none
          | some (l, s2) =>
            match (match hi with
              | none => some (none, s2)
              | some e => match ev n c e r s2 with
                | some (.int i, s3) => some (some i, s3)
                | _ => none : Option (Option Int × S)) with
            | none => none
            | some (h, s3) => match x with
              | .tup xs => some (.tup (cutD xs l h), s3)
              | .lst xs => some (.lst (cutD xs l h), s3)
              | _ => none
      | .Constant (.str k) _ _ => match ev n c a r s with
        | some (.hnd, s1) => (getK s1 k).map fun d => (d, s1)
        | _ => none
      | b => match bor (ev n c) c a r s with
        | none => none
        | some (x, s1) => match ev n c b r s1 with
          | some (.int i, s2) => match x with
            | .tup xs => (atD xs i).map fun d => (d, s2)
            | .lst xs => (atD xs i).map fun d => (d, s2)
            | .scr xs => (atD (xs.map .int) i).map fun d => (d, s2)
            | _ => none
          | _ => none
    | .Call (.Name g _) as [] _ =>
      if fnB c g then
        match as with
        | [] => c.F g [] s
        | _ :: _ => match seqE (ev n c) as r s with
          | some (ds, s1) => c.F g ds s1
          | none => none
      else if clsB c g then
        match as with
        | [] => none
        | _ :: _ => match seqE (ev n c) as r s with
          | some (ds, s1) => if ds.length = 4 then some (.obj ds, s1) else none
          | none => none
      else if bltB c g then
        if callB g then
          match as with
          | [] => none
          | _ :: _ => match seqE (bor (ev n c) c) as r s with
            | some (ds, s1) => (bltD g ds).map fun d => (d, s1)
            | none => none
        else if g = "isinstance" then
          match as with
          | [a, .Name t _] => if bltB c t then match ev n c a r s with
              | some (d, s1) => match tyD d with
                | some y => if t = "int" then (L2.kitB y "int").map fun b => (.bl b, s1)
                  else if t = "bool" then (L2.kitB y "bool").map fun b => (.bl b, s1)
                  else if t = "tuple" then (L2.kitB y "tuple").map fun b => (.bl b, s1)
                  else if t = "list" then (L2.kitB y "list").map fun b => (.bl b, s1)
                  else none
                | none => none
              | none => none
            else none
          | _ => none
        else none
      else none
    | .Call (.Attribute (.Name x xp) m ap) as [] cp =>
      if mtB c m && (decide (as.length < 30) && (ap.endLine == cp.line)) then match ev n c (.Name x xp) r s with
        | some (.obj l, s1) => match as with
          | [] => c.Mt m [.obj l] s1
          | _ :: _ => match seqE (ev n c) as r s1 with
            | some (ds, s2) => c.Mt m (.obj l :: ds) s2
            | none => none
        | _ => none
      else none
    | .Dict ks vs _ => match ks, vs, s with
      | [some (.Constant (.str k1) _ _), some (.Constant (.str k2) _ _), some (.Constant (.str k3) _ _), some (.Constant (.str k4) _ _)], [e1, e2, e3, e4], none =>
        if k1 = "numbers" ∧ k2 = "at" ∧ k3 = "rest" ∧ k4 = "seed" then
          match seqE (ev n c) [e1, e2, e3, e4] r none with
          | some ([.scr l, .int a, .int b, .int d], none) => some (.hnd, some ⟨l, a, b, d⟩)
          | _ => none
        else none
      | _, _, _ => none
    | .ListComp elt [⟨tg, it, ifs, 0⟩] scope _ =>
      if L2.blkC c.N c.sc scope (ownOf c tg) then
        match srcE (bor (ev n c) c) c tg it r s with
        | none => none
        | some (xs, s1) =>
          if xs.length < line then
            match compE (bindT (c.blk scope) tg) (ifsT (evT n (c.blk scope)) ifs) (ev n (c.blk scope) elt) (wipeR r ((ownOf c tg).map (·.2))) xs s1 with
            | some (ys, s2) => some (.lst ys, s2)
            | none => none
          else none
      else none
    | _ => none
def evT : Nat → C → Expr → Rho → S → Option (Bool × S)
  | 0, _, _, _, _ => none
  | n + 1, c, e, r, s => match e with
    | .UnaryOp .Not a _ => (evT n c a r s).map fun p => (!p.1, p.2)
    | .BoolOp op vs _ => match op with
      | .And => andT (evT n c) vs r s
      | .Or => orT (evT n c) vs r s
    | .IfExp _ _ _ _ => none
    | .NamedExpr _ _ _ => none
    | e => match ev n c e r s with
      | some (.bl b, s1) => some (b, s1)
      | _ => none
end

/-! ### statements -/
/-- slots that a term hands on (they are frozen ahead of it) -/
def grB (f : Expr → List Nat) : Expr → List Nat
  | .Name _ _ => []
  | e => f e
def gr : Nat → C → Expr → List Nat
  | 0, _, _ => []
  | n + 1, c, e => match e with
    | .Name x _ => (slotOf c x).toList
    | .BinOp a _ b _ => grB (gr n c) a ++ grB (gr n c) b
    | .UnaryOp _ a _ => gr n c a
    | .BoolOp _ vs _ => vs.flatMap (gr n c)
    | .Compare a _ bs _ => grB (gr n c) a ++ bs.flatMap (grB (gr n c))
    | .IfExp t a b _ => gr n c t ++ gr n c a ++ gr n c b
    | .Tuple es _ _ => es.flatMap (gr n c)
    | .List es _ => es.flatMap (gr n c)
    | .Subscript a b _ => grB (gr n c) a ++ gr n c b
    | .Slice lo hi _ _ => (match lo with | some e => gr n c e | none => []) ++ (match hi with | some e => gr n c e | none => [])
    | .Call f as _ _ => match f with
      | .Name g _ => if bltB c g && callB g then as.flatMap (grB (gr n c)) else as.flatMap (gr n c)
      | .Attribute o _ _ => gr n c o ++ as.flatMap (gr n c)
      | _ => []
    | .Attribute o _ _ => gr n c o
    | .ListComp elt gs _ _ => gs.flatMap (fun g => grB (gr n c) g.iter ++ g.ifs.flatMap (gr n c)) ++ gr n c elt
    | _ => []
def mkS (c : C) (i : Nat) (e : Expr) (d : D) : Slot := if c.M.contains i && fresh c e then (match d with
    | .lst l => .own l
    | d => .v d) else .v d
def exs (f : Stmt → Rho → S → Option Out) : List Stmt → Rho → S → Option Out
  | [], r, s => some (.nx r s)
  | st :: sts, r, s => match f st r s with
    | none => none
    | some (.rt d s1) => some (.rt d s1)
    | some (.nx r1 s1) => exs f sts r1 s1
/-- x, y = a, b -/
def parOk (c : C) (x y : Str) (px py : Pos) (a b : Expr) : Bool := (c.sc.names.lookup x == some .local) && (c.sc.names.lookup y == some .local) && (py.line == px.line) && !decide (x = y) && !([a, b].all (foldedForSure 8)) && !([a, b].all (constantsAlone 8))
/-- a target that is no plain local name: no stores are swapped -/
def celB (c : C) (es : List Expr) : Bool := es.any fun t => match t with
  | .Name x _ => !(c.sc.names.lookup x == some .local)
  | _ => true
def callE : Expr → Bool
  | .Call _ _ _ _ => true
  | _ => false
def ex : Nat → C → Stmt → Rho → S → Option Out
  | 0, _, _, _, _ => none
  | n + 1, c, st, r, s => match st with
    | .Pass _ => some (.nx r s)
    | .Return none _ => some (.rt .non s)
    | .Return (some e) _ => (ev n c e (freezeAll r) s).map fun p => .rt p.1 p.2
    | .Expr e _ => match e with
      | .Call (.Attribute (.Name x _) m ap) [a] [] cp =>
        if m = "append" ∧ (ap.endLine == cp.line) = true then match slotOf c x with
          | some i => match ev n c a (freeze r (gr n c a)) s with
            | some (d, s1) => match getS (freeze r (gr n c a)) i with
              | .own l => if l.length < line then some (.nx ((freeze r (gr n c a)).set i (.own (l ++ [d]))) s1) else none
              | _ => none
            | none => none
          | none => none
        else none
      | e => if callE e then match ev n c e (freeze r (gr n c e)) s with
          | some (_, s1) => some (.nx (freeze r (gr n c e)) s1)
          | none => none
        else none
    | .Assign [.Name x _] e _ => match dstOf c x with
      | some i => match ev n c e (freeze r (gr n c e)) s with
        | some (d, s1) => some (.nx ((freeze r (gr n c e)).set i (mkS c i e d)) s1)
        | none => none
      | none => none
    | .Assign [.Tuple es k p] e _ => if tupE e && !celB c es then (match es, e with
      | [.Name x px, .Name y py], .Tuple [a, b] _ _ =>
        if parOk c x y px py a b then match idx c.N x, idx c.N y with
          | some i, some j => if i = j then none else match seqE (ev n c) [a, b] (freeze r (gr n c e)) s with
            | some ([d, d'], s1) => some (.nx (((freeze r (gr n c e)).set i (.v d)).set j (.v d')) s1)
            | _ => none
          | _, _ => none
        else none
      | _, _ => none)
      else match ev n c e (freeze r (gr n c e)) s with
        | some (d, s1) => (bindT c (.Tuple es k p) d (freeze r (gr n c e))).map fun r1 => .nx r1 s1
        | none => none
    | .Assign [.Subscript (.Name x _) i _] e _ => match slotOf c x with
      | none => none
      | some j => match ev n c e (freeze r (gr n c e)) s with
        | none => none
        | some (d, s1) => match getS (freeze r (gr n c e)) j with
          | .own l => match ev n c i (freeze r (gr n c e)) s1 with
            | some (.int k, s2) => match ixN l.length k with
              | some q => some (.nx ((freeze r (gr n c e)).set j (.own (l.set q d))) s2)
              | none => none
            | _ => none
          | .v .hnd => match i with
            | .Constant (.str k) _ _ => (putK s1 k d).map fun s2 => .nx (freeze r (gr n c e)) s2
            | _ => none
          | _ => none
    | .If t a b _ => match evT n c t (freeze r (gr n c t)) s with
      | some (true, s1) => exs (ex n c) a (freeze r (gr n c t)) s1
      | some (false, s1) => exs (ex n c) b (freeze r (gr n c t)) s1
      | none => none
    | .While t body [] _ => whE (evT n c t) (exs (ex n c) body) whF r s
    | .For tg it body [] _ => match srcE (ev n c) c tg it (freeze r (gr n c it)) s with
      | some (xs, s1) => forE (bindT c tg) (exs (ex n c) body) xs (freeze r (gr n c it)) s1
      | none => none
    | _ => none
def startR (N : List Str) (ds : List D) : Rho := ds.map .v ++ List.replicate (N.length - ds.length) .un
/-- a def of the text, as a function of data -/
def evDef (c : C) (np : Nat) (body : List Stmt) : Sm := fun ds s =>
  if ds.length = np then match exs (ex 60 c) body (startR c.N ds) s with
    | some (.rt d s1) => some (d, s1)
    | some (.nx _ s1) => some (.non, s1)
    | none => none
  else none
end CH

set_option maxRecDepth 100000
set_option maxHeartbeats 4000000
/-! How data lie in the abstract heap. -/
namespace CH
open PySem PySem.Spec PyProof.Rows L2

abbrev AS := Addr → Prop
noncomputable def minus (H : Hp) (O : AS) : Hp := fun a => open Classical in if O a then none else H a
theorem minus_some {H : Hp} {O : AS} {a : Addr} {o : HO} : minus H O a = some o ↔ (¬ O a ∧ H a = some o) := by
  unfold minus
  by_cases h : O a
  · rw [if_pos h]; exact ⟨fun x => (nomatch x), fun x => absurd h x.1⟩
  · rw [if_neg h]; exact ⟨fun x => ⟨h, x⟩, fun x => x.2⟩
def isDk : HO → Prop
  | .dK _ => True
  | _ => False
/-- the script's list: frozen, or of the written part -/
def FzL (K : PySem.W.Frag) (H : Hp) (a : Addr) (xs : List V) : Prop := (∃ o, H a = some (.frz o (.lst xs))) ∨ ∀ H', SqL K H' a xs
theorem FzL.seq {K : PySem.W.Frag} {H : Hp} {a : Addr} {xs : List V} (h : FzL K H a xs) : SqL K H a xs := by
  rcases h with ⟨o, h⟩ | h
  · exact .inl (.inr ⟨o, h⟩)
  · exact h H
/-- what is read stays -/
def Keep (H H' : Hp) : Prop := ∀ a o, H a = some o → ¬ isDk o → H' a = some o
theorem Keep.refl (H : Hp) : Keep H H := fun _ _ h _ => h
theorem Keep.trans {H H1 H2 : Hp} (x : Keep H H1) (y : Keep H1 H2) : Keep H H2 := fun a o h k => y a o (x a o h k) k
theorem Keep.sub {H : Hp} {O : AS} : Keep (minus H O) H := fun a o h _ => (minus_some.mp h).2
theorem Keep.seq {K : PySem.W.Frag} {H H' : Hp} {a : Addr} {xs : List V} (k : Keep H H') (h : SqL K H a xs) : SqL K H' a xs := by
  rcases h with (h | ⟨o, h⟩) | h
  · exact .inl (.inl (k _ _ h (fun z => z)))
  · exact .inl (.inr ⟨o, k _ _ h (fun z => z)⟩)
  · exact .inr h
theorem Keep.fz {K : PySem.W.Frag} {H H' : Hp} {a : Addr} {xs : List V} (k : Keep H H') (h : FzL K H a xs) : FzL K H' a xs := by
  rcases h with ⟨o, h⟩ | h
  · exact .inl ⟨o, k _ _ h (fun z => z)⟩
  · exact .inr h
theorem Keep.minus {H H' : Hp} {O O' : AS} (k : Keep (minus H O) H') (h : ∀ a o, ¬ O a → H a = some o → ¬ O' a) : Keep (CH.minus H O) (CH.minus H' O') := fun a o e d => by
  obtain ⟨h1, h2⟩ := minus_some.mp e
  exact minus_some.mpr ⟨h a o h1 h2, k a o e d⟩


mutual
inductive R (K : PySem.W.Frag) (cl : Addr) (a0 : Option Addr) (H : Hp) : V → D → Prop
  | non : R K cl a0 H .non .non
  | bl (b : Bool) : R K cl a0 H (.bl b) (.bl b)
  | int (i : Int) : R K cl a0 H (.int i) (.int i)
  | str (x : Str) : R K cl a0 H (.str x) (.str x)
  | tup {a : Addr} {xs : List V} {l : List D} : H a = some (.tup xs) → Rs K cl a0 H xs l → R K cl a0 H (.ref a) (.tup l)
  | lst {a : Addr} {xs : List V} {l : List D} : H a = some (.lst xs) → Rs K cl a0 H xs l → R K cl a0 H (.ref a) (.lst l)
  | scr {a : Addr} {l : List Int} : FzL K H a (l.map V.int) → R K cl a0 H (.ref a) (.scr l)
  | obj {a dx : Addr} {v1 v2 v3 v4 : V} {l : List D} : H a = some (.ins cl dx [("dim", v1), ("rows", v2), ("corners", v3), ("rays", v4)]) → Rs K cl a0 H [v1, v2, v3, v4] l → R K cl a0 H (.ref a) (.obj l)
  | hnd {a : Addr} : a0 = some a → R K cl a0 H (.ref a) .hnd
inductive Rs (K : PySem.W.Frag) (cl : Addr) (a0 : Option Addr) (H : Hp) : List V → List D → Prop
  | nil : Rs K cl a0 H [] []
  | cons {v : V} {vs : List V} {d : D} {ds : List D} : R K cl a0 H v d → Rs K cl a0 H vs ds → Rs K cl a0 H (v :: vs) (d :: ds)
end
def Le (a b : Option Addr) : Prop := ∀ x, a = some x → b = some x
theorem Le.refl (a : Option Addr) : Le a a := fun _ h => h
theorem Le.trans {a b c : Option Addr} (x : Le a b) (y : Le b c) : Le a c := fun z h => y z (x z h)
section
variable {K : PySem.W.Frag} {cl : Addr} {a0 a0' : Option Addr} {H H' : Hp}
mutual
theorem R.mono (k : Keep H H') (l : Le a0 a0') : ∀ {v : V} {d : D}, R K cl a0 H v d → R K cl a0' H' v d
  | _, _, .non => .non
  | _, _, .bl b => .bl b
  | _, _, .int i => .int i
  | _, _, .str x => .str x
  | _, _, .tup h hs => .tup (k _ _ h (fun z => z)) (Rs.mono k l hs)
  | _, _, .lst h hs => .lst (k _ _ h (fun z => z)) (Rs.mono k l hs)
  | _, _, .scr h => .scr (k.fz h)
  | _, _, .obj h hs => .obj (k _ _ h (fun z => z)) (Rs.mono k l hs)
  | _, _, .hnd h => .hnd (l _ h)
theorem Rs.mono (k : Keep H H') (l : Le a0 a0') : ∀ {vs : List V} {ds : List D}, Rs K cl a0 H vs ds → Rs K cl a0' H' vs ds
  | _, _, .nil => .nil
  | _, _, .cons h hs => .cons (R.mono k l h) (Rs.mono k l hs)
end
theorem Rs.length : ∀ {vs : List V} {ds : List D}, Rs K cl a0 H vs ds → vs.length = ds.length
  | _, _, .nil => rfl
  | _, _, .cons _ hs => congrArg (· + 1) (Rs.length hs)
theorem Rs.get : ∀ {vs : List V} {ds : List D} {i : Nat} {d : D}, Rs K cl a0 H vs ds → ds[i]? = some d → ∃ v, vs[i]? = some v ∧ R K cl a0 H v d
  | _, _, _, _, .nil, e => by simp at e
  | _, _, 0, _, .cons r _, e => by simp at e; subst e; exact ⟨_, rfl, r⟩
  | _, _, i + 1, d, .cons _ t, e => by
    obtain ⟨v, h1, h2⟩ := Rs.get (i := i) (d := d) t (by simpa using e)
    exact ⟨v, by simpa using h1, h2⟩
theorem Rs.getv : ∀ {vs : List V} {ds : List D} {i : Nat} {v : V}, Rs K cl a0 H vs ds → vs[i]? = some v → ∃ d, ds[i]? = some d ∧ R K cl a0 H v d
  | _, _, _, _, .nil, e => by simp at e
  | _, _, 0, _, .cons r _, e => by simp at e; subst e; exact ⟨_, rfl, r⟩
  | _, _, i + 1, d, .cons _ t, e => by
    obtain ⟨v, h1, h2⟩ := Rs.getv (i := i) (v := d) t (by simpa using e)
    exact ⟨v, by simpa using h1, h2⟩
theorem Rs.append : ∀ {vs ws : List V} {ds es : List D}, Rs K cl a0 H vs ds → Rs K cl a0 H ws es → Rs K cl a0 H (vs ++ ws) (ds ++ es)
  | _, _, _, _, .nil, s => s
  | _, _, _, _, .cons r t, s => .cons r (Rs.append t s)
theorem Rs.take : ∀ {vs : List V} {ds : List D} (n : Nat), Rs K cl a0 H vs ds → Rs K cl a0 H (vs.take n) (ds.take n)
  | _, _, 0, _ => .nil
  | _, _, _ + 1, .nil => .nil
  | _, _, n + 1, .cons r t => .cons r (Rs.take n t)
theorem Rs.drop : ∀ {vs : List V} {ds : List D} (n : Nat), Rs K cl a0 H vs ds → Rs K cl a0 H (vs.drop n) (ds.drop n)
  | _, _, 0, r => r
  | _, _, _ + 1, .nil => .nil
  | _, _, n + 1, .cons _ t => Rs.drop n t
theorem Rs.set : ∀ {vs : List V} {ds : List D} {v : V} {d : D} (i : Nat), R K cl a0 H v d → Rs K cl a0 H vs ds → Rs K cl a0 H (vs.set i v) (ds.set i d)
  | _, _, _, _, _, _, .nil => .nil
  | _, _, _, _, 0, q, .cons _ t => .cons q t
  | _, _, _, _, i + 1, q, .cons r t => .cons r (Rs.set i q t)
theorem Rs.asInts : ∀ {vs : List V} {ds : List D} {ns : List Int}, Rs K cl a0 H vs ds → asInts ds = some ns → vs = ns.map V.int
  | _, _, ns, .nil, e => by
    have e' : some [] = some ns := e
    cases e'; rfl
  | _, _, ns, .cons (d := .int i) r t, e => by
    cases r
    have e' : (CH.asInts _).map (i :: ·) = some ns := e
    obtain ⟨m, h1, h2⟩ := Option.map_eq_some_iff.mp e'
    subst h2
    rw [Rs.asInts t h1]; rfl
  | _, _, ns, .cons (d := .non) r t, e => by cases e
  | _, _, ns, .cons (d := .bl _) r t, e => by cases e
  | _, _, ns, .cons (d := .str _) r t, e => by cases e
  | _, _, ns, .cons (d := .tup _) r t, e => by cases e
  | _, _, ns, .cons (d := .lst _) r t, e => by cases e
  | _, _, ns, .cons (d := .scr _) r t, e => by cases e
  | _, _, ns, .cons (d := .obj _) r t, e => by cases e
  | _, _, ns, .cons (d := .hnd) r t, e => by cases e
theorem Rs.asBls : ∀ {vs : List V} {ds : List D} {ns : List Bool}, Rs K cl a0 H vs ds → asBls ds = some ns → vs = ns.map V.bl
  | _, _, ns, .nil, e => by
    have e' : some [] = some ns := e
    cases e'; rfl
  | _, _, ns, .cons (d := .bl i) r t, e => by
    cases r
    have e' : (CH.asBls _).map (i :: ·) = some ns := e
    obtain ⟨m, h1, h2⟩ := Option.map_eq_some_iff.mp e'
    subst h2
    rw [Rs.asBls t h1]; rfl
  | _, _, ns, .cons (d := .non) r t, e => by cases e
  | _, _, ns, .cons (d := .int _) r t, e => by cases e
  | _, _, ns, .cons (d := .str _) r t, e => by cases e
  | _, _, ns, .cons (d := .tup _) r t, e => by cases e
  | _, _, ns, .cons (d := .lst _) r t, e => by cases e
  | _, _, ns, .cons (d := .scr _) r t, e => by cases e
  | _, _, ns, .cons (d := .obj _) r t, e => by cases e
  | _, _, ns, .cons (d := .hnd) r t, e => by cases e

mutual
theorem R.py : ∀ {v : V} {d : D} {p : PyData}, R K cl a0 H v d → d.toPy = some p → Dp K H v p
  | _, _, _, .non, e => by cases e; exact .non
  | _, _, _, .bl b, e => by cases e; exact .bl b
  | _, _, _, .int i, e => by cases e; exact .int i
  | _, _, _, .str x, e => by cases e; exact .str x
  | _, _, _, .tup (l := l) h hs, e => by
    have e' : (D.toPys l).map PyData.tuple = some _ := e
    obtain ⟨m, h1, h2⟩ := Option.map_eq_some_iff.mp e'
    subst h2
    exact .tup (SqT.of h) (Rs.py hs h1)
  | _, _, _, .lst (l := l) h hs, e => by
    have e' : (D.toPys l).map PyData.list = some _ := e
    obtain ⟨m, h1, h2⟩ := Option.map_eq_some_iff.mp e'
    subst h2
    exact .lst (SqL.of h) (Rs.py hs h1)
  | _, _, _, .scr h, e => by cases e
  | _, _, _, .obj h hs, e => by cases e
  | _, _, _, .hnd h, e => by cases e
theorem Rs.py : ∀ {vs : List V} {ds : List D} {ps : List PyData}, Rs K cl a0 H vs ds → D.toPys ds = some ps → DpAll K H vs ps
  | _, _, _, .nil, e => by cases e; exact .nil
  | _, _, ps, .cons (d := d) (ds := ds) h hs, e => by
    have e' : (match D.toPy d, D.toPys ds with
      | some p, some q => some (p :: q)
      | _, _ => none) = some ps := e
    split at e'
    · rename_i p q h1 h2
      cases e'
      exact .cons (R.py h h1) (Rs.py hs h2)
    · cases e'
end
end
end CH

set_option maxRecDepth 100000
set_option maxHeartbeats 4000000
/-! The state: slots, the drawing dict, what a step leaves. -/
namespace CH
open PySem PySem.Spec PyProof.Rows L2

def OwS (r : Rho) (σ : L2.St) (a : Addr) : Prop := ∃ (i : Nat) (l : List D), r[i]? = some (Slot.own l) ∧ σ[i]? = some (some (V.ref a))
def Ow (P : AS) (r : Rho) (σ : L2.St) (a : Addr) : Prop := P a ∨ OwS r σ a
def kvs4 (b : Addr) (t : LS) : List (Key × V) := [(Sum.inr "numbers", .ref b), (Sum.inr "at", .int t.at_), (Sum.inr "rest", .int t.rest), (Sum.inr "seed", .int t.seed)]
def StOk (K : PySem.W.Frag) (a0 : Option Addr) (s : S) (H : Hp) : Prop := match s with
  | none => a0 = none
  | some t => ∃ a b, a0 = some a ∧ H a = some (.dK (kvs4 b t)) ∧ FzL K H b (t.numbers.map V.int)

structure Good (K : PySem.W.Frag) (cl : Addr) (P : AS) (r : Rho) (s : S) (a0 : Option Addr) (σ : L2.St) (H : Hp) : Prop where
  len : r.length = σ.length
  val : ∀ (i : Nat) (d : D), r[i]? = some (Slot.v d) → ∃ v, σ[i]? = some (some v) ∧ R K cl a0 (minus H (Ow P r σ)) v d
  own : ∀ (i : Nat) (l : List D), r[i]? = some (Slot.own l) → ∃ a xs, σ[i]? = some (some (V.ref a)) ∧ ¬ P a ∧ H a = some (.lst xs) ∧ Rs K cl a0 (minus H (Ow P r σ)) xs l
  inj : ∀ (i j : Nat) (a : Addr) (l l' : List D), r[i]? = some (Slot.own l) → r[j]? = some (Slot.own l') → σ[i]? = some (some (V.ref a)) → σ[j]? = some (some (V.ref a)) → i = j
  st : StOk K a0 s (minus H (Ow P r σ))
  alc : ∀ a, P a → H a ≠ none

structure Ext (a1 : Option Addr) (H H' : Hp) : Prop where
  keep : Keep H H'
  alc : ∀ a, H a ≠ none → H' a ≠ none
  dk : ∀ a kvs, H a = some (.dK kvs) → a1 ≠ some a → H' a = some (.dK kvs)
theorem Ext.refl (a1 : Option Addr) (H : Hp) : Ext a1 H H := ⟨Keep.refl H, fun _ h => h, fun _ _ h _ => h⟩
theorem Ext.trans {a1 a2 : Option Addr} {H H1 H2 : Hp} (x : Ext a1 H H1) (y : Ext a2 H1 H2) (l : Le a1 a2) : Ext a2 H H2 :=
  ⟨x.keep.trans y.keep, fun a h => y.alc a (x.alc a h), fun a kvs h n => y.dk a kvs (x.dk a kvs h fun e => n (l a e)) n⟩
theorem Ext.same {a1 : Option Addr} {H H' : Hp} (h : Same H H') : Ext a1 H H' := ⟨fun a o e _ => h a o e, fun a n e => n (h.free e), fun a kvs e _ => h a _ e⟩
theorem same_new {H : Hp} {p : Addr} {o : HO} (h : H p = none) : Same H (upd H p o) := fun b x e => by
  rw [upd_ne (ne_of_none e h)]
  exact e
theorem StOk.same {K : PySem.W.Frag} {a0 : Option Addr} {s : S} {H H' : Hp} (k : Same H H') (h : StOk K a0 s H) : StOk K a0 s H' := by
  cases s with
  | none => exact h
  | some t =>
    obtain ⟨a, b, h1, h2, h3⟩ := h
    exact ⟨a, b, h1, k _ _ h2, (show Keep H H' from fun a o e _ => k a o e).fz h3⟩
theorem same_minus {H H' : Hp} {O O' : AS} (k : Same H H') (h : ∀ a o, ¬ O a → H a = some o → ¬ O' a) : Same (minus H O) (minus H' O') := fun a o e => by
  obtain ⟨h1, h2⟩ := minus_some.mp e
  exact minus_some.mpr ⟨h a o h1 h2, k a o h2⟩

section
variable {K : PySem.W.Frag} {cl : Addr} {P : AS} {r : Rho} {s s' : S} {a0 a1 : Option Addr} {σ : L2.St} {H H' : Hp}
theorem ext_minus {O : AS} (e : Ext a1 H H') : Keep (minus H O) (minus H' O) := (Keep.sub.trans e.keep).minus fun _ _ h _ => h
theorem Good.owAlc (g : Good K cl P r s a0 σ H) : ∀ a, Ow P r σ a → H a ≠ none := fun a h => by
  rcases h with h | ⟨i, l, h1, h2⟩
  · exact g.alc a h
  · obtain ⟨b, xs, e1, _, e2, _⟩ := g.own i l h1
    rw [e1] at h2
    cases h2
    rw [e2]
    exact fun z => nomatch z
theorem Good.ext (g : Good K cl P r s a0 σ H) (e : Ext a1 H H') (l : Le a0 a1) (st : StOk K a1 s' (minus H' (Ow P r σ))) : Good K cl P r s' a1 σ H' where
  len := g.len
  val := fun i d h => by
    obtain ⟨v, h1, h2⟩ := g.val i d h
    exact ⟨v, h1, h2.mono (ext_minus e) l⟩
  own := fun i d h => by
    obtain ⟨a, xs, h1, h2, h3, h4⟩ := g.own i d h
    exact ⟨a, xs, h1, h2, e.keep _ _ h3 (fun z => z), h4.mono (ext_minus e) l⟩
  inj := g.inj
  st := st
  alc := fun a h => e.alc a (g.alc a h)
theorem Good.same (g : Good K cl P r s a0 σ H) (k : Same H H') : Good K cl P r s a0 σ H' :=
  g.ext (Ext.same k) (Le.refl _) (g.st.same (same_minus k fun _ _ h _ => h))
theorem Good.new (g : Good K cl P r s a0 σ H) {p : Addr} {o : HO} (h : H p = none) : Good K cl P r s a0 σ (upd H p o) := g.same (same_new h)
theorem getS_some {r : Rho} {i : Nat} {x : Slot} (h : getS r i = x) (hx : x ≠ .un) : r[i]? = some x := by
  unfold getS at h
  rw [List.getD_eq_getElem?_getD] at h
  cases e : r[i]? with
  | none => rw [e] at h; exact absurd h.symm hx
  | some y =>
    rw [e] at h
    have h' : y = x := h
    rw [h']
theorem set_getv {α : Type} {l : List α} {i j : Nat} {x y : α} (h : (l.set i x)[j]? = some y) : (i = j ∧ y = x ∧ i < l.length) ∨ (i ≠ j ∧ l[j]? = some y) := by
  by_cases e : i = j
  · subst e
    by_cases hl : i < l.length
    · rw [List.getElem?_set_self hl] at h
      cases h
      exact .inl ⟨rfl, rfl, hl⟩
    · rw [List.getElem?_eq_none (by simpa using hl)] at h
      cases h
  · rw [List.getElem?_set_ne e] at h
    exact .inr ⟨e, h⟩
/-- a slot gets a value -/
theorem ows_setv {i : Nat} {d : D} {v : V} (a : Addr) (h : OwS (r.set i (.v d)) (σ.set i (some v)) a) : OwS r σ a := by
  obtain ⟨j, l, h1, h2⟩ := h
  rcases set_getv h1 with ⟨_, e, _⟩ | ⟨ne, h1⟩
  · cases e
  · rcases set_getv h2 with ⟨e, _⟩ | ⟨_, h2⟩
    · exact absurd e ne
    · exact ⟨j, l, h1, h2⟩
theorem Good.setv (g : Good K cl P r s a0 σ H) {i : Nat} {d : D} {v : V} (h : R K cl a0 (minus H (Ow P r σ)) v d) : Good K cl P (r.set i (.v d)) s a0 (σ.set i (some v)) H := by
  have sub : ∀ a, Ow P (r.set i (.v d)) (σ.set i (some v)) a → Ow P r σ a := fun a h => h.imp id fun x => ows_setv a x
  have kp : Same (minus H (Ow P r σ)) (minus H (Ow P (r.set i (.v d)) (σ.set i (some v)))) := same_minus (Same.refl H) fun a _ n _ z => n (sub a z)
  have kk : Keep (minus H (Ow P r σ)) (minus H (Ow P (r.set i (.v d)) (σ.set i (some v)))) := fun a o e _ => kp a o e
  refine ⟨by rw [List.length_set, List.length_set]; exact g.len, fun j e hj => ?_, fun j l hj => ?_, fun j k a l l' h1 h2 h3 h4 => ?_, g.st.same kp, g.alc⟩
  · rcases set_getv hj with ⟨e1, e2, hl⟩ | ⟨ne, hj⟩
    · cases e2
      subst e1
      exact ⟨v, List.getElem?_set_self (by rw [← g.len]; exact hl), h.mono kk (Le.refl _)⟩
    · obtain ⟨w, h1, h2⟩ := g.val j e hj
      exact ⟨w, by rw [List.getElem?_set_ne ne]; exact h1, h2.mono kk (Le.refl _)⟩
  · rcases set_getv hj with ⟨_, e2, _⟩ | ⟨ne, hj⟩
    · cases e2
    · obtain ⟨a, xs, h1, h2, h3, h4⟩ := g.own j l hj
      exact ⟨a, xs, by rw [List.getElem?_set_ne ne]; exact h1, h2, h3, h4.mono kk (Le.refl _)⟩
  · rcases set_getv h1 with ⟨_, e, _⟩ | ⟨n1, h1⟩
    · cases e
    · rcases set_getv h2 with ⟨_, e, _⟩ | ⟨n2, h2⟩
      · cases e
      · rw [List.getElem?_set_ne n1] at h3
        rw [List.getElem?_set_ne n2] at h4
        exact g.inj j k a l l' h1 h2 h3 h4
/-- a slot gets a list of its own, new since H0 -/
theorem ows_seto {i : Nat} {l : List D} {p : Addr} (a : Addr) (h : OwS (r.set i (.own l)) (σ.set i (some (V.ref p))) a) : OwS r σ a ∨ a = p := by
  obtain ⟨j, l', h1, h2⟩ := h
  rcases set_getv h2 with ⟨e, e2, _⟩ | ⟨ne, h2⟩
  · cases e2; exact .inr rfl
  · rcases set_getv h1 with ⟨e, _⟩ | ⟨_, h1⟩
    · exact absurd e ne
    · exact .inl ⟨j, l', h1, h2⟩
theorem Good.seto {H0 : Hp} (g : Good K cl P r s a0 σ H0) (e : Ext a1 H0 H) (le : Le a0 a1) (st : StOk K a1 s' (minus H (Ow P r σ))) {i : Nat} {l : List D} {p : Addr} {xs : List V} (hn : H0 p = none) (hp : H p = some (.lst xs))
    (hr : Rs K cl a1 (minus H (fun b => Ow P r σ b ∨ b = p)) xs l) : Good K cl P (r.set i (.own l)) s' a1 (σ.set i (some (V.ref p))) H := by
  have sub : ∀ a, Ow P (r.set i (.own l)) (σ.set i (some (V.ref p))) a → Ow P r σ a ∨ a = p := fun a h => by
    rcases h with h | h
    · exact .inl (.inl h)
    · exact (ows_seto a h).imp (fun z => .inr z) id
  have kk : Keep (minus H0 (Ow P r σ)) (minus H (Ow P (r.set i (.own l)) (σ.set i (some (V.ref p))))) := (Keep.sub.trans e.keep).minus fun a o n h z => by
    rcases sub a z with z | z
    · exact n z
    · rw [z, hn] at h; cases h
  have k2 : Keep (minus H (fun b => Ow P r σ b ∨ b = p)) (minus H (Ow P (r.set i (.own l)) (σ.set i (some (V.ref p))))) := Keep.sub.minus fun a o n _ z => n (sub a z)
  have nP : ¬ P p := fun z => g.alc p z hn
  have nO : ¬ OwS r σ p := fun z => g.owAlc p (.inr z) hn
  refine ⟨by rw [List.length_set, List.length_set]; exact g.len, fun j d hj => ?_, fun j l' hj => ?_, fun j k a l1 l2 h1 h2 h3 h4 => ?_, ?_, fun a h => e.alc a (g.alc a h)⟩
  · rcases set_getv hj with ⟨_, e2, _⟩ | ⟨ne, hj⟩
    · cases e2
    · obtain ⟨w, h1, h2⟩ := g.val j d hj
      exact ⟨w, by rw [List.getElem?_set_ne ne]; exact h1, h2.mono kk le⟩
  · rcases set_getv hj with ⟨e1, e2, hl⟩ | ⟨ne, hj⟩
    · cases e2
      subst e1
      exact ⟨p, xs, List.getElem?_set_self (by rw [← g.len]; exact hl), nP, hp, hr.mono k2 (Le.refl _)⟩
    · obtain ⟨a, ys, h1, h2, h3, h4⟩ := g.own j l' hj
      exact ⟨a, ys, by rw [List.getElem?_set_ne ne]; exact h1, h2, e.keep _ _ h3 (fun z => z), h4.mono kk le⟩
  · have key : ∀ (j : Nat) (l1 : List D), (r.set i (.own l))[j]? = some (Slot.own l1) → (σ.set i (some (V.ref p)))[j]? = some (some (V.ref a)) → (i = j ∧ a = p) ∨ (i ≠ j ∧ a ≠ p ∧ r[j]? = some (Slot.own l1) ∧ σ[j]? = some (some (V.ref a))) := fun j l1 h1 h3 => by
      rcases set_getv h3 with ⟨e1, e2, _⟩ | ⟨ne, h3⟩
      · cases e2; exact .inl ⟨e1, rfl⟩
      · rcases set_getv h1 with ⟨e1, _⟩ | ⟨_, h1⟩
        · exact absurd e1 ne
        · exact .inr ⟨ne, fun z => nO (by rw [← z]; exact ⟨j, l1, h1, h3⟩), h1, h3⟩
    rcases key j l1 h1 h3 with ⟨e1, e2⟩ | ⟨_, n1, h1, h3⟩
    · rcases key k l2 h2 h4 with ⟨e3, _⟩ | ⟨_, n2, _, _⟩
      · exact e1.symm.trans e3
      · exact absurd e2 n2
    · rcases key k l2 h2 h4 with ⟨_, e3⟩ | ⟨_, _, h2, h4⟩
      · exact absurd e3 n1
      · exact g.inj j k a l1 l2 h1 h2 h3 h4
  · cases s' with
    | none => exact st
    | some t =>
      obtain ⟨a, b, h1, h2, h3⟩ := st
      obtain ⟨m1, m2⟩ := minus_some.mp h2
      have na : a ≠ p := fun z => by rw [z, hp] at m2; cases m2
      refine ⟨a, b, h1, minus_some.mpr ⟨fun z => ?_, m2⟩, ?_⟩
      · rcases sub a z with z | z
        · exact m1 z
        · exact na z
      · rcases h3 with ⟨o, h3⟩ | h3
        · obtain ⟨m3, m4⟩ := minus_some.mp h3
          refine .inl ⟨o, minus_some.mpr ⟨fun z => ?_, m4⟩⟩
          rcases sub b z with z | z
          · exact m3 z
          · rw [z, hp] at m4; cases m4
        · exact .inr h3
/-- the own list at slot i is changed -/
theorem minus_upd {O : AS} {p : Addr} {o : HO} (h : O p) : minus (upd H p o) O = minus H O := by
  funext a
  unfold minus
  by_cases ha : O a
  · rw [if_pos ha, if_pos ha]
  · rw [if_neg ha, if_neg ha]
    exact upd_ne fun z => ha (by rw [z]; exact h)
theorem ow_mut {i : Nat} {l l' : List D} (hi : r[i]? = some (Slot.own l)) : OwS (r.set i (.own l')) σ = OwS r σ := by
  have hl : i < r.length := by
    have h := List.getElem?_eq_some_iff.mp hi
    exact h.1
  funext a
  apply propext
  constructor
  · rintro ⟨j, k, h1, h2⟩
    rcases set_getv h1 with ⟨e1, _, _⟩ | ⟨_, h1⟩
    · subst e1; exact ⟨i, l, hi, h2⟩
    · exact ⟨j, k, h1, h2⟩
  · rintro ⟨j, k, h1, h2⟩
    by_cases e : i = j
    · subst e; exact ⟨i, l', List.getElem?_set_self hl, h2⟩
    · exact ⟨j, k, by rw [List.getElem?_set_ne e]; exact h1, h2⟩
theorem Good.mut (g : Good K cl P r s a0 σ H) {i : Nat} {l l' : List D} {p : Addr} {xs : List V} (hi : r[i]? = some (Slot.own l)) (hp : σ[i]? = some (some (V.ref p))) (hr : Rs K cl a0 (minus H (Ow P r σ)) xs l') :
    Good K cl P (r.set i (.own l')) s a0 σ (upd H p (.lst xs)) := by
  have eo : Ow P (r.set i (.own l')) σ = Ow P r σ := by
    unfold Ow
    rw [ow_mut hi]
  have hO : Ow P r σ p := .inr ⟨i, l, hi, hp⟩
  have em : minus (upd H p (.lst xs)) (Ow P (r.set i (.own l')) σ) = minus H (Ow P r σ) := by rw [eo]; exact minus_upd hO
  obtain ⟨p', xs0, q1, q2, q3, _⟩ := g.own i l hi
  rw [hp] at q1; cases q1
  refine ⟨by rw [List.length_set]; exact g.len, fun j d hj => ?_, fun j k hj => ?_, fun j k a l1 l2 h1 h2 h3 h4 => ?_, ?_, fun a h => ?_⟩
  · rw [em]
    rcases set_getv hj with ⟨_, e2, _⟩ | ⟨_, hj⟩
    · cases e2
    · exact g.val j d hj
  · rw [em]
    rcases set_getv hj with ⟨e1, e2, _⟩ | ⟨ne, hj⟩
    · cases e2
      subst e1
      exact ⟨p, xs, hp, q2, upd_same, hr⟩
    · obtain ⟨a, ys, h1, h2, h3, h4⟩ := g.own j k hj
      refine ⟨a, ys, h1, h2, ?_, h4⟩
      rw [upd_ne]
      · exact h3
      · intro z
        rw [z] at h1
        exact ne (g.inj i j p l k hi hj hp h1)
  · have key : ∀ (j : Nat) (l1 : List D), (r.set i (.own l'))[j]? = some (Slot.own l1) → ∃ l2, r[j]? = some (Slot.own l2) := fun j l1 h1 => by
      rcases set_getv h1 with ⟨e1, _, _⟩ | ⟨_, h1⟩
      · subst e1; exact ⟨l, hi⟩
      · exact ⟨l1, h1⟩
    obtain ⟨m1, h1⟩ := key j l1 h1
    obtain ⟨m2, h2⟩ := key k l2 h2
    exact g.inj j k a m1 m2 h1 h2 h3 h4
  · rw [em]; exact g.st
  · by_cases e : a = p
    · rw [e, upd_same]; exact fun z => nomatch z
    · rw [upd_ne e]; exact g.alc a h
/-- a slot is frozen -/
theorem Good.fr1 (g : Good K cl P r s a0 σ H) (i : Nat) : Good K cl P (r.set i (freeze1 (getS r i))) s a0 σ H ∧ ∀ a, OwS (r.set i (freeze1 (getS r i))) σ a → OwS r σ a := by
  cases h : getS r i with
  | un =>
    by_cases hl : i < r.length
    · have e : r[i]? = some Slot.un := by
        unfold getS at h
        rw [List.getD_eq_getElem?_getD, List.getElem?_eq_getElem hl] at h
        rw [List.getElem?_eq_getElem hl]
        exact congrArg some h
      have e2 : r.set i (freeze1 .un) = r := by
        apply List.ext_getElem?
        intro j
        by_cases ej : i = j
        · subst ej; rw [List.getElem?_set_self hl, e]; rfl
        · rw [List.getElem?_set_ne ej]
      rw [e2]
      exact ⟨g, fun _ h => h⟩
    · rw [List.set_eq_of_length_le (by omega)]
      exact ⟨g, fun _ h => h⟩
  | v d =>
    have e := getS_some h (fun z => nomatch z)
    have e2 : r.set i (freeze1 (.v d)) = r := by
      apply List.ext_getElem?
      intro j
      by_cases ej : i = j
      · subst ej
        rw [List.getElem?_set_self (List.getElem?_eq_some_iff.mp e).1, e]; rfl
      · rw [List.getElem?_set_ne ej]
    rw [e2]
    exact ⟨g, fun _ h => h⟩
  | own l =>
    have e := getS_some h (fun z => nomatch z)
    obtain ⟨p, xs, h1, h2, h3, h4⟩ := g.own i l e
    have hl : i < r.length := (List.getElem?_eq_some_iff.mp e).1
    show Good K cl P (r.set i (.v (.lst l))) s a0 σ H ∧ _
    have sub : ∀ a, OwS (r.set i (.v (.lst l))) σ a → OwS r σ a ∧ a ≠ p := fun a z => by
      obtain ⟨j, k, z1, z2⟩ := z
      rcases set_getv z1 with ⟨_, e2, _⟩ | ⟨ne, z1⟩
      · cases e2
      · refine ⟨⟨j, k, z1, z2⟩, fun ep => ?_⟩
        subst ep
        exact ne (g.inj i j a l k e z1 h1 z2)
    have kp : Same (minus H (Ow P r σ)) (minus H (Ow P (r.set i (.v (.lst l))) σ)) := same_minus (Same.refl H) fun a _ n _ z => n (z.imp id fun y => (sub a y).1)
    have kk : Keep (minus H (Ow P r σ)) (minus H (Ow P (r.set i (.v (.lst l))) σ)) := fun a o e _ => kp a o e
    refine ⟨⟨by rw [List.length_set]; exact g.len, fun j d hj => ?_, fun j k hj => ?_, fun j k a l1 l2 y1 y2 y3 y4 => ?_, g.st.same kp, g.alc⟩, fun a z => (sub a z).1⟩
    · rcases set_getv hj with ⟨e1, e2, _⟩ | ⟨_, hj⟩
      · subst e1
        cases e2
        refine ⟨V.ref p, h1, .lst (minus_some.mpr ⟨fun z => ?_, h3⟩) (h4.mono kk (Le.refl _))⟩
        rcases z with z | z
        · exact h2 z
        · exact (sub p z).2 rfl
      · obtain ⟨w, y1, y2⟩ := g.val j d hj
        exact ⟨w, y1, y2.mono kk (Le.refl _)⟩
    · rcases set_getv hj with ⟨_, e2, _⟩ | ⟨_, hj⟩
      · cases e2
      · obtain ⟨a, ys, y1, y2, y3, y4⟩ := g.own j k hj
        exact ⟨a, ys, y1, y2, y3, y4.mono kk (Le.refl _)⟩
    · rcases set_getv y1 with ⟨_, e2, _⟩ | ⟨_, y1⟩
      · cases e2
      · rcases set_getv y2 with ⟨_, e2, _⟩ | ⟨_, y2⟩
        · cases e2
        · exact g.inj j k a l1 l2 y1 y2 y3 y4
theorem Good.fr (g : Good K cl P r s a0 σ H) : ∀ is : List Nat, Good K cl P (freeze r is) s a0 σ H ∧ ∀ a, OwS (freeze r is) σ a → OwS r σ a
  | [] => ⟨g, fun _ h => h⟩
  | i :: is => by
    obtain ⟨g1, h1⟩ := Good.fr g is
    obtain ⟨g2, h2⟩ := g1.fr1 i
    exact ⟨g2, fun a z => h1 a (h2 a z)⟩
end
end CH

set_option maxRecDepth 100000
set_option maxHeartbeats 4000000
/-! Operations on values that tell data. -/
namespace CH
open PySem PySem.Spec PyProof.Rows L2

abbrev VRel := PySem.W.Frag → Addr → Option Addr → Hp → AS → V → D → Prop
def RV : VRel := fun K cl a0 H O v d => R K cl a0 (minus H O) v d
def RB : VRel := fun K cl a0 H O v d => R K cl a0 (minus H O) v d ∨ ∃ a xs l, v = V.ref a ∧ d = D.lst l ∧ H a = some (.lst xs) ∧ Rs K cl a0 (minus H O) xs l
section
variable {K : PySem.W.Frag} {cl : Addr} {a0 a1 : Option Addr} {H H' : Hp} {O : AS} {v u : V} {d : D} {X : Cx}
theorem RV.rb (h : RV K cl a0 H O v d) : RB K cl a0 H O v d := .inl h
theorem RB.ext (h : RB K cl a0 H O v d) (e : Ext a1 H H') (l : Le a0 a1) : RB K cl a1 H' O v d := by
  rcases h with h | ⟨a, xs, k, e1, e2, e3, e4⟩
  · exact .inl (h.mono (ext_minus e) l)
  · exact .inr ⟨a, xs, k, e1, e2, e.keep _ _ e3 (fun z => z), e4.mono (ext_minus e) l⟩
theorem RV.ext (h : RV K cl a0 H O v d) (e : Ext a1 H H') (l : Le a0 a1) : RV K cl a1 H' O v d := R.mono (ext_minus e) l h
theorem RB.int {i : Int} (h : RB K cl a0 H O v (.int i)) : v = V.int i := by
  rcases h with h | ⟨a, xs, k, e1, e2, e3, e4⟩
  · cases h; rfl
  · cases e2
theorem RB.bl {i : Bool} (h : RB K cl a0 H O v (.bl i)) : v = V.bl i := by
  rcases h with h | ⟨a, xs, k, e1, e2, e3, e4⟩
  · cases h; rfl
  · cases e2
theorem RB.non (h : RB K cl a0 H O v .non) : v = V.non := by
  rcases h with h | ⟨a, xs, k, e1, e2, e3, e4⟩
  · cases h; rfl
  · cases e2
theorem RB.tup {l : List D} (h : RB K cl a0 H O v (.tup l)) : ∃ a xs, v = V.ref a ∧ ¬ O a ∧ H a = some (.tup xs) ∧ Rs K cl a0 (minus H O) xs l := by
  rcases h with h | ⟨a, xs, k, e1, e2, e3, e4⟩
  · cases h with
    | tup h1 h2 => exact ⟨_, _, rfl, (minus_some.mp h1).1, (minus_some.mp h1).2, h2⟩
  · cases e2
theorem RB.lst {l : List D} (h : RB K cl a0 H O v (.lst l)) : ∃ a xs, v = V.ref a ∧ H a = some (.lst xs) ∧ Rs K cl a0 (minus H O) xs l := by
  rcases h with h | ⟨a, xs, k, e1, e2, e3, e4⟩
  · cases h with
    | lst h1 h2 => exact ⟨_, _, rfl, (minus_some.mp h1).2, h2⟩
  · cases e2; exact ⟨a, xs, e1, e3, e4⟩
theorem RB.scr {l : List Int} (h : RB K cl a0 H O v (.scr l)) : ∃ a, v = V.ref a ∧ FzL K H a (l.map V.int) ∧ FzL K (minus H O) a (l.map V.int) := by
  rcases h with h | ⟨a, xs, k, e1, e2, e3, e4⟩
  · cases h with
    | scr h1 => exact ⟨_, rfl, Keep.sub.fz h1, h1⟩
  · cases e2
theorem RB.py {p : PyData} (h : RB K cl a0 H O v d) (e : d.toPy = some p) : Dp K H v p := by
  rcases h with h | ⟨a, xs, k, e1, e2, e3, e4⟩
  · exact R.py (R.mono Keep.sub (Le.refl _) h) e
  · subst e1 e2
    have e' : (D.toPys k).map PyData.list = some p := e
    obtain ⟨m, h1, h2⟩ := Option.map_eq_some_iff.mp e'
    subst h2
    exact .lst (SqL.of e3) (Rs.py (Rs.mono Keep.sub (Le.refl _) e4) h1)
/-- a new tuple, a new list -/
theorem R.newT {p : Addr} {xs : List V} {l : List D} (ha : ∀ a, O a → H a ≠ none) (hp : H p = none) (h : Rs K cl a0 (minus H O) xs l) : R K cl a0 (minus (upd H p (.tup xs)) O) (V.ref p) (.tup l) :=
  .tup (minus_some.mpr ⟨fun z => ha p z hp, upd_same⟩) (h.mono (ext_minus (Ext.same (a1 := a0) (same_new hp))) (Le.refl _))
theorem R.newL {p : Addr} {xs : List V} {l : List D} (ha : ∀ a, O a → H a ≠ none) (hp : H p = none) (h : Rs K cl a0 (minus H O) xs l) : R K cl a0 (minus (upd H p (.lst xs)) O) (V.ref p) (.lst l) :=
  .lst (minus_some.mpr ⟨fun z => ha p z hp, upd_same⟩) (h.mono (ext_minus (Ext.same (a1 := a0) (same_new hp))) (Le.refl _))

/-! ### two operands -/
theorem fits_mul {a b : Int} (h : (fits a && fits b) = true) : IntMulOk a b := by
  rw [Bool.and_eq_true] at h
  have h1 : a.natAbs.log2 < 60000000 := of_decide_eq_true h.1
  have h2 : b.natAbs.log2 < 60000000 := of_decide_eq_true h.2
  have bb : ∀ x : Int, Builtin.Int.intBits x ≤ x.natAbs.log2 + 1 := fun x => by
    unfold Builtin.Int.intBits
    split <;> omega
  have e1 := bb a
  have e2 := bb b
  have e : bitsLine = 134217728 := by decide
  unfold IntMulOk
  intro z
  rw [Bool.and_eq_true] at z
  have z2 := z.2
  unfold Builtin.Int.intTooBig at z2
  have z3 := of_decide_eq_true z2
  rw [e] at z3
  omega
theorem op_mulF : OpR X (binaryOp .Mult) (rI (fun i j => (fits i && fits j) = true) fun i j => .int (i * j)) := opI fun _ _ _ _ _ _ _ hc q => mul_int q (fits_mul hc)
/-- a long division finds its room -/
def Pyl (X : Cx) : Prop := ∀ (pins : List (Addr × Obj)) (σ : L2.St) (H : Hp) (s : Shared), Inv X pins σ H s → PySem.PylongRoom (model X.prog X.w) X.A s
structure Seer (X : Cx) : Prop where
  base : X.base.NoSeer
  tree : X.prog.given.tree = none
  stk : ∃ env l, X.stack = env :: l ∧ env.scope.isGenerator = false ∧ env.scope.isCoroutine = false ∧ env.builtins = builtinsNs ∧ env.globals = mainGlobals
  dp : X.A.depth + 100 < recursionLimit
theorem Seer.pl {X : Cx} (h : Seer X) : Pyl X := fun pins σ H s I => by
  obtain ⟨env, l, e1, e2, e3, e4, e5⟩ := h.stk
  exact PySem.PylongRoom.of I.nolimit h.dp (PySem.SeerAt.of (h.base.keeps I.bk) h.tree (by rw [I.ok.frames, e1]) e2 e3 e4 e5)
theorem op_fdivF (hp : Pyl X) : OpR X (binaryOp .FloorDiv) (rI (fun _ j => j ≠ 0 ∧ j.natAbs.log2 < 60000000) fun i j => .int (i.fdiv j)) := by
  intro pins s σ H x y v u Q I rx ry h
  obtain ⟨i, j, rfl, rfl, hc, q⟩ := h
  obtain ⟨t, rfl⟩ := rx
  obtain ⟨t', rfl⟩ := ry
  exact floordiv_int hc.1 ⟨.int (i.fdiv j), H, I.tok _, ⟨_, rfl⟩, q⟩ (.inr (hp pins σ H s I))
theorem ite_some {α : Type} {c : Prop} [Decidable c] {x y : α} (h : (if c then some x else none) = some y) : c ∧ x = y := by
  by_cases hc : c
  · rw [if_pos hc] at h; cases h; exact ⟨hc, rfl⟩
  · rw [if_neg hc] at h; cases h
theorem line_eq : line = sizeLine := by rw [sizeLine_eq]; rfl
/-- what an operator asks and gives: r from the data -/
def Does (X : Cx) (cl : Addr) (f : Value → Value → Sem Value) (x y z : D) : Prop :=
  ∃ r : R2, OpR X f r ∧ ∀ (v u : V) (H : Hp) (O : AS) (a0 : Option Addr) (Q : VK), RB X.K cl a0 H O v x → RB X.K cl a0 H O u y → (∀ a, O a → H a ≠ none) → (∀ w H', Same H H' → R X.K cl a0 (minus H' O) w z → Q w H') → r v u H Q
theorem Does.val {f : Value → Value → Sem Value} {x y z : D} {w : V} {r : R2} (ho : OpR X f r) (hw : ∀ (K : PySem.W.Frag) (cl : Addr) (a0 : Option Addr) (H : Hp), R K cl a0 H w z)
    (h : ∀ (v u : V) (H : Hp) (O : AS) (a0 : Option Addr) (Q : VK), RB X.K cl a0 H O v x → RB X.K cl a0 H O u y → Q w H → r v u H Q) : Does X cl f x y z :=
  ⟨r, ho, fun v u H O a0 Q h1 h2 _ q => h v u H O a0 Q h1 h2 (q w H (Same.refl H) (hw _ _ _ _))⟩
theorem Does.ii {f : Value → Value → Sem Value} {i j : Int} {z : D} {g : Int → Int → V} (ho : OpR X f (rI0 g)) (hw : ∀ (K : PySem.W.Frag) (cl : Addr) (a0 : Option Addr) (H : Hp), R K cl a0 H (g i j) z) : Does X cl f (.int i) (.int j) z :=
  .val ho hw fun v u H O a0 Q h1 h2 q => ⟨i, j, h1.int, h2.int, q⟩
theorem Does.iiC {f : Value → Value → Sem Value} {i j : Int} {z : D} {c : Int → Int → Prop} {g : Int → Int → V} (ho : OpR X f (rI c g)) (hc : c i j) (hw : ∀ (K : PySem.W.Frag) (cl : Addr) (a0 : Option Addr) (H : Hp), R K cl a0 H (g i j) z) : Does X cl f (.int i) (.int j) z :=
  .val ho hw fun v u H O a0 Q h1 h2 q => ⟨i, j, h1.int, h2.int, hc, q⟩
theorem op_does (hp : Pyl X) {op : Operator} {x y z : D} (h : opD op x y = some z) : Does X cl (binaryOp op) x y z := by
  unfold opD at h
  split at h
  · cases h; exact .ii op_add fun _ _ _ _ => .int _
  · obtain ⟨hl, rfl⟩ := ite_some h
    rename_i a b
    refine ⟨_, op_catA, fun v u H O a0 Q h1 h2 ha q => ?_⟩
    obtain ⟨p1, xs, rfl, n1, e1, r1⟩ := h1.tup
    obtain ⟨p2, ys, rfl, n2, e2, r2⟩ := h2.tup
    have z1 := r1.length
    have z2 := r2.length
    have z3 : line = sizeLine := line_eq
    refine ⟨p1, p2, xs, ys, rfl, rfl, SqT.of e1, SqT.of e2, by omega, fun hx => ?_, fun hx hy => ?_, fun hx hy p hp => ?_⟩
    · subst hx
      cases r1
      exact q _ _ (Same.refl H) (.tup (minus_some.mpr ⟨n2, e2⟩) r2)
    · subst hy
      cases r2
      rw [List.append_nil] at q
      exact q _ _ (Same.refl H) (.tup (minus_some.mpr ⟨n1, e1⟩) r1)
    · exact q _ _ (same_new hp) (R.newT ha hp (r1.append r2))
  · obtain ⟨hl, rfl⟩ := ite_some h
    rename_i a b
    refine ⟨_, op_cat, fun v u H O a0 Q h1 h2 ha q => ?_⟩
    obtain ⟨p1, xs, rfl, e1, r1⟩ := h1.lst
    obtain ⟨p2, ys, rfl, e2, r2⟩ := h2.lst
    have z1 := r1.length
    have z2 := r2.length
    have z3 : line = sizeLine := line_eq
    exact ⟨p1, p2, xs, ys, rfl, rfl, e1, e2, by omega, fun p hp => q _ _ (same_new hp) (R.newL ha hp (r1.append r2))⟩
  · cases h; exact .ii op_sub fun _ _ _ _ => .int _
  · obtain ⟨hc, rfl⟩ := ite_some h
    exact .iiC op_mulF hc fun _ _ _ _ => .int _
  · obtain ⟨hc, rfl⟩ := ite_some h
    exact .iiC (op_fdivF hp) hc fun _ _ _ _ => .int _
  · obtain ⟨hc, rfl⟩ := ite_some h
    exact .iiC op_modN hc fun _ _ _ _ => .int _
  · obtain ⟨hc, rfl⟩ := ite_some h
    exact .iiC op_pow hc fun _ _ _ _ => .int _
  · cases h
theorem op_isB : OpR X (compareOp .Is) (fun x y H Q => ∃ a b, x = V.bl a ∧ y = V.bl b ∧ Q (.bl (a == b)) H) := by
  intro pins s σ H x y v u Q I rx ry h
  obtain ⟨a, b, rfl, rfl, q⟩ := h
  cases rx
  cases ry
  exact is_bool ⟨.bl _, H, I, rfl, q⟩
theorem op_isnB : OpR X (compareOp .IsNot) (fun x y H Q => ∃ a b, x = V.bl a ∧ y = V.bl b ∧ Q (.bl (!(a == b))) H) := by
  intro pins s σ H x y v u Q I rx ry h
  obtain ⟨a, b, rfl, rfl, q⟩ := h
  cases rx
  cases ry
  exact isnot_bool ⟨.bl _, H, I, rfl, q⟩
theorem inV_ints (i : Int) : ∀ l : List Int, inV (V.int i) (l.map V.int) = l.any fun z => decide (z = i)
  | [] => rfl
  | a :: r => by
    have h : inV (V.int i) ((a :: r).map V.int) = (eqV (V.int a) (V.int i) || inV (V.int i) (r.map V.int)) := rfl
    rw [h, inV_ints i r, List.any_cons]
    have h2 : eqV (V.int a) (V.int i) = (a == i) := rfl
    rw [h2]
    rfl
theorem flat_ints : ∀ l : List Int, (l.map V.int).all flatV = true
  | [] => rfl
  | _ :: r => flat_ints r
theorem eqD_inv {x y : D} {b : Bool} (h : eqD x y = some b) : ∃ p q, x.toPy = some p ∧ y.toPy = some q ∧ SeqAt.shaped p = true ∧ SeqAt.shaped q = true ∧ b = PyData.eqv p q := by
  unfold eqD at h
  cases h1 : x.toPy with
  | none => rw [h1] at h; cases h
  | some p =>
    cases h2 : y.toPy with
    | none => rw [h1, h2] at h; cases h
    | some q =>
      rw [h1, h2] at h
      obtain ⟨hs, e⟩ := ite_some h
      rw [Bool.and_eq_true] at hs
      exact ⟨p, q, rfl, rfl, hs.1, hs.2, e.symm⟩
theorem wb (c : Bool) (K : PySem.W.Frag) (cl : Addr) (a0 : Option Addr) (H : Hp) : R K cl a0 H (V.bl c) (D.bl c) := .bl c
theorem in_does (hu : X.A.units + 65 < cLine) {x y : D} {c : Bool} (h : inD x y = some c) : Does X cl (compareOp .In) x y (.bl c) ∧ Does X cl (compareOp .NotIn) x y (.bl (!c)) := by
  cases y with
  | lst l =>
    unfold inD at h
    dsimp only at h
    cases h1 : x.toPy with
    | none => rw [h1] at h; cases h
    | some p =>
      cases h2 : D.toPys l with
      | none => rw [h1, h2] at h; cases h
      | some q =>
        rw [h1, h2] at h
        obtain ⟨hs, e⟩ := ite_some h
        rw [Bool.and_eq_true] at hs
        have h2' : (D.lst l).toPy = some (.list q) := by
          show (D.toPys l).map PyData.list = _
          rw [h2]; rfl
        subst e
        exact ⟨.val (op_inD hu) (wb _) fun v u H O a0 Q r1 r2 k => ⟨p, q, r1.py h1, r2.py h2', hs.1, hs.2, k⟩, .val (op_notInD hu) (wb _) fun v u H O a0 Q r1 r2 k => ⟨p, q, r1.py h1, r2.py h2', hs.1, hs.2, k⟩⟩
  | tup l =>
    unfold inD at h
    cases x with
    | int i =>
      dsimp only at h
      cases h2 : asInts l with
      | none => rw [h2] at h; cases h
      | some q =>
        rw [h2] at h
        cases h
        refine ⟨.val op_in_seq (wb _) fun v u H O a0 Q r1 r2 k => ?_, .val op_notIn_seq (wb _) fun v u H O a0 Q r1 r2 k => ?_⟩
        · obtain ⟨p, xs, rfl, _, e, rr⟩ := r2.tup
          have ex := rr.asInts h2
          subst ex
          rw [r1.int]
          refine ⟨p, _, rfl, .inr (SqT.of e), rfl, flat_ints _, ?_⟩
          rw [inV_ints]; exact k
        · obtain ⟨p, xs, rfl, _, e, rr⟩ := r2.tup
          have ex := rr.asInts h2
          subst ex
          rw [r1.int]
          refine ⟨p, _, rfl, .inr (SqT.of e), rfl, flat_ints _, ?_⟩
          rw [inV_ints]; exact k
    | _ => cases h
  | _ => cases h
theorem is_none_does {x : D} (hx : ∀ (v : V) (H : Hp) (O : AS) (a0 : Option Addr), RB X.K cl a0 H O v x → v ≠ V.non) : Does X cl (compareOp .Is) x .non (.bl false) ∧ Does X cl (compareOp .IsNot) x .non (.bl (!false)) := by
  refine ⟨.val op_isN (wb _) fun v u H O a0 Q r1 r2 k => ⟨r2.non, ?_⟩, .val op_notN (wb _) fun v u H O a0 Q r1 r2 k => ⟨r2.non, ?_⟩⟩
  · rw [decide_eq_false (hx _ _ _ _ r1)]; exact k
  · rw [decide_eq_false (hx _ _ _ _ r1)]; exact k
theorem is_does {x y : D} {c : Bool} (h : isD x y = some c) : Does X cl (compareOp .Is) x y (.bl c) ∧ Does X cl (compareOp .IsNot) x y (.bl (!c)) := by
  cases y with
  | non =>
    cases x with
    | non =>
      cases h
      refine ⟨.val op_isN (wb _) fun v u H O a0 Q r1 r2 k => ⟨r2.non, ?_⟩, .val op_notN (wb _) fun v u H O a0 Q r1 r2 k => ⟨r2.non, ?_⟩⟩
      · rw [r1.non]; exact k
      · rw [r1.non]; exact k
    | scr l => cases h
    | _ =>
      cases h
      refine is_none_does fun v H O a0 r e => ?_
      subst e
      rcases r with r | ⟨_, _, _, e1, _⟩
      · cases r
      · cases e1
  | bl b =>
    cases x with
    | bl a =>
      cases h
      exact ⟨.val op_isB (wb _) fun v u H O a0 Q r1 r2 k => ⟨_, _, r1.bl, r2.bl, k⟩, .val op_isnB (wb _) fun v u H O a0 Q r1 r2 k => ⟨_, _, r1.bl, r2.bl, k⟩⟩
    | _ => cases h
  | _ => cases x <;> cases h
theorem cmp_does (hu : X.A.units + 65 < cLine) {op : CmpOp} {x y : D} {b : Bool} (h : cmpD op x y = some b) : Does X cl (compareOp op) x y (.bl b) := by
  cases op with
  | Eq =>
    obtain ⟨p, q, h1, h2, s1, s2, rfl⟩ := eqD_inv h
    exact .val (op_eqD (by omega)) (wb _) fun v u H O a0 Q r1 r2 k => ⟨p, q, r1.py h1, r2.py h2, s1, s2, k⟩
  | NotEq =>
    have h : (eqD x y).map (!·) = some b := h
    obtain ⟨c, hc, rfl⟩ := Option.map_eq_some_iff.mp h
    obtain ⟨p, q, h1, h2, s1, s2, rfl⟩ := eqD_inv hc
    exact .val (op_neD (by omega)) (wb _) fun v u H O a0 Q r1 r2 k => ⟨p, q, r1.py h1, r2.py h2, s1, s2, k⟩
  | In => exact (in_does hu h).1
  | NotIn =>
    have h : (inD x y).map (!·) = some b := h
    obtain ⟨c, hc, rfl⟩ := Option.map_eq_some_iff.mp h
    exact (in_does hu hc).2
  | Is => exact (is_does h).1
  | IsNot =>
    have h : (isD x y).map (!·) = some b := h
    obtain ⟨c, hc, rfl⟩ := Option.map_eq_some_iff.mp h
    exact (is_does hc).2
  | Lt =>
    cases x with
    | int i => cases y with
      | int j => cases h; exact .ii op_lt fun _ _ _ _ => .bl _
      | _ => cases h
    | _ => cases h
  | LtE =>
    cases x with
    | int i => cases y with
      | int j => cases h; exact .ii op_le fun _ _ _ _ => .bl _
      | _ => cases h
    | _ => cases h
  | Gt =>
    cases x with
    | int i => cases y with
      | int j => cases h; exact .ii op_gt fun _ _ _ _ => .bl _
      | _ => cases h
    | _ => cases h
  | GtE =>
    cases x with
    | int i => cases y with
      | int j => cases h; exact .ii op_ge fun _ _ _ _ => .bl _
      | _ => cases h
    | _ => cases h
end
end CH

set_option maxRecDepth 100000
set_option maxHeartbeats 4000000
/-! Built-in functions of values that tell data. -/
namespace CH
open PySem PySem.Spec PyProof.Rows L2

inductive RBs (K : PySem.W.Frag) (cl : Addr) (a0 : Option Addr) (H : Hp) (O : AS) : List V → List D → Prop
  | nil : RBs K cl a0 H O [] []
  | cons {v : V} {vs : List V} {d : D} {ds : List D} : RB K cl a0 H O v d → RBs K cl a0 H O vs ds → RBs K cl a0 H O (v :: vs) (d :: ds)
section
variable {K : PySem.W.Frag} {cl : Addr} {a0 a1 : Option Addr} {H H' : Hp} {O : AS} {v u : V} {d : D} {X : Cx}
theorem RBs.ext (e : Ext a1 H H') (l : Le a0 a1) : ∀ {vs : List V} {ds : List D}, RBs K cl a0 H O vs ds → RBs K cl a1 H' O vs ds
  | _, _, .nil => .nil
  | _, _, .cons h t => .cons (h.ext e l) (RBs.ext e l t)
theorem RBs.one {vs : List V} {d : D} (h : RBs K cl a0 H O vs [d]) : ∃ v, vs = [v] ∧ RB K cl a0 H O v d := by
  cases h with
  | cons h t => cases t; exact ⟨_, rfl, h⟩
theorem RBs.two {vs : List V} {d e : D} (h : RBs K cl a0 H O vs [d, e]) : ∃ v u, vs = [v, u] ∧ RB K cl a0 H O v d ∧ RB K cl a0 H O u e := by
  cases h with
  | cons h t =>
    cases t with
    | cons h2 t => cases t; exact ⟨_, _, rfl, h, h2⟩

/-- how a built-in's value is called -/
def Blt (f : Value) : Prop := (∃ id, f = .builtin id) ∨ ∃ T, f = .type T
def CDoes (X : Cx) (cl : Addr) (f : Value) (ds : List D) (d : D) : Prop :=
  ∃ r : List V → Hp → VK → Prop, CallR X f r ∧ ∀ (vs : List V) (H : Hp) (O : AS) (a0 : Option Addr) (Q : VK), RBs X.K cl a0 H O vs ds → (∀ a, O a → H a ≠ none) → (∀ w H', Same H H' → R X.K cl a0 (minus H' O) w d → Q w H') → r vs H Q
theorem CDoes.val {f : Value} {ds : List D} {d : D} {w : V} {r : List V → Hp → VK → Prop} (ho : CallR X f r) (hw : ∀ (K : PySem.W.Frag) (cl : Addr) (a0 : Option Addr) (H : Hp), R K cl a0 H w d)
    (h : ∀ (vs : List V) (H : Hp) (O : AS) (a0 : Option Addr) (Q : VK), RBs X.K cl a0 H O vs ds → Q w H → r vs H Q) : CDoes X cl f ds d :=
  ⟨r, ho, fun vs H O a0 Q h1 _ q => h vs H O a0 Q h1 (q w H (Same.refl H) (hw _ _ _ _))⟩
/-! ### sorted -/
open PySem.W in
def encD (d : D) : PyData := (d.toPy).getD .none
open PySem.W in
def rSortD (K : PySem.W.Frag) : List V → Hp → VK → Prop := fun vs H Q => ∃ (a : Addr) (ps : List (V × D)), vs = [V.ref a] ∧ SqL K H a (ps.map (·.1)) ∧ (∀ x ∈ ps, Dp K H x.1 (encD x.2)) ∧
  AllAlike (ps.map fun x => encD x.2) ∧ Sortable (ps.map fun x => encD x.2) ∧ (∀ x ∈ ps, (encD x.2).depth ≤ 60) ∧ ps.length ≤ sizeLine ∧
  ∀ p, H p = none → Q (.ref p) (upd H p (.lst ((ps.mergeSort (dataLe false fun x => encD x.2)).map (·.1))))
theorem each_of_vals {F : V × D → Value → Prop} : ∀ {ps : List (V × D)} {us : List Value}, Vals (ps.map (·.1)) us → (∀ x ∈ ps, ∀ u, RelV x.1 u → F x u) → PySem.W.EachIs (fun u x => F x u) us ps
  | [], us, h, _ => by
    have h : Vals [] us := h
    cases h; exact .nil
  | x :: ps, us, h, f => by
    have h : Vals (x.1 :: ps.map (·.1)) us := h
    cases h with
    | cons h1 t => exact .cons (f x List.mem_cons_self _ h1) (each_of_vals t fun y hy => f y (List.mem_cons_of_mem _ hy))
theorem vals_of_each : ∀ {ps : List (V × D)} {us : List Value}, PySem.W.EachIs (fun u (x : V × D) => RelV x.1 u) us ps → Vals (ps.map (·.1)) us
  | _, _, .nil => .nil
  | _, _, .cons h t => .cons h (vals_of_each t)
theorem call_sortD {X : Cx} (hu : X.A.units + 100 < cLine) : CallR X (.builtin "sorted") (rSortD X.K) := by
  intro pins s σ H vs us Q I r h
  obtain ⟨a, ps, rfl, hs, hd, ha, hk, hdp, hz, q⟩ := h
  obtain ⟨its, rv, hl, hz'⟩ := I.list hs
  rw [Vals.ref1 r]
  have e1 : PySem.W.EachIs (fun u (x : V × D) => RelV x.1 u) its ps := each_of_vals rv fun _ _ _ h => h
  have e2 : PySem.W.EachIs (fun u (x : V × D) => ∃ as, Reads s.heap u (encD x.2) as) its ps := each_of_vals (F := fun x u => ∃ as, Reads s.heap u (encD x.2) as) rv fun x hx u hr => Dp.reads I _ _ _ (hd x hx) hr
  refine PySem.W.sorted_data (enc := fun x : V × D => encD x.2) hl.isList e1 e2 ha hk hz (fun x hx => by have := hdp x hx; omega) fun out ho he => ?_
  obtain ⟨ep, he'⟩ := PyProof.Rows.sortedAll_at s.heap its out.toArray
  have hlen : ((ps.mergeSort (PySem.W.dataLe false fun x => encD x.2)).map (·.1)).length ≤ sizeLine := by
    rw [List.length_map, List.length_mergeSort]; exact hz
  exact ⟨.ref _, upd H (s.heap.objs.size + 1) (.lst ((ps.mergeSort (PySem.W.dataLe false fun x => encD x.2)).map (·.1))), I.laid (t' := s.toks) (fun _ _ => PyProof.Rows.sortedAll_old) (Nat.le_succ _) ⟨hlen, out, ep, vals_of_each he, he'⟩, rfl, q _ (I.hok.fresh (Nat.le_succ _))⟩
theorem Rs.zip_fst {K : PySem.W.Frag} {cl : Addr} {a0 : Option Addr} {H : Hp} : ∀ {vs : List V} {ds : List D}, Rs K cl a0 H vs ds → (vs.zip ds).map (·.1) = vs ∧ (vs.zip ds).map (·.2) = ds ∧ ∀ x ∈ vs.zip ds, R K cl a0 H x.1 x.2
  | _, _, .nil => ⟨rfl, rfl, fun _ h => nomatch h⟩
  | _, _, .cons h t => by
    obtain ⟨h1, h2, h3⟩ := Rs.zip_fst t
    refine ⟨by rw [List.zip_cons_cons, List.map_cons, h1], by rw [List.zip_cons_cons, List.map_cons, h2], fun x hx => ?_⟩
    rw [List.zip_cons_cons] at hx
    rcases List.mem_cons.mp hx with rfl | hx
    · exact h
    · exact h3 x hx
theorem Rs.of_zip {K : PySem.W.Frag} {cl : Addr} {a0 : Option Addr} {H : Hp} : ∀ {ps : List (V × D)}, (∀ x ∈ ps, R K cl a0 H x.1 x.2) → Rs K cl a0 H (ps.map (·.1)) (ps.map (·.2))
  | [], _ => .nil
  | x :: ps, h => .cons (h x List.mem_cons_self) (Rs.of_zip fun y hy => h y (List.mem_cons_of_mem _ hy))
theorem toPys_each : ∀ {l : List D} {ps : List PyData}, D.toPys l = some ps → l.map encD = ps ∧ ∀ d ∈ l, d.toPy = some (encD d)
  | [], _, h => by cases h; exact ⟨rfl, fun _ h => nomatch h⟩
  | d :: l, ps, h => by
    have h : (match D.toPy d, D.toPys l with
      | some p, some q => some (p :: q)
      | _, _ => none) = some ps := h
    cases h1 : D.toPy d with
    | none => rw [h1] at h; cases h
    | some p =>
      rw [h1] at h
      cases h2 : D.toPys l with
      | none => rw [h2] at h; cases h
      | some q =>
        rw [h2] at h
        cases h
        obtain ⟨e1, e2⟩ := toPys_each h2
        have e : encD d = p := by unfold encD; rw [h1]; rfl
        refine ⟨by rw [List.map_cons, e, e1], fun x hx => ?_⟩
        rcases List.mem_cons.mp hx with rfl | hx
        · rw [e]; exact h1
        · exact e2 x hx
theorem sortable_of {ps : List PyData} (h : sortable ps = true) : PySem.W.Sortable ps := by
  unfold sortable at h
  rw [Bool.or_eq_true, List.all_eq_true, List.all_eq_true] at h
  rcases h with h | h
  · refine .inl fun d hd => ?_
    have := h d hd
    split at this
    · exact ⟨_, _, rfl⟩
    · cases this
  · refine .inr fun d hd => ?_
    have := h d hd
    split at this
    · cases this
    · cases this
    · rename_i h1 h2
      exact ⟨h1, h2⟩
theorem sort_does {X : Cx} {cl : Addr} (hu : X.A.units + 100 < cLine) {l l' : List D} (h : sortD l = some l') : CDoes X cl (.builtin "sorted") [.lst l] (.lst l') := by
  unfold sortD at h
  cases hp : D.toPys l with
  | none => rw [hp] at h; cases h
  | some ps =>
    rw [hp] at h
    dsimp only at h
    split at h
    · rename_i hc
      cases h
      simp only [Bool.and_eq_true] at hc
      obtain ⟨⟨⟨c1, c2⟩, c3⟩, c4⟩ := hc
      obtain ⟨e1, e2⟩ := toPys_each hp
      refine ⟨_, call_sortD hu, fun vs H O a0 Q hv ha q => ?_⟩
      obtain ⟨v, rfl, hw⟩ := hv.one
      obtain ⟨p, xs, rfl, e, rr⟩ := hw.lst
      obtain ⟨z1, z2, z3⟩ := rr.zip_fst
      have hmap : (xs.zip l).map (fun x => encD x.2) = ps := by rw [← e1, ← z2, List.map_map, z2]; rfl
      have hml : ∀ x ∈ xs.zip l, x.2 ∈ l := fun x hx => by
        have : x.2 ∈ (xs.zip l).map (·.2) := List.mem_map.mpr ⟨x, hx, rfl⟩
        rwa [z2] at this
      refine ⟨p, xs.zip l, rfl, by rw [z1]; exact SqL.of e, fun x hx => ?_, by rw [hmap]; exact fun d hd d' hd' => List.all_eq_true.mp (List.all_eq_true.mp c1 d hd) d' hd', by rw [hmap]; exact sortable_of c2, fun x hx => ?_, ?_, fun p' hp' => ?_⟩
      · have h1 := (z3 x hx)
        exact (R.mono (Keep.sub (O := O)) (Le.refl _) h1).py (e2 x.2 (hml x hx))
      · have : encD x.2 ∈ ps := by rw [← hmap]; exact List.mem_map.mpr ⟨x, hx, rfl⟩
        exact of_decide_eq_true (List.all_eq_true.mp c3 _ this)
      · have h1 : (xs.zip l).length = ps.length := by rw [← hmap, List.length_map]
        have h2 := of_decide_eq_true c4
        have : line = sizeLine := line_eq
        omega
      · have hs : ((xs.zip l).mergeSort (PySem.W.dataLe false fun x => encD x.2)).map (·.2) = l.mergeSort leD := by
          rw [List.map_mergeSort (s := leD) (fun a ha b hb => ?_), z2]
          have ea := e2 a.2 (hml a ha)
          have eb := e2 b.2 (hml b hb)
          unfold leD
          rw [ea, eb]
          rfl
        refine q _ _ (same_new hp') ?_
        rw [← hs]
        exact R.newL ha hp' (Rs.of_zip fun x hx => z3 x (List.mem_mergeSort.mp hx))
    · cases h
theorem blt_does (hu : X.A.units + 100 < cLine) (hc : X.calm = true) {g : Str} {ds : List D} {d : D} (h : bltD g ds = some d) :
    (g ≠ ("__name__" : Str) ∧ (g == ("__debug__" : Str)) = false) ∧ ∃ f, bootBuiltins g = some f ∧ Blt f ∧ CDoes X cl f ds d := by
  have wi : ∀ (i : Int) (K : PySem.W.Frag) (cl : Addr) (a0 : Option Addr) (H : Hp), R K cl a0 H (V.int i) (D.int i) := fun i _ _ _ _ => .int i
  unfold bltD at h
  split at h
  · rename_i e
    subst e
    refine ⟨⟨by decide, by decide⟩, .builtin "abs", by decide +kernel, .inl ⟨_, rfl⟩, ?_⟩
    split at h
    · cases h
      rename_i i
      exact .val call_abs (wi _) fun vs H O a0 Q hv q => by
        obtain ⟨v, rfl, hw⟩ := hv.one
        exact ⟨i, by rw [hw.int], q⟩
    · cases h
  split at h
  · rename_i e
    subst e
    refine ⟨⟨by decide, by decide⟩, .builtin "len", by decide +kernel, .inl ⟨_, rfl⟩, ?_⟩
    split at h
    · cases h
      exact .val call_len_seq (wi _) fun vs H O a0 Q hv q => by
        obtain ⟨v, rfl, hw⟩ := hv.one
        obtain ⟨p, xs, rfl, _, e, rr⟩ := hw.tup
        exact ⟨p, xs, rfl, .inr (SqT.of e), by rw [rr.length]; exact q⟩
    · cases h
      exact .val call_len_seq (wi _) fun vs H O a0 Q hv q => by
        obtain ⟨v, rfl, hw⟩ := hv.one
        obtain ⟨p, xs, rfl, e, rr⟩ := hw.lst
        exact ⟨p, xs, rfl, .inl (SqL.of e), by rw [rr.length]; exact q⟩
    · cases h
      exact .val call_len_seq (wi _) fun vs H O a0 Q hv q => by
        obtain ⟨v, rfl, hw⟩ := hv.one
        obtain ⟨p, rfl, e, _⟩ := hw.scr
        exact ⟨p, _, rfl, .inl e.seq, by rw [List.length_map]; exact q⟩
    · cases h
  split at h
  · rename_i e
    subst e
    refine ⟨⟨by decide, by decide⟩, .type "tuple", by decide +kernel, .inr ⟨_, rfl⟩, ?_⟩
    split at h
    · cases h
      refine ⟨_, call_tuple_of, fun vs H O a0 Q hv ha q => ?_⟩
      obtain ⟨v, rfl, hw⟩ := hv.one
      obtain ⟨p, xs, rfl, n, e, rr⟩ := hw.tup
      exact ⟨p, xs, rfl, .inr ⟨SqT.of e, q _ _ (Same.refl H) (.tup (minus_some.mpr ⟨n, e⟩) rr)⟩⟩
    · cases h
      refine ⟨_, call_tuple_of, fun vs H O a0 Q hv ha q => ?_⟩
      obtain ⟨v, rfl, hw⟩ := hv.one
      obtain ⟨p, xs, rfl, e, rr⟩ := hw.lst
      exact ⟨p, xs, rfl, .inl ⟨SqL.of e, fun l hl => q _ _ (same_new hl) (R.newT ha hl rr)⟩⟩
    · cases h
  split at h
  · rename_i e
    subst e
    refine ⟨⟨by decide, by decide⟩, .type "list", by decide +kernel, .inr ⟨_, rfl⟩, ?_⟩
    split at h
    · cases h
      refine ⟨_, call_list_of, fun vs H O a0 Q hv ha q => ?_⟩
      obtain ⟨v, rfl, hw⟩ := hv.one
      obtain ⟨p, xs, rfl, n, e, rr⟩ := hw.tup
      exact ⟨p, xs, rfl, .inr (SqT.of e), fun l hl => q _ _ (same_new hl) (R.newL ha hl rr)⟩
    · cases h
      refine ⟨_, call_list_of, fun vs H O a0 Q hv ha q => ?_⟩
      obtain ⟨v, rfl, hw⟩ := hv.one
      obtain ⟨p, xs, rfl, e, rr⟩ := hw.lst
      exact ⟨p, xs, rfl, .inl (SqL.of e), fun l hl => q _ _ (same_new hl) (R.newL ha hl rr)⟩
    · cases h
  split at h
  · rename_i e
    subst e
    refine ⟨⟨by decide, by decide⟩, .type "int", by decide +kernel, .inr ⟨_, rfl⟩, ?_⟩
    split at h
    · cases h
      rename_i i
      exact .val call_int1 (wi _) fun vs H O a0 Q hv q => by
        obtain ⟨v, rfl, hw⟩ := hv.one
        exact .inl ⟨i, by rw [hw.int], q⟩
    · cases h
      rename_i b
      exact .val call_int1 (wi _) fun vs H O a0 Q hv q => by
        obtain ⟨v, rfl, hw⟩ := hv.one
        exact .inr ⟨b, by rw [hw.bl], q⟩
    · cases h
  split at h
  · rename_i e
    subst e
    refine ⟨⟨by decide, by decide⟩, .builtin "sum", by decide +kernel, .inl ⟨_, rfl⟩, ?_⟩
    split at h
    · obtain ⟨m, h1, rfl⟩ := Option.map_eq_some_iff.mp h
      exact .val (cr_sum hc) (wi _) fun vs H O a0 Q hv q => by
        obtain ⟨v, rfl, hw⟩ := hv.one
        obtain ⟨p, xs, rfl, e, rr⟩ := hw.lst
        have ex := rr.asInts h1
        subst ex
        exact ⟨p, m, rfl, SqL.of e, q⟩
    · cases h
  split at h
  · rename_i e
    subst e
    refine ⟨⟨by decide, by decide⟩, .builtin "all", by decide +kernel, .inl ⟨_, rfl⟩, ?_⟩
    split at h
    · obtain ⟨m, h1, rfl⟩ := Option.map_eq_some_iff.mp h
      exact .val (cr_all hc) (wb _) fun vs H O a0 Q hv q => by
        obtain ⟨v, rfl, hw⟩ := hv.one
        obtain ⟨p, xs, rfl, e, rr⟩ := hw.lst
        have ex := rr.asBls h1
        subst ex
        exact ⟨p, m, rfl, SqL.of e, q⟩
    · cases h
  split at h
  · rename_i e
    subst e
    refine ⟨⟨by decide, by decide⟩, .builtin "any", by decide +kernel, .inl ⟨_, rfl⟩, ?_⟩
    split at h
    · obtain ⟨m, h1, rfl⟩ := Option.map_eq_some_iff.mp h
      exact .val (cr_any hc) (wb _) fun vs H O a0 Q hv q => by
        obtain ⟨v, rfl, hw⟩ := hv.one
        obtain ⟨p, xs, rfl, e, rr⟩ := hw.lst
        have ex := rr.asBls h1
        subst ex
        exact ⟨p, m, rfl, SqL.of e, q⟩
    · cases h
  split at h
  · rename_i e
    subst e
    refine ⟨⟨by decide, by decide⟩, .builtin "max", by decide +kernel, .inl ⟨_, rfl⟩, ?_⟩
    split at h
    · cases h
      rename_i i j
      exact .val (call_max2 hc) (wi _) fun vs H O a0 Q hv q => by
        obtain ⟨v, u, rfl, h1, h2⟩ := hv.two
        exact ⟨i, j, by rw [h1.int, h2.int], q⟩
    · cases h
  split at h
  · rename_i e
    subst e
    refine ⟨⟨by decide, by decide⟩, .builtin "sorted", by decide +kernel, .inl ⟨_, rfl⟩, ?_⟩
    split at h
    · cases h
    · obtain ⟨m, h1, rfl⟩ := Option.map_eq_some_iff.mp h
      exact sort_does hu h1
    · cases h
  · cases h
theorem ty_of {O : AS} {d : D} {y : String} (h : tyD d = some y) (r : R K cl a0 (minus H O) v d) : TyX K H v (.type y) := by
  cases d with
  | non => cases h; cases r; exact .base .non
  | bl b => cases h; cases r; exact .base (.bl b)
  | int i => cases h; cases r; exact .base (.int i)
  | str s => cases h; cases r; exact .base (.str s)
  | tup l =>
    cases h
    cases r with
    | tup h1 _ => exact .base (.tup (minus_some.mp h1).2)
  | lst l =>
    cases h
    cases r with
    | lst h1 _ => exact .base (.lst (minus_some.mp h1).2)
  | _ => cases h
end
end CH

set_option maxRecDepth 100000
set_option maxHeartbeats 4000000
/-! Terms: what the evaluator answers, the model answers. -/
namespace CH
open PySem PySem.Spec PyProof.Rows L2

/-- a def's promise, by a function of data -/
def spD (K : PySem.W.Frag) (cl : Addr) (np : Nat) (F : Sm) : Sp := fun vs H Q _ => vs.length = np ∧ ∃ (P : AS) (ds : List D) (s : S) (a0 : Option Addr) (d : D) (s' : S), F ds s = some (d, s') ∧ Rs K cl a0 (minus H P) vs ds ∧ StOk K a0 s (minus H P) ∧
  (∀ a, P a → H a ≠ none) ∧ ∀ v H' a1, Ext a1 H H' → Le a0 a1 → R K cl a1 (minus H' P) v d → StOk K a1 s' (minus H' P) → Q v H'
def inB (l : List Str) (x : Str) : Bool := l.any fun y => decide (y = x)
/-- Body's __init__: four attributes -/
def spI (cl : Addr) : Sp := fun vs H Q _ => ∃ (p dx : Addr) (v1 v2 v3 v4 : V), vs = [.ref p, v1, v2, v3, v4] ∧ H p = some (.ins cl dx []) ∧
  Q .non (upd H p (.ins cl dx [("dim", v1), ("rows", v2), ("corners", v3), ("rays", v4)]))
structure ObOk (K : PySem.W.Frag) (cl : Addr) : Prop where
  c : Cls K cl
  a : NoAttr K cl "dim"
  b : NoAttr K cl "rows"
  d : NoAttr K cl "corners"
  e : NoAttr K cl "rays"
structure Ctx (cl : Addr) (k : Nat) (X : Cx) (c : C) : Prop where
  pl : Seer X
  ks : ∀ x i, c.ks x = some i → ∃ u, X.mg x = some u ∧ RelV (.int i) u
  ob : c.ob = true → ObOk X.K cl
  cls : ∀ x, inB c.cls x = true → ∃ j, j + 1 ≤ k ∧ C8.Mak X.prog X.w X.K X.mg X.base j x cl (spI cl) [] ∧ (x == ("__debug__" : Str)) = false
  mts : ∀ m, inB c.mts m = true → ∃ np, C8.Met X.prog X.w X.K X.mg X.base k cl m (spD X.K cl np (c.Mt m)) [] ∧ (m ≠ ("dim" : Str) ∧ m ≠ ("rows" : Str) ∧ m ≠ ("corners" : Str) ∧ m ≠ ("rays" : Str)) ∧ ∀ ds s y, c.Mt m ds s = some y → ds.length = np
  N : X.N = c.N
  nd : c.N.Nodup
  calm : X.calm = true
  xe : X.xe = fun _ _ => False
  sc : X.env.scope = c.sc
  fn : X.fn = c.fn
  rm : Room k X.A
  bn : ∀ x, inB c.bn x = true → X.mg x = none
  tab : ∀ x, inB c.fns x = true → ∃ f fd ps, X.mg x = some (.ref f) ∧ PySem.W.keepIn X.K (.ref f) = true ∧ Binds X.K fd ps [] ∧ FnOk X.prog X.w X.K X.mg X.base CX0 k f fd ps (spD X.K cl ps.length (c.F x)) ∧ (x == ("__debug__" : Str)) = false ∧ ∀ ds s y, c.F x ds s = some y → ds.length = ps.length

/-! ### what a term's reading is -/
def tX (VR : VRel) (K : PySem.W.Frag) (cl : Addr) (f : Rho → S → Option (D × S)) : TE := fun σ H Q => ∃ (P : AS) (r : Rho) (s : S) (a0 : Option Addr) (d : D) (s' : S), f r s = some (d, s') ∧ Good K cl P r s a0 σ H ∧
  ∀ v H' a1, Good K cl P r s' a1 σ H' → Ext a1 H H' → Le a0 a1 → VR K cl a1 H' (Ow P r σ) v d → Q v H'
def tTt (K : PySem.W.Frag) (cl : Addr) (f : Rho → S → Option (Bool × S)) : TT := fun σ H Q => ∃ (P : AS) (r : Rho) (s : S) (a0 : Option Addr) (b : Bool) (s' : S), f r s = some (b, s') ∧ Good K cl P r s a0 σ H ∧
  ∀ H' a1, Good K cl P r s' a1 σ H' → Ext a1 H H' → Le a0 a1 → Q b H'
/-- of a new list -/
def tF (K : PySem.W.Frag) (cl : Addr) (f : Rho → S → Option (D × S)) : TE := fun σ H Q => ∃ (P : AS) (r : Rho) (s : S) (a0 : Option Addr) (d : D) (s' : S), f r s = some (d, s') ∧ Good K cl P r s a0 σ H ∧
  ∀ p xs l H' a1, Good K cl P r s' a1 σ H' → Ext a1 H H' → Le a0 a1 → d = .lst l → H p = none → H' p = some (.lst xs) → Rs K cl a1 (minus H' (fun a => Ow P r σ a ∨ a = p)) xs l → Q (V.ref p) H'
inductive Vs (VR : VRel) (K : PySem.W.Frag) (cl : Addr) (a0 : Option Addr) (H : Hp) (O : AS) : List V → List D → Prop
  | nil : Vs VR K cl a0 H O [] []
  | cons {v : V} {vs : List V} {d : D} {ds : List D} : VR K cl a0 H O v d → Vs VR K cl a0 H O vs ds → Vs VR K cl a0 H O (v :: vs) (d :: ds)
def tXs (VR : VRel) (K : PySem.W.Frag) (cl : Addr) (f : Rho → S → Option (List D × S)) : TA := fun σ H Q => ∃ (P : AS) (r : Rho) (s : S) (a0 : Option Addr) (ds : List D) (s' : S), f r s = some (ds, s') ∧ Good K cl P r s a0 σ H ∧
  ∀ vs H' a1, Good K cl P r s' a1 σ H' → Ext a1 H H' → Le a0 a1 → Vs VR K cl a1 H' (Ow P r σ) vs ds → Q vs H'

section
variable {cl : Addr} {k : Nat} {X : Cx} {c : C} {e : Expr} {VR : VRel}
theorem mkE {f : Rho → S → Option (D × S)} (h : ∀ (P : AS) (r : Rho) (s : S) (a0 : Option Addr) (d : D) (s' : S) (σ : L2.St) (H : Hp) (Q : VK), f r s = some (d, s') → Good X.K cl P r s a0 σ H →
    (∀ v H' a1, Good X.K cl P r s' a1 σ H' → Ext a1 H H' → Le a0 a1 → VR X.K cl a1 H' (Ow P r σ) v d → Q v H') → ∃ t, PE X e t ∧ t σ H Q) : PE X e (tX VR X.K cl f) :=
  ⟨fun pins s σ H Q I ⟨P, r, s0, a0, d, s', hf, g, q⟩ => let ⟨_, ht, hq⟩ := h P r s0 a0 d s' σ H Q hf g q; ht.run pins s σ H Q I hq⟩
theorem mkF {f : Rho → S → Option (D × S)} (h : ∀ (P : AS) (r : Rho) (s : S) (a0 : Option Addr) (d : D) (s' : S) (σ : L2.St) (H : Hp) (Q : VK), f r s = some (d, s') → Good X.K cl P r s a0 σ H →
    (∀ p xs l H' a1, Good X.K cl P r s' a1 σ H' → Ext a1 H H' → Le a0 a1 → d = .lst l → H p = none → H' p = some (.lst xs) → Rs X.K cl a1 (minus H' (fun a => Ow P r σ a ∨ a = p)) xs l → Q (V.ref p) H') → ∃ t, PE X e t ∧ t σ H Q) : PE X e (tF X.K cl f) :=
  ⟨fun pins s σ H Q I ⟨P, r, s0, a0, d, s', hf, g, q⟩ => let ⟨_, ht, hq⟩ := h P r s0 a0 d s' σ H Q hf g q; ht.run pins s σ H Q I hq⟩
theorem mkT {f : Rho → S → Option (Bool × S)} (h : ∀ (P : AS) (r : Rho) (s : S) (a0 : Option Addr) (b : Bool) (s' : S) (σ : L2.St) (H : Hp) (Q : Bool → Hp → Prop), f r s = some (b, s') → Good X.K cl P r s a0 σ H →
    (∀ H' a1, Good X.K cl P r s' a1 σ H' → Ext a1 H H' → Le a0 a1 → Q b H') → ∃ t, PT X e t ∧ t σ H Q) : PT X e (tTt X.K cl f) :=
  ⟨fun pins s σ H Q I ⟨P, r, s0, a0, d, s', hf, g, q⟩ => let ⟨_, ht, hq⟩ := h P r s0 a0 d s' σ H Q hf g q; ht.run pins s σ H Q I hq⟩
theorem tF.x {K : PySem.W.Frag} {f : Rho → S → Option (D × S)} {σ : L2.St} {H : Hp} {Q : VK} (h : tX RV K cl f σ H Q) : tF K cl f σ H Q := by
  obtain ⟨P, r, s, a0, d, s', hf, g, q⟩ := h
  refine ⟨P, r, s, a0, d, s', hf, g, fun p xs l H' a1 g1 e1 l1 ed hp hp' hr => q _ H' a1 g1 e1 l1 ?_⟩
  subst ed
  have no : ¬ Ow P r σ p := fun z => g.owAlc p z hp
  exact R.lst (minus_some.mpr ⟨no, hp'⟩) (hr.mono (Keep.sub.minus fun a o n _ z => n (.inl z)) (Le.refl _))
theorem fe_of {f : Rho → S → Option (D × S)} (h : PE X e (tF X.K cl f)) : PE X e (tX RV X.K cl f) := ⟨fun pins s σ H Q I q => h.run pins s σ H Q I (tF.x q)⟩
/-- the value itself, no step -/
theorem Good.fin {K : PySem.W.Frag} {P : AS} {r : Rho} {s : S} {a0 : Option Addr} {σ : L2.St} {H : Hp} {Q : VK} {d : D} {v : V} (g : Good K cl P r s a0 σ H)
    (q : ∀ v H' a1, Good K cl P r s a1 σ H' → Ext a1 H H' → Le a0 a1 → VR K cl a1 H' (Ow P r σ) v d → Q v H') (h : VR K cl a0 H (Ow P r σ) v d) : Q v H := q v H a0 g (Ext.refl _ _) (Le.refl _) h

theorem idx_at {N : List Str} {x : Str} {i : Nat} (h : idx N x = some i) : N[i]? = some x := by
  unfold idx at h
  rw [List.findIdx?_eq_some_iff_getElem] at h
  obtain ⟨h1, h2, _⟩ := h
  rw [List.getElem?_eq_getElem h1]
  exact congrArg some (of_decide_eq_true h2)
theorem slot_at (hC : Ctx cl k X c) {x : Str} {i : Nat} (h : slotOf c x = some i) : X.N[i]? = some x ∧ Vis X.env.scope x ∧ (x == ("__debug__" : Str)) = false ∧ (x == ("__classdict__" : Str)) = false := by
  unfold slotOf at h
  split at h
  · rename_i hv
    simp only [Bool.and_eq_true, Bool.not_eq_true', decide_eq_false_iff_not] at hv
    refine ⟨by rw [hC.N]; exact idx_at h, ?_, beq_eq_false_iff_ne.mpr hv.1.2, beq_eq_false_iff_ne.mpr hv.2⟩
    have hv1 := hv.1.1
    unfold visB at hv1
    rw [hC.sc]
    split at hv1
    · rename_i e; exact .inl e
    · rename_i e; exact .inr (.inl e)
    · rename_i e; exact .inr (.inr e)
    · cases hv1
  · cases h
theorem dst_at (hC : Ctx cl k X c) {x : Str} {i : Nat} (h : dstOf c x = some i) : X.N[i]? = some x ∧ Loc X.env.scope x ∧ (X.fn x = true ∨ X.env.scope.names.lookup x = some .local) := by
  unfold dstOf at h
  split at h
  · rename_i hv
    refine ⟨by rw [hC.N]; exact idx_at h, ?_⟩
    unfold locB at hv
    rw [hC.sc]
    split at hv
    · rename_i e; exact ⟨.inl e, .inr e⟩
    · rename_i e; exact ⟨.inr e, .inl (by rw [hC.fn]; exact hv)⟩
    · cases hv
  · cases h
theorem gl_at (hC : Ctx cl k X c) {x : Str} (h : glB c x = true) : Gl X x := by
  unfold glB at h
  show X.env.scope.names.lookup x = _
  rw [hC.sc]
  split at h
  · assumption
  · cases h
theorem blt_at (hC : Ctx cl k X c) {x : Str} (h : bltB c x = true) : Gl X x ∧ X.mg x = none := by
  unfold bltB at h
  rw [Bool.and_eq_true] at h
  exact ⟨gl_at hC h.1, hC.bn x h.2⟩

/-! ### names, constants -/
theorem get_v {r : Rho} {i : Nat} {d : D} (h : getS r i = .v d) : r[i]? = some (Slot.v d) := getS_some h (fun z => nomatch z)
theorem get_own {r : Rho} {i : Nat} {d : List D} (h : getS r i = .own d) : r[i]? = some (Slot.own d) := getS_some h (fun z => nomatch z)
theorem pe_nm (hC : Ctx cl k X c) {x : Str} {pos : Pos} : PE X (.Name x pos) (tX RV X.K cl fun r s => match slotOf c x with
      | some i => match getS r i with
        | .v d => some (d, s)
        | _ => none
      | none => if glB c x && !decide (x = ("__debug__" : Str)) then (c.ks x).map fun i => (.int i, s) else none) := by
  refine mkE fun P r s a0 d s' σ H Q hf g q => ?_
  cases h1 : slotOf c x with
  | none =>
    rw [h1] at hf
    dsimp only at hf
    split at hf
    · rename_i hg
      rw [Bool.and_eq_true, Bool.not_eq_true', decide_eq_false_iff_not] at hg
      obtain ⟨i, hi, e⟩ := Option.map_eq_some_iff.mp hf
      cases e
      obtain ⟨u, hm, hu⟩ := hC.ks x i hi
      exact ⟨_, pe_glob (gl_at hC hg.1) hm hu (beq_eq_false_iff_ne.mpr hg.2), g.fin q (.int i)⟩
    · cases hf
  | some i =>
    rw [h1] at hf
    dsimp only at hf
    cases h2 : getS r i with
    | v d' =>
      rw [h2] at hf
      cases hf
      obtain ⟨n1, n2, n3, n4⟩ := slot_at hC h1
      obtain ⟨v, e1, e2⟩ := g.val i d (get_v h2)
      exact ⟨_, pe_var n1 n2 n3 n4, v, e1, g.fin q e2⟩
    | un => rw [h2] at hf; cases hf
    | own _ => rw [h2] at hf; cases hf
/-- a borrowing look -/
theorem pe_bor (hC : Ctx cl k X c) {f : Expr → Rho → S → Option (D × S)} (he : PE X e (tX RV X.K cl (f e))) : PE X e (tX RB X.K cl (bor f c e)) := by
  have plain : PE X e (tX RB X.K cl (f e)) := ⟨fun pins s σ H Q I ⟨P, r, s0, a0, d, s', hf, g, q⟩ =>
    he.run pins s σ H Q I ⟨P, r, s0, a0, d, s', hf, g, fun v H' a1 g1 e1 l1 rv => q v H' a1 g1 e1 l1 (.inl rv)⟩⟩
  cases e with
  | Name x pos =>
    refine mkE fun P r s a0 d s' σ H Q hf g q => ?_
    unfold bor at hf
    dsimp only at hf
    cases h1 : slotOf c x with
    | none =>
      rw [h1] at hf
      exact ⟨_, plain, P, r, s, a0, d, s', hf, g, q⟩
    | some i =>
      rw [h1] at hf
      dsimp only at hf
      cases h2 : getS r i with
      | own l =>
        rw [h2] at hf
        cases hf
        obtain ⟨n1, n2, n3, n4⟩ := slot_at hC h1
        obtain ⟨a, xs, e1, e2, e3, e4⟩ := g.own i l (get_own h2)
        exact ⟨_, pe_var n1 n2 n3 n4, V.ref a, e1, g.fin q (.inr ⟨a, xs, l, rfl, rfl, e3, e4⟩)⟩
      | un =>
        rw [h2] at hf
        exact ⟨_, plain, P, r, s, a0, d, s', hf, g, q⟩
      | v d' =>
        rw [h2] at hf
        exact ⟨_, plain, P, r, s, a0, d, s', hf, g, q⟩
  | _ => exact plain

/-! ### operators -/
theorem pe_bin (hC : Ctx cl k X c) {a b : Expr} {op : Operator} {pos : Pos} {fa fb : Rho → S → Option (D × S)} (ha : PE X a (tX RB X.K cl fa)) (hb : PE X b (tX RB X.K cl fb)) :
    PE X (.BinOp a op b pos) (tX RV X.K cl fun r s => match fa r s with
      | none => none
      | some (x, s1) => match fb r s1 with
        | none => none
        | some (y, s2) => (opD op x y).map fun z => (z, s2)) := by
  refine mkE fun P r s a0 d s' σ H Q hf g q => ?_
  cases h1 : fa r s with
  | none => rw [h1] at hf; cases hf
  | some p1 =>
    obtain ⟨x, s1⟩ := p1
    rw [h1] at hf
    dsimp only at hf
    cases h2 : fb r s1 with
    | none => rw [h2] at hf; cases hf
    | some p2 =>
      obtain ⟨y, s2⟩ := p2
      rw [h2] at hf
      obtain ⟨z, hz, e⟩ := Option.map_eq_some_iff.mp hf
      cases e
      obtain ⟨rr, ho, hd⟩ := op_does (cl := cl) (X := X) hC.pl.pl hz
      refine ⟨_, pe_op ho ha hb, P, r, s, a0, x, s1, h1, g, fun v H1 a1 g1 e1 l1 r1 => ⟨P, r, s1, a1, y, _, h2, g1, fun u H2 a2 g2 e2 l2 r2 => ?_⟩⟩
      exact hd v u H2 _ a2 Q (r1.ext e2 l2) r2 g2.owAlc fun w H3 k3 rw3 => q w H3 a2 (g2.same k3) ((e1.trans e2 l2).trans (Ext.same k3) (Le.refl _)) (l1.trans l2) rw3
theorem mark_of {op : CmpOp} {b : Expr} (h : ∀ es n p, b ≠ .Set es n p) : behindInMarks op b = false := by
  cases b with
  | Set es n p => exact absurd rfl (h es n p)
  | _ => rfl
/-- one comparison: a value, a test -/
theorem cmp1 {a b : Expr} {op : CmpOp} {pos : Pos} {fa fb : Rho → S → Option (D × S)} (hC : Ctx cl k X c) (hm : behindInMarks op b = false) (ha : PE X a (tX RB X.K cl fa)) (hb : PE X b (tX RB X.K cl fb)) :
    PE X (.Compare a [op] [b] pos) (tX RV X.K cl fun r s => match fa r s with
      | none => none
      | some (x, s1) => match fb r s1 with
        | none => none
        | some (y, s2) => (cmpD op x y).map fun z => (.bl z, s2)) ∧
    PT X (.Compare a [op] [b] pos) (tTt X.K cl fun r s => match fa r s with
      | none => none
      | some (x, s1) => match fb r s1 with
        | none => none
        | some (y, s2) => (cmpD op x y).map fun z => (z, s2)) := by
  have hu : X.A.units + 65 < cLine := by have := hC.rm.un; omega
  constructor
  · refine mkE fun P r s a0 d s' σ H Q hf g q => ?_
    cases h1 : fa r s with
    | none => rw [h1] at hf; cases hf
    | some p1 =>
      obtain ⟨x, s1⟩ := p1
      rw [h1] at hf
      dsimp only at hf
      cases h2 : fb r s1 with
      | none => rw [h2] at hf; cases hf
      | some p2 =>
        obtain ⟨y, s2⟩ := p2
        rw [h2] at hf
        obtain ⟨z, hz, e⟩ := Option.map_eq_some_iff.mp hf
        cases e
        obtain ⟨rr, ho, hd⟩ := cmp_does (cl := cl) (X := X) hu hz
        refine ⟨_, pe_cmpR ho ha hb hm, P, r, s, a0, x, s1, h1, g, fun v H1 a1 g1 e1 l1 r1 => ⟨P, r, s1, a1, y, _, h2, g1, fun u H2 a2 g2 e2 l2 r2 => ?_⟩⟩
        exact hd v u H2 _ a2 Q (r1.ext e2 l2) r2 g2.owAlc fun w H3 k3 rw3 => q w H3 a2 (g2.same k3) ((e1.trans e2 l2).trans (Ext.same k3) (Le.refl _)) (l1.trans l2) rw3
  · refine mkT fun P r s a0 d s' σ H Q hf g q => ?_
    cases h1 : fa r s with
    | none => rw [h1] at hf; cases hf
    | some p1 =>
      obtain ⟨x, s1⟩ := p1
      rw [h1] at hf
      dsimp only at hf
      cases h2 : fb r s1 with
      | none => rw [h2] at hf; cases hf
      | some p2 =>
        obtain ⟨y, s2⟩ := p2
        rw [h2] at hf
        obtain ⟨z, hz, e⟩ := Option.map_eq_some_iff.mp hf
        cases e
        obtain ⟨rr, ho, hd⟩ := cmp_does (cl := cl) (X := X) hu hz
        refine ⟨_, pt_cmpR ho ha hb hm, P, r, s, a0, x, s1, h1, g, fun v H1 a1 g1 e1 l1 r1 => ⟨P, r, s1, a1, y, _, h2, g1, fun u H2 a2 g2 e2 l2 r2 => ?_⟩⟩
        refine hd v u H2 _ a2 _ (r1.ext e2 l2) r2 g2.owAlc fun w H3 k3 rw3 => ?_
        cases rw3
        exact ⟨_, rfl, q H3 a2 (g2.same k3) ((e1.trans e2 l2).trans (Ext.same k3) (Le.refl _)) (l1.trans l2)⟩
/-- two comparisons in a chain -/
def chainE (op op' : CmpOp) (fa fb fc : Rho → S → Option (D × S)) (r : Rho) (s : S) : Option (D × S) := match fa r s with
      | none => none
      | some (x, s1) => match fb r s1 with
        | none => none
        | some (y, s2) => match cmpD op x y with
          | none => none
          | some false => some (.bl false, s2)
          | some true => match fc r s2 with
            | none => none
            | some (z, s3) => (cmpD op' y z).map fun w => (.bl w, s3)
def asT (f : Rho → S → Option (D × S)) (r : Rho) (s : S) : Option (Bool × S) := match f r s with
      | some (.bl b, s1) => some (b, s1)
      | _ => none
theorem chain_rd {op op' : CmpOp} {fa fb fc : Rho → S → Option (D × S)} (hC : Ctx cl k X c) {P : AS} {r : Rho} {s s' : S} {a0 : Option Addr} {d : D} {σ : L2.St} {H : Hp} (hf : chainE op op' fa fb fc r s = some (d, s')) (g : Good X.K cl P r s a0 σ H) :
    (∃ b, d = .bl b) ∧ ∃ rr rr', OpR X (compareOp op) rr ∧ OpR X (compareOp op') rr' ∧ ∀ Q : VK, (∀ v H' a1, Good X.K cl P r s' a1 σ H' → Ext a1 H H' → Le a0 a1 → RV X.K cl a1 H' (Ow P r σ) v d → Q v H') → tChain rr rr' (tX RB X.K cl fa) (tX RB X.K cl fb) (tX RB X.K cl fc) σ H Q := by
  have hu : X.A.units + 65 < cLine := by have := hC.rm.un; omega
  unfold chainE at hf
  cases h1 : fa r s with
  | none => rw [h1] at hf; cases hf
  | some p1 =>
    obtain ⟨x, s1⟩ := p1
    rw [h1] at hf
    dsimp only at hf
    cases h2 : fb r s1 with
    | none => rw [h2] at hf; cases hf
    | some p2 =>
      obtain ⟨y, s2⟩ := p2
      rw [h2] at hf
      dsimp only at hf
      cases h3 : cmpD op x y with
      | none => rw [h3] at hf; cases hf
      | some b =>
        rw [h3] at hf
        obtain ⟨rr, ho, hd⟩ := cmp_does (cl := cl) (X := X) hu h3
        cases b with
        | false =>
          cases hf
          refine ⟨⟨_, rfl⟩, rr, (fun _ _ _ _ => False), ho, fun _ _ _ _ _ _ _ _ _ _ _ _ z => z.elim, fun Q q => ?_⟩
          refine ⟨P, r, s, a0, x, s1, h1, g, fun v H1 a1 g1 e1 l1 r1 => ⟨P, r, s1, a1, y, _, h2, g1, fun u H2 a2 g2 e2 l2 r2 => ?_⟩⟩
          refine hd v u H2 _ a2 _ (r1.ext e2 l2) r2 g2.owAlc fun w H3 k3 rw3 => ?_
          cases rw3
          exact ⟨false, rfl, iteF (q _ H3 a2 (g2.same k3) ((e1.trans e2 l2).trans (Ext.same k3) (Le.refl _)) (l1.trans l2) (.bl false))⟩
        | true =>
          dsimp only at hf
          cases h4 : fc r s2 with
          | none => rw [h4] at hf; cases hf
          | some p3 =>
            obtain ⟨z, s3⟩ := p3
            rw [h4] at hf
            obtain ⟨w, hw, e⟩ := Option.map_eq_some_iff.mp hf
            cases e
            obtain ⟨rr', ho', hd'⟩ := cmp_does (cl := cl) (X := X) hu hw
            refine ⟨⟨_, rfl⟩, rr, rr', ho, ho', fun Q q => ?_⟩
            refine ⟨P, r, s, a0, x, s1, h1, g, fun v H1 a1 g1 e1 l1 r1 => ⟨P, r, s1, a1, y, _, h2, g1, fun u H2 a2 g2 e2 l2 r2 => ?_⟩⟩
            refine hd v u H2 _ a2 _ (r1.ext e2 l2) r2 g2.owAlc fun w3 H3 k3 rw3 => ?_
            cases rw3
            refine ⟨true, rfl, iteT ?_⟩
            have g3 := g2.same k3
            refine ⟨P, r, s2, a2, z, _, h4, g3, fun v4 H4 a4 g4 e4 l4 r4 => ?_⟩
            exact hd' u v4 H4 _ a4 Q ((r2.ext (Ext.same (a1 := a2) k3) (Le.refl _)).ext e4 l4) r4 g4.owAlc fun w5 H5 k5 rw5 => q w5 H5 a4 (g4.same k5) ((((e1.trans e2 l2).trans (Ext.same k3) (Le.refl _)).trans e4 l4).trans (Ext.same k5) (Le.refl _)) ((l1.trans l2).trans l4) rw5
theorem rb_of {f : Rho → S → Option (D × S)} (he : PE X e (tX RV X.K cl f)) : PE X e (tX RB X.K cl f) := ⟨fun pins s σ H Q I ⟨P, r, s0, a0, d, s', hf, g, q⟩ =>
    he.run pins s σ H Q I ⟨P, r, s0, a0, d, s', hf, g, fun v H' a1 g1 e1 l1 rv => q v H' a1 g1 e1 l1 (.inl rv)⟩⟩
theorem cmp2 {a b e2 : Expr} {op op' : CmpOp} {pos : Pos} {fa fb fc : Rho → S → Option (D × S)} (hC : Ctx cl k X c) (hm : lastMarks [op, op'] [b, e2] = false) (ha : PE X a (tX RB X.K cl fa)) (hb : PE X b (tX RB X.K cl fb)) (hc : PE X e2 (tX RB X.K cl fc)) :
    PE X (.Compare a [op, op'] [b, e2] pos) (tX RV X.K cl (chainE op op' fa fb fc)) ∧ PT X (.Compare a [op, op'] [b, e2] pos) (tTt X.K cl (asT (chainE op op' fa fb fc))) := by
  constructor
  · refine mkE fun P r s a0 d s' σ H Q hf g q => ?_
    obtain ⟨_, rr, rr', ho, ho', hq⟩ := chain_rd hC hf g
    exact ⟨_, pe_chain ho ho' ha hb hc hm, hq Q q⟩
  · refine mkT fun P r s a0 b s' σ H Q hf g q => ?_
    unfold asT at hf
    cases h1 : chainE op op' fa fb fc r s with
    | none => rw [h1] at hf; cases hf
    | some p1 =>
      obtain ⟨d, s1⟩ := p1
      rw [h1] at hf
      cases d with
      | bl b' =>
        cases hf
        obtain ⟨_, rr, rr', ho, ho', hq⟩ := chain_rd hC h1 g
        refine ⟨_, pt_chain ho ho' ha hb hc hm, hq _ fun v H' a1 g1 e1 l1 rv => ?_⟩
        cases rv
        exact ⟨_, rfl, q H' a1 g1 e1 l1⟩
      | _ => cases hf
end
end CH

set_option maxRecDepth 100000
set_option maxHeartbeats 4000000
/-! Terms, second part: signs, and, or, displays, places, calls. -/
namespace CH
open PySem PySem.Spec PyProof.Rows L2
section
variable {cl : Addr} {k : Nat} {X : Cx} {c : C} {e : Expr} {VR : VRel}
theorem pe_negD {a : Expr} {pos : Pos} {f : Rho → S → Option (D × S)} (ha : PE X a (tX RV X.K cl f)) : PE X (.UnaryOp .USub a pos) (tX RV X.K cl fun r s => match f r s with
      | some (.int i, s1) => some (.int (-i), s1)
      | _ => none) := by
  refine mkE fun P r s a0 d s' σ H Q hf g q => ?_
  cases h1 : f r s with
  | none => rw [h1] at hf; cases hf
  | some p1 =>
    obtain ⟨x, s1⟩ := p1
    rw [h1] at hf
    cases x with
    | int i =>
      cases hf
      refine ⟨_, pe_un un_neg ha, P, r, s, a0, _, _, h1, g, fun v H1 a1 g1 e1 l1 r1 => ?_⟩
      cases r1
      exact ⟨i, rfl, q _ H1 a1 g1 e1 l1 (.int _)⟩
    | _ => cases hf
theorem pe_notD {a : Expr} {pos : Pos} {f : Rho → S → Option (D × S)} (ha : PE X a (tX RV X.K cl f)) : PE X (.UnaryOp .Not a pos) (tX RV X.K cl fun r s => match f r s with
      | some (.bl b, s1) => some (.bl (!b), s1)
      | _ => none) := by
  refine mkE fun P r s a0 d s' σ H Q hf g q => ?_
  cases h1 : f r s with
  | none => rw [h1] at hf; cases hf
  | some p1 =>
    obtain ⟨x, s1⟩ := p1
    rw [h1] at hf
    cases x with
    | bl b =>
      cases hf
      refine ⟨_, pe_not ha, P, r, s, a0, _, _, h1, g, fun v H1 a1 g1 e1 l1 r1 => ?_⟩
      cases r1
      exact ⟨b, rfl, q _ H1 a1 g1 e1 l1 (.bl _)⟩
    | _ => cases hf
theorem pt_notD {a : Expr} {pos : Pos} {f : Rho → S → Option (Bool × S)} (ha : PT X a (tTt X.K cl f)) : PT X (.UnaryOp .Not a pos) (tTt X.K cl fun r s => (f r s).map fun p => (!p.1, p.2)) := by
  refine mkT fun P r s a0 d s' σ H Q hf g q => ?_
  obtain ⟨⟨b, s1⟩, h1, e⟩ := Option.map_eq_some_iff.mp hf
  cases e
  exact ⟨_, pt_not ha, P, r, s, a0, _, _, h1, g, fun H1 a1 g1 e1 l1 => q H1 a1 g1 e1 l1⟩
/-- and, or, as values -/
theorem pe_andD {pos : Pos} {f : Expr → Rho → S → Option (D × S)} (hf0 : ∀ e, PE X e (tX RV X.K cl (f e))) : ∀ es : List Expr, PE X (.BoolOp .And es pos) (tX RV X.K cl (andE f es))
  | [] => mkE fun P r s a0 d s' σ H Q hf g q => by cases hf
  | [e] => mkE fun P r s a0 d s' σ H Q hf g q => ⟨_, pe_one (hf0 e), P, r, s, a0, d, s', hf, g, q⟩
  | e :: e' :: es => mkE fun P r s a0 d s' σ H Q hf g q => by
    have ih := pe_andD (pos := pos) hf0 (e' :: es)
    have hf : (match f e r s with
      | some (.bl true, s1) => andE f (e' :: es) r s1
      | some (.bl false, s1) => some (.bl false, s1)
      | _ => none) = some (d, s') := hf
    cases h1 : f e r s with
    | none => rw [h1] at hf; cases hf
    | some p1 =>
      obtain ⟨x, s1⟩ := p1
      rw [h1] at hf
      cases x with
      | bl b =>
        refine ⟨_, pe_and (hf0 e) ih, P, r, s, a0, _, _, h1, g, fun v H1 a1 g1 e1 l1 r1 => ?_⟩
        cases r1
        refine ⟨b, rfl, ?_⟩
        cases b with
        | true => exact iteT ⟨P, r, s1, a1, d, s', hf, g1, fun v H2 a2 g2 e2 l2 r2 => q v H2 a2 g2 (e1.trans e2 l2) (l1.trans l2) r2⟩
        | false =>
          cases hf
          exact iteF (q _ H1 a1 g1 e1 l1 (.bl _))
      | _ => cases hf
theorem pe_orD {pos : Pos} {f : Expr → Rho → S → Option (D × S)} (hf0 : ∀ e, PE X e (tX RV X.K cl (f e))) : ∀ es : List Expr, PE X (.BoolOp .Or es pos) (tX RV X.K cl (orE f es))
  | [] => mkE fun P r s a0 d s' σ H Q hf g q => by cases hf
  | [e] => mkE fun P r s a0 d s' σ H Q hf g q => ⟨_, pe_one (hf0 e), P, r, s, a0, d, s', hf, g, q⟩
  | e :: e' :: es => mkE fun P r s a0 d s' σ H Q hf g q => by
    have ih := pe_orD (pos := pos) hf0 (e' :: es)
    have hf : (match f e r s with
      | some (.bl false, s1) => orE f (e' :: es) r s1
      | some (.bl true, s1) => some (.bl true, s1)
      | _ => none) = some (d, s') := hf
    cases h1 : f e r s with
    | none => rw [h1] at hf; cases hf
    | some p1 =>
      obtain ⟨x, s1⟩ := p1
      rw [h1] at hf
      cases x with
      | bl b =>
        refine ⟨_, pe_or (hf0 e) ih, P, r, s, a0, _, _, h1, g, fun v H1 a1 g1 e1 l1 r1 => ?_⟩
        cases r1
        refine ⟨b, rfl, ?_⟩
        cases b with
        | false => exact iteF ⟨P, r, s1, a1, d, s', hf, g1, fun v H2 a2 g2 e2 l2 r2 => q v H2 a2 g2 (e1.trans e2 l2) (l1.trans l2) r2⟩
        | true =>
          cases hf
          exact iteT (q _ H1 a1 g1 e1 l1 (.bl _))
      | _ => cases hf
theorem mkW {f : Rho → S → Option (Bool × S)} (h : ∀ (P : AS) (r : Rho) (s : S) (a0 : Option Addr) (b : Bool) (s' : S) (σ : L2.St) (H : Hp) (Q : Bool → Hp → Prop), f r s = some (b, s') → Good X.K cl P r s a0 σ H →
    (∀ H' a1, Good X.K cl P r s' a1 σ H' → Ext a1 H H' → Le a0 a1 → Q b H') → ∃ t, PW X e t ∧ t σ H Q) : PW X e (tTt X.K cl f) :=
  ⟨fun wh pins s σ H Q I ⟨P, r, s0, a0, d, s', hf, g, q⟩ => let ⟨_, ht, hq⟩ := h P r s0 a0 d s' σ H Q hf g q; ht.run wh pins s σ H Q I hq⟩
theorem pw_andD {pos : Pos} {f : Expr → Rho → S → Option (Bool × S)} (hf0 : ∀ e, PT X e (tTt X.K cl (f e))) : ∀ es : List Expr, PW X (.BoolOp .And es pos) (tTt X.K cl (andT f es))
  | [] => mkW fun P r s a0 d s' σ H Q hf g q => by cases hf
  | [e] => mkW fun P r s a0 d s' σ H Q hf g q => ⟨_, pw_and1 (hf0 e), P, r, s, a0, d, s', hf, g, q⟩
  | e :: e' :: es => mkW fun P r s a0 d s' σ H Q hf g q => by
    have ih := pw_andD (pos := pos) hf0 (e' :: es)
    have hf : (match f e r s with
      | some (true, s1) => andT f (e' :: es) r s1
      | some (false, s1) => some (false, s1)
      | none => none) = some (d, s') := hf
    cases h1 : f e r s with
    | none => rw [h1] at hf; cases hf
    | some p1 =>
      obtain ⟨b, s1⟩ := p1
      rw [h1] at hf
      refine ⟨_, pw_and (hf0 e) ih, P, r, s, a0, _, _, h1, g, fun H1 a1 g1 e1 l1 => ?_⟩
      cases b with
      | true => exact iteT ⟨P, r, s1, a1, d, s', hf, g1, fun H2 a2 g2 e2 l2 => q H2 a2 g2 (e1.trans e2 l2) (l1.trans l2)⟩
      | false =>
        cases hf
        exact iteF (q H1 a1 g1 e1 l1)
theorem pw_orD {pos : Pos} {f : Expr → Rho → S → Option (Bool × S)} (hf0 : ∀ e, PT X e (tTt X.K cl (f e))) : ∀ es : List Expr, PW X (.BoolOp .Or es pos) (tTt X.K cl (orT f es))
  | [] => mkW fun P r s a0 d s' σ H Q hf g q => by cases hf
  | [e] => mkW fun P r s a0 d s' σ H Q hf g q => ⟨_, pw_or1 (hf0 e), P, r, s, a0, d, s', hf, g, q⟩
  | e :: e' :: es => mkW fun P r s a0 d s' σ H Q hf g q => by
    have ih := pw_orD (pos := pos) hf0 (e' :: es)
    have hf : (match f e r s with
      | some (false, s1) => orT f (e' :: es) r s1
      | some (true, s1) => some (true, s1)
      | none => none) = some (d, s') := hf
    cases h1 : f e r s with
    | none => rw [h1] at hf; cases hf
    | some p1 =>
      obtain ⟨b, s1⟩ := p1
      rw [h1] at hf
      refine ⟨_, pw_or (hf0 e) ih, P, r, s, a0, _, _, h1, g, fun H1 a1 g1 e1 l1 => ?_⟩
      cases b with
      | false => exact iteF ⟨P, r, s1, a1, d, s', hf, g1, fun H2 a2 g2 e2 l2 => q H2 a2 g2 (e1.trans e2 l2) (l1.trans l2)⟩
      | true =>
        cases hf
        exact iteT (q H1 a1 g1 e1 l1)
theorem pe_ifD {t a b : Expr} {pos : Pos} {ft : Rho → S → Option (Bool × S)} {fa fb : Rho → S → Option (D × S)} (ht : PT X t (tTt X.K cl ft)) (ha : PE X a (tX RV X.K cl fa)) (hb : PE X b (tX RV X.K cl fb)) :
    PE X (.IfExp t a b pos) (tX RV X.K cl fun r s => match ft r s with
      | some (true, s1) => fa r s1
      | some (false, s1) => fb r s1
      | none => none) := by
  refine mkE fun P r s a0 d s' σ H Q hf g q => ?_
  cases h1 : ft r s with
  | none => rw [h1] at hf; cases hf
  | some p1 =>
    obtain ⟨x, s1⟩ := p1
    rw [h1] at hf
    refine ⟨_, pe_ifExp ht ha hb, P, r, s, a0, _, _, h1, g, fun H1 a1 g1 e1 l1 => ?_⟩
    cases x with
    | true => exact iteT ⟨P, r, s1, a1, d, s', hf, g1, fun v H2 a2 g2 e2 l2 r2 => q v H2 a2 g2 (e1.trans e2 l2) (l1.trans l2) r2⟩
    | false => exact iteF ⟨P, r, s1, a1, d, s', hf, g1, fun v H2 a2 g2 e2 l2 r2 => q v H2 a2 g2 (e1.trans e2 l2) (l1.trans l2) r2⟩

/-! ### lists of terms -/
def VExt (VR : VRel) : Prop := ∀ (K : PySem.W.Frag) (cl : Addr) (a0 a1 : Option Addr) (H H' : Hp) (O : AS) (v : V) (d : D), VR K cl a0 H O v d → Ext a1 H H' → Le a0 a1 → VR K cl a1 H' O v d
theorem vext_v : VExt RV := fun _ _ _ _ _ _ _ _ _ h e l => h.ext e l
theorem vext_b : VExt RB := fun _ _ _ _ _ _ _ _ _ h e l => h.ext e l
def NoStar (f : Expr → Rho → S → Option (D × S)) : Prop := ∀ e r s x, f e r s = some x → ∀ es env, starEach (e :: es) env = (false, eval e env) :: starEach es env
theorem pa_seq {f : Expr → Rho → S → Option (D × S)} (hx : VExt VR) (hf0 : ∀ e, PE X e (tX VR X.K cl (f e))) (hs : NoStar f) : ∀ es : List Expr, PA X es (tXs VR X.K cl (seqE f es))
  | [] => ⟨fun pos pins s σ H Q I ⟨P, r, s0, a0, ds, s', hf, g, q⟩ => by
    cases hf
    exact pa_nil.run pos pins s σ H Q I (q [] H a0 g (Ext.refl _ _) (Le.refl _) .nil)⟩
  | e :: es => ⟨fun pos pins s σ H Q I ⟨P, r, s0, a0, ds, s', hf, g, q⟩ => by
    have ih := pa_seq hx hf0 hs es
    have hf : (match f e r s0 with
      | none => none
      | some (d, s1) => match seqE f es r s1 with
        | none => none
        | some (ds, s2) => some (d :: ds, s2)) = some (ds, s') := hf
    cases h1 : f e r s0 with
    | none => rw [h1] at hf; cases hf
    | some p1 =>
      obtain ⟨x, s1⟩ := p1
      rw [h1] at hf
      dsimp only at hf
      cases h2 : seqE f es r s1 with
      | none => rw [h2] at hf; cases hf
      | some p2 =>
        obtain ⟨ds2, s2⟩ := p2
        rw [h2] at hf
        cases hf
        refine (pa_cons (hf0 e) ih (hs e r s0 _ h1 es X.env)).run pos pins s σ H Q I ?_
        refine ⟨P, r, s0, a0, x, s1, h1, g, fun v H1 a1 g1 e1 l1 r1 => ⟨P, r, s1, a1, ds2, _, h2, g1, fun vs H2 a2 g2 e2 l2 r2 => ?_⟩⟩
        exact q (v :: vs) H2 a2 g2 (e1.trans e2 l2) (l1.trans l2) (.cons (hx _ _ _ _ _ _ _ _ _ r1 e2 l2) r2)⟩
theorem seq_star {f : Expr → Rho → S → Option (D × S)} (hs : NoStar f) : ∀ (es : List Expr) {r : Rho} {s : S} {x : List D × S}, seqE f es r s = some x → ∀ (pos : Pos) (env : Env), (backTo pos (starEach es env)).any (·.1) = false
  | [], _, _, _, _, _, _ => rfl
  | e :: es, r, s, x, hf, pos, env => by
    have hf : (match f e r s with
      | none => none
      | some (d, s1) => match seqE f es r s1 with
        | none => none
        | some (ds, s2) => some (d :: ds, s2)) = some x := hf
    cases h1 : f e r s with
    | none => rw [h1] at hf; cases hf
    | some p1 =>
      obtain ⟨y, s1⟩ := p1
      rw [h1] at hf
      dsimp only at hf
      cases h2 : seqE f es r s1 with
      | none => rw [h2] at hf; cases hf
      | some p2 =>
        rw [hs e r s _ h1 es env]
        exact seq_star hs es h2 pos env
theorem Vs.rs {K : PySem.W.Frag} {a0 : Option Addr} {H : Hp} {O : AS} : ∀ {vs : List V} {ds : List D}, Vs RV K cl a0 H O vs ds → Rs K cl a0 (minus H O) vs ds
  | _, _, .nil => .nil
  | _, _, .cons h t => .cons h t.rs
theorem Vs.rbs {K : PySem.W.Frag} {a0 : Option Addr} {H : Hp} {O : AS} : ∀ {vs : List V} {ds : List D}, Vs RB K cl a0 H O vs ds → RBs K cl a0 H O vs ds
  | _, _, .nil => .nil
  | _, _, .cons h t => .cons h t.rbs
/-- displays -/
theorem pe_tupD {es : List Expr} {n : Nat} {pos : Pos} {f : Rho → S → Option (List D × S)} (h : PA X es (tXs RV X.K cl f)) : PE X (.Tuple es n pos) (tX RV X.K cl fun r s => match f r s with
      | some (ds, s1) => if ds.length ≤ line then some (.tup ds, s1) else none
      | none => none) := by
  refine mkE fun P r s a0 d s' σ H Q hf g q => ?_
  cases h1 : f r s with
  | none => rw [h1] at hf; cases hf
  | some p1 =>
    obtain ⟨ds, s1⟩ := p1
    rw [h1] at hf
    obtain ⟨hl, e⟩ := ite_some hf
    cases e
    refine ⟨_, pe_tup h, P, r, s, a0, ds, _, h1, g, fun vs H1 a1 g1 e1 l1 r1 => ?_⟩
    have rr := r1.rs
    refine ⟨by rw [rr.length, ← line_eq]; exact hl, fun p hp => ?_⟩
    exact q _ _ a1 (g1.new hp) (e1.trans (Ext.same (same_new hp)) (Le.refl _)) l1 (R.newT g1.owAlc hp rr)
theorem pe_lstF {es : List Expr} {pos : Pos} {f : Rho → S → Option (List D × S)} (h : PA X es (tXs RV X.K cl f)) : PE X (.List es pos) (tF X.K cl fun r s => match f r s with
      | some (ds, s1) => if ds.length ≤ line then some (.lst ds, s1) else none
      | none => none) := by
  refine mkF fun P r s a0 d s' σ H Q hf g q => ?_
  cases h1 : f r s with
  | none => rw [h1] at hf; cases hf
  | some p1 =>
    obtain ⟨ds, s1⟩ := p1
    rw [h1] at hf
    obtain ⟨hl, e⟩ := ite_some hf
    cases e
    refine ⟨_, pe_lst h, P, r, s, a0, ds, _, h1, g, fun vs H1 a1 g1 e1 l1 r1 => ?_⟩
    have rr := r1.rs
    refine ⟨by rw [rr.length, ← line_eq]; exact hl, fun p hp => ?_⟩
    have hp0 : H p = none := by
      cases z : H p with
      | none => rfl
      | some o => exact absurd hp (e1.alc p (by rw [z]; exact fun w => nomatch w))
    refine q p vs ds _ a1 (g1.new hp) (e1.trans (Ext.same (same_new hp)) (Le.refl _)) l1 rfl hp0 upd_same ?_
    refine rr.mono (Keep.minus (Keep.sub.trans (Ext.same (a1 := a1) (same_new hp)).keep) fun a o n ha z => ?_) (Le.refl _)
    rcases z with z | z
    · exact n z
    · rw [z, hp] at ha; cases ha

/-! ### places, parts -/
theorem sIx_eq : @sIx = @HT.sIx := by
  funext n d o
  cases o <;> rfl
theorem ix_of {l : List D} {i : Int} {d : D} {K : PySem.W.Frag} {a0 : Option Addr} {H : Hp} {xs : List V} (r : Rs K cl a0 H xs l) (h : atD l i = some d) : ∃ v, atI xs i = some v ∧ R K cl a0 H v d := by
  unfold atD at h
  obtain ⟨j, h1, h2⟩ := Option.bind_eq_some_iff.mp h
  obtain ⟨v, h3, h4⟩ := r.get h2
  refine ⟨v, ?_, h4⟩
  unfold atI
  rw [r.length, show L2.ixN l.length i = some j from h1]
  exact h3
theorem Rs.ofInts {K : PySem.W.Frag} {a0 : Option Addr} {H : Hp} : ∀ l : List Int, Rs K cl a0 H (l.map V.int) (l.map D.int)
  | [] => .nil
  | i :: l => .cons (.int i) (Rs.ofInts l)
theorem pe_ixD {a b : Expr} {pos : Pos} {fa fb : Rho → S → Option (D × S)} (hpl : PlainIx b) (ha : PE X a (tX RB X.K cl fa)) (hb : PE X b (tX RV X.K cl fb)) :
    PE X (.Subscript a b pos) (tX RV X.K cl fun r s => match fa r s with
      | none => none
      | some (x, s1) => match fb r s1 with
        | some (.int i, s2) => match x with
          | .tup xs => (atD xs i).map fun d => (d, s2)
          | .lst xs => (atD xs i).map fun d => (d, s2)
          | .scr xs => (atD (xs.map .int) i).map fun d => (d, s2)
          | _ => none
        | _ => none) := by
  refine mkE fun P r s a0 d s' σ H Q hf g q => ?_
  cases h1 : fa r s with
  | none => rw [h1] at hf; cases hf
  | some p1 =>
    obtain ⟨x, s1⟩ := p1
    rw [h1] at hf
    dsimp only at hf
    cases h2 : fb r s1 with
    | none => rw [h2] at hf; cases hf
    | some p2 =>
      obtain ⟨y, s2⟩ := p2
      rw [h2] at hf
      cases y with
      | int i =>
        dsimp only at hf
        refine ⟨_, pe_ix (ix_list.or ix_tup) ha hb hpl, P, r, s, a0, x, s1, h1, g, fun v H1 a1 g1 e1 l1 r1 => ⟨P, r, s1, a1, _, _, h2, g1, fun u H2 a2 g2 e2 l2 r2 => ?_⟩⟩
        cases r2
        have r1 := r1.ext e2 l2
        cases x with
        | tup l =>
          obtain ⟨z, hz, e⟩ := Option.map_eq_some_iff.mp hf
          cases e
          obtain ⟨p, xs, rfl, _, ep, rr⟩ := r1.tup
          obtain ⟨w, hw, rw'⟩ := ix_of rr hz
          exact .inr ⟨p, xs, i, w, rfl, rfl, SqT.of ep, hw, q w H2 a2 g2 (e1.trans e2 l2) (l1.trans l2) rw'⟩
        | lst l =>
          obtain ⟨z, hz, e⟩ := Option.map_eq_some_iff.mp hf
          cases e
          obtain ⟨p, xs, rfl, ep, rr⟩ := r1.lst
          obtain ⟨w, hw, rw'⟩ := ix_of rr hz
          exact .inl ⟨p, xs, i, w, rfl, rfl, SqL.of ep, hw, q w H2 a2 g2 (e1.trans e2 l2) (l1.trans l2) rw'⟩
        | scr l =>
          obtain ⟨z, hz, e⟩ := Option.map_eq_some_iff.mp hf
          cases e
          obtain ⟨p, rfl, ep, _⟩ := r1.scr
          obtain ⟨w, hw, rw'⟩ := ix_of (Rs.ofInts l) hz
          exact .inl ⟨p, _, i, w, rfl, rfl, ep.seq, hw, q w H2 a2 g2 (e1.trans e2 l2) (l1.trans l2) rw'⟩
        | _ => cases hf
      | _ => cases hf
/-- a part's reading -/
def partE (f : Expr → Rho → S → Option (D × S)) (o : Option Expr) (r : Rho) (s : S) : Option (Option Int × S) := match o with
            | none => some (none, s)
            | some e => match f e r s with
              | some (.int i, s2) => some (some i, s2)
              | _ => none
def tPt (K : PySem.W.Frag) (cl : Addr) (f : Rho → S → Option (Option Int × S)) : TO := fun σ H Q => ∃ (P : AS) (r : Rho) (s : S) (a0 : Option Addr) (o : Option Int) (s' : S), f r s = some (o, s') ∧ Good K cl P r s a0 σ H ∧
  ∀ H' a1, Good K cl P r s' a1 σ H' → Ext a1 H H' → Le a0 a1 → Q o H'
theorem po_D {f : Expr → Rho → S → Option (D × S)} (hf0 : ∀ e, PE X e (tX RV X.K cl (f e))) (o : Option Expr) : PO X o (tPt X.K cl (partE f o)) := ⟨fun pins s σ H Q I ⟨P, r, s0, a0, i, s', hf, g, q⟩ => by
  cases o with
  | none =>
    cases hf
    exact po_none.run pins s σ H Q I (q H a0 g (Ext.refl _ _) (Le.refl _))
  | some e =>
    unfold partE at hf
    dsimp only at hf
    cases h1 : f e r s0 with
    | none => rw [h1] at hf; cases hf
    | some p1 =>
      obtain ⟨x, s1⟩ := p1
      rw [h1] at hf
      cases x with
      | int j =>
        cases hf
        refine (po_some (hf0 e)).run pins s σ H Q I ⟨P, r, s0, a0, _, _, h1, g, fun v H1 a1 g1 e1 l1 r1 => ?_⟩
        cases r1
        exact ⟨j, rfl, q H1 a1 g1 e1 l1⟩
      | _ => cases hf⟩
theorem cut_rs {l : List D} {lo hi : Option Int} {K : PySem.W.Frag} {a0 : Option Addr} {H : Hp} {xs : List V} (r : Rs K cl a0 H xs l) : Rs K cl a0 H (cutV xs lo hi) (cutD l lo hi) := by
  unfold cutV cutD
  rw [r.length, ← sIx_eq]
  exact (r.drop _).take _
theorem whole_cut {xs : List V} {lo hi : Option Int} (h : HT.sIx xs.length 0 lo = 0 ∧ HT.sIx xs.length xs.length hi = xs.length) : cutV xs lo hi = xs := by
  unfold cutV
  rw [h.1, h.2, List.drop_zero, Nat.sub_zero, List.take_length]
theorem whole_cutD {l : List D} {lo hi : Option Int} (h : HT.sIx l.length 0 lo = 0 ∧ HT.sIx l.length l.length hi = l.length) : cutD l lo hi = l := by
  unfold cutD
  rw [sIx_eq, h.1, h.2, List.drop_zero, Nat.sub_zero, List.take_length]
theorem pe_slD {a : Expr} {lo hi : Option Expr} {pos p2 : Pos} {fa : Rho → S → Option (D × S)} {fl fh : Rho → S → Option (Option Int × S)} (ha : PE X a (tX RB X.K cl fa)) (hl : PO X lo (tPt X.K cl fl)) (hh : PO X hi (tPt X.K cl fh)) :
    PE X (.Subscript a (.Slice lo hi none p2) pos) (tX RV X.K cl fun r s => match fa r s with
      | none => none
      | some (x, s1) => match fl r s1 with
        | none => none
        | some (l, s2) => match fh r s2 with
          | none => none
          | some (h, s3) => match x with
            | .tup xs => some (.tup (cutD xs l h), s3)
            | .lst xs => some (.lst (cutD xs l h), s3)
            | _ => none) := by
  refine mkE fun P r s a0 d s' σ H Q hf g q => ?_
  cases h1 : fa r s with
  | none => rw [h1] at hf; cases hf
  | some p1 =>
    obtain ⟨x, s1⟩ := p1
    rw [h1] at hf
    dsimp only at hf
    cases h2 : fl r s1 with
    | none => rw [h2] at hf; cases hf
    | some p2 =>
      obtain ⟨l, s2⟩ := p2
      rw [h2] at hf
      dsimp only at hf
      cases h3 : fh r s2 with
      | none => rw [h3] at hf; cases hf
      | some p3 =>
        obtain ⟨h, s3⟩ := p3
        rw [h3] at hf
        dsimp only at hf
        refine ⟨_, pe_slice (sl_list.or sl_tupA) ha hl hh, P, r, s, a0, x, s1, h1, g, fun v H1 a1 g1 e1 l1 r1 => ⟨P, r, s1, a1, _, _, h2, g1, fun H2 a2 g2 e2 l2 => ⟨P, r, s2, a2, _, _, h3, g2, fun H3 a3 g3 e3 l3 => ?_⟩⟩⟩
        have r1 := (r1.ext e2 l2).ext e3 l3
        have ee := (e1.trans e2 l2).trans e3 l3
        have ll := (l1.trans l2).trans l3
        cases x with
        | tup t =>
          cases hf
          obtain ⟨p, xs, rfl, n, ep, rr⟩ := r1.tup
          refine .inr ⟨p, xs, rfl, SqT.of ep, fun hw => ?_, fun hw p' hp' => ?_⟩
          · rw [rr.length] at hw
            refine q _ H3 a3 g3 ee ll ?_
            rw [whole_cutD hw]
            exact R.tup (minus_some.mpr ⟨n, ep⟩) rr
          · exact q _ _ a3 (g3.new hp') (ee.trans (Ext.same (same_new hp')) (Le.refl _)) ll (R.newT g3.owAlc hp' (cut_rs rr))
        | lst t =>
          cases hf
          obtain ⟨p, xs, rfl, ep, rr⟩ := r1.lst
          exact .inl ⟨p, xs, rfl, SqL.of ep, fun p' hp' => q _ _ a3 (g3.new hp') (ee.trans (Ext.same (same_new hp')) (Le.refl _)) ll (R.newL g3.owAlc hp' (cut_rs rr))⟩
        | _ => cases hf
/-- the drawing dict's value at a written key -/
theorem getK_ok {s : S} {kk : Str} {d : D} {K : PySem.W.Frag} {a0 : Option Addr} {H : Hp} {O : AS} {a : Addr} (h : getK s kk = some d) (st : StOk K a0 s (minus H O)) (ha : a0 = some a) :
    ∃ v, DGet H a (kV (Sum.inr kk)) (some v) ∧ R K cl a0 (minus H O) v d := by
  cases s with
  | none => cases h
  | some t =>
    obtain ⟨a', b, e1, e2, e3⟩ := st
    rw [ha] at e1
    cases e1
    have e2' := (minus_some.mp e2).2
    unfold getK at h
    dsimp only at h
    have dg : DGet H a (kV (Sum.inr kk)) (valV (kvs4 b t) (Sum.inr kk)) := DGet.k e2'
    split at h
    · rename_i e; subst e; cases h
      exact ⟨_, dg, .scr e3⟩
    · split at h
      · rename_i e; subst e; cases h
        exact ⟨_, dg, .int _⟩
      · split at h
        · rename_i e; subst e; cases h
          exact ⟨_, dg, .int _⟩
        · split at h
          · rename_i e; subst e; cases h
            exact ⟨_, dg, .int _⟩
          · cases h
theorem pe_getD {a : Expr} {kk : Str} {j : Nat} {pos p2 : Pos} {fa : Rho → S → Option (D × S)} (hC : Ctx cl k X c) (ha : PE X a (tX RV X.K cl fa)) :
    PE X (.Subscript a (.Constant (.str kk) j p2) pos) (tX RV X.K cl fun r s => match fa r s with
      | some (.hnd, s1) => (getK s1 kk).map fun d => (d, s1)
      | _ => none) := by
  refine mkE fun P r s a0 d s' σ H Q hf g q => ?_
  cases h1 : fa r s with
  | none => rw [h1] at hf; cases hf
  | some p1 =>
    obtain ⟨x, s1⟩ := p1
    rw [h1] at hf
    cases x with
    | hnd =>
      obtain ⟨z, hz, e⟩ := Option.map_eq_some_iff.mp hf
      cases e
      refine ⟨_, pe_dget (hu_of hC.rm) ha pe_str (fun _ _ => rfl), P, r, s, a0, _, s', h1, g, fun v H1 a1 g1 e1 l1 r1 => ?_⟩
      cases r1 with
      | hnd h0 =>
        obtain ⟨w, dg, rw'⟩ := getK_ok (cl := cl) hz g1.st h0
        exact ⟨_, w, rfl, dg, q w H1 a1 g1 e1 l1 rw'⟩
    | _ => cases hf
end
end CH

set_option maxRecDepth 100000
set_option maxHeartbeats 4000000
/-! Terms, third part: calls, what is walked, comprehensions. -/
namespace CH
open PySem PySem.Spec PyProof.Rows L2
section
variable {cl : Addr} {k : Nat} {X : Cx} {c : C} {e : Expr} {VR : VRel}
/-- a call of a def of the text -/
theorem pe_fnD {g : Str} {p pos : Pos} {f : Expr → Rho → S → Option (D × S)} (hC : Ctx cl k X c) (hg : fnB c g = true) (hf0 : ∀ e, PE X e (tX RV X.K cl (f e))) (hs : NoStar f) (as : List Expr) :
    PE X (.Call (.Name g p) as [] pos) (tX RV X.K cl fun r s => match as with
        | [] => c.F g [] s
        | _ :: _ => match seqE f as r s with
          | some (ds, s1) => c.F g ds s1
          | none => none) := by
  have hg2 : inB c.fns g = true := by
    unfold fnB at hg
    exact (Bool.and_eq_true_iff.mp hg).2
  have hgl : Gl X g := gl_at hC (by unfold fnB at hg; exact (Bool.and_eq_true_iff.mp hg).1)
  obtain ⟨fa, fd, ps, hm, hk, hb, hF, hdb, har⟩ := hC.tab g hg2
  cases as with
  | nil =>
    refine mkE fun P r s a0 d s' σ H Q hf gd q => ⟨_, pe_call0 hF hC.rm hgl hm hk hb .nil pass0 hdb, ?_⟩
    have hl := har _ _ _ hf
    refine ⟨hl, Ow P r σ, [], s, a0, d, s', hf, .nil, gd.st, gd.owAlc, fun v H' a1 e1 l1 rv st => q v H' a1 (gd.ext e1 l1 st) e1 l1 rv⟩
  | cons a as =>
    refine mkE fun P r s a0 d s' σ H Q hf gd q => ?_
    dsimp only at hf
    cases h1 : seqE f (a :: as) r s with
    | none => rw [h1] at hf; cases hf
    | some p1 =>
      obtain ⟨ds, s1⟩ := p1
      rw [h1] at hf
      have hst := seq_star hs (a :: as) h1
      have hsa : starEach (a :: as) X.env = (false, eval a X.env) :: starEach as X.env := by
        have h1' : (match f a r s with
          | none => none
          | some (d, s1) => match seqE f as r s1 with
            | none => none
            | some (ds, s2) => some (d :: ds, s2)) = some (ds, s1) := h1
        cases h2 : f a r s with
        | none => rw [h2] at h1'; cases h1'
        | some y => exact hs a r s _ h2 as X.env
      refine ⟨_, pe_call hF hC.rm hgl hm hk hb .nil pass0 (pa_seq vext_v hf0 hs (a :: as)) hdb hsa ?_, P, r, s, a0, ds, s1, h1, gd, fun vs H1 a1 g1 e1 l1 vr => ?_⟩
      · have := hst pos X.env
        rw [hsa] at this
        exact this
      · have rr := vr.rs
        have hl := har _ _ _ hf
        refine ⟨by rw [List.append_nil, rr.length]; exact hl, Ow P r σ, ds, s1, a1, d, s', hf, by rw [List.append_nil]; exact rr, g1.st, g1.owAlc, fun v H' a2 e2 l2 rv st => q v H' a2 (g1.ext e2 l2 st) (e1.trans e2 l2) (l1.trans l2) rv⟩
/-- a call of a built-in -/
theorem pe_bltD {g : Str} {p pos : Pos} {f : Expr → Rho → S → Option (D × S)} (hC : Ctx cl k X c) (hg : bltB c g = true) (hf0 : ∀ e, PE X e (tX RB X.K cl (f e))) (hs : NoStar f) (as : List Expr) :
    PE X (.Call (.Name g p) as [] pos) (tX RV X.K cl fun r s => match as with
          | [] => none
          | _ :: _ => match seqE f as r s with
            | some (ds, s1) => (bltD g ds).map fun d => (d, s1)
            | none => none) := by
  obtain ⟨hgl, hm⟩ := blt_at hC hg
  cases as with
  | nil => exact mkE fun P r s a0 d s' σ H Q hf gd q => by cases hf
  | cons a as =>
    refine mkE fun P r s a0 d s' σ H Q hf gd q => ?_
    dsimp only at hf
    cases h1 : seqE f (a :: as) r s with
    | none => rw [h1] at hf; cases hf
    | some p1 =>
      obtain ⟨ds, s1⟩ := p1
      rw [h1] at hf
      obtain ⟨z, hz, ez⟩ := Option.map_eq_some_iff.mp hf
      cases ez
      have hst := seq_star hs (a :: as) h1
      have hsa : starEach (a :: as) X.env = (false, eval a X.env) :: starEach as X.env := by
        have h1' : (match f a r s with
          | none => none
          | some (d, s1) => match seqE f as r s1 with
            | none => none
            | some (ds, s2) => some (d :: ds, s2)) = some (ds, s') := h1
        cases h2 : f a r s with
        | none => rw [h2] at h1'; cases h1'
        | some y => exact hs a r s _ h2 as X.env
      have hpl : (backTo pos (starEach as X.env)).any (·.1) = false := by
        have := hst pos X.env
        rw [hsa] at this
        exact this
      obtain ⟨⟨n1, n2⟩, bf, hbf, hB, rr, ho, hd⟩ := blt_does (cl := cl) (X := X) (by have := hC.rm.un; omega) hC.calm hz
      have rd : tCB rr (tXs RB X.K cl (seqE f (a :: as))) σ H Q := ⟨P, r, s, a0, ds, s', h1, gd, fun vs H1 a1 g1 e1 l1 vr =>
        hd vs H1 _ a1 Q vr.rbs g1.owAlc fun w H3 k3 rw3 => q w H3 a1 (g1.same k3) (e1.trans (Ext.same k3) (Le.refl _)) l1 rw3⟩
      rcases hB with ⟨id, rfl⟩ | ⟨T, rfl⟩
      · exact ⟨_, pe_callB ho hgl hm hbf (pa_seq vext_b hf0 hs (a :: as)) n1 n2 hsa hpl, rd⟩
      · exact ⟨_, pe_callTy ho hgl hm hbf (pa_seq vext_b hf0 hs (a :: as)) n1 n2 hsa hpl, rd⟩
/-- list(x): new -/
theorem pe_listF {p pos : Pos} {a : Expr} {fa : Rho → S → Option (D × S)} (hC : Ctx cl k X c) (hg : bltB c "list" = true) (ha : PE X a (tX RB X.K cl fa)) (hsa : ∀ r s y, fa r s = some y → starEach [a] X.env = (false, eval a X.env) :: starEach [] X.env) :
    PE X (.Call (.Name "list" p) [a] [] pos) (tF X.K cl fun r s => match fa r s with
            | some (d, s1) => (bltD "list" [d]).map fun d => (d, s1)
            | none => none) := by
  obtain ⟨hgl, hm⟩ := blt_at hC hg
  refine mkF fun P r s a0 d s' σ H Q hf gd q => ?_
  cases h1 : fa r s with
  | none => rw [h1] at hf; cases hf
  | some p1 =>
    obtain ⟨x, s1⟩ := p1
    rw [h1] at hf
    obtain ⟨z, hz, ez⟩ := Option.map_eq_some_iff.mp hf
    cases ez
    refine ⟨_, pe_callTy call_list_of hgl hm (by decide +kernel) (pa_cons ha pa_nil (hsa _ _ _ h1)) (by decide) (by decide) (hsa _ _ _ h1) rfl, P, r, s, a0, x, s', h1, gd, fun v H1 a1 g1 e1 l1 rb => ?_⟩
    have fin : ∀ (xs : List V) (l : List D), d = .lst l → Rs X.K cl a1 (minus H1 (Ow P r σ)) xs l → ∀ p', H1 p' = none → Q (V.ref p') (upd H1 p' (.lst xs)) := fun xs l ed rr p' hp' => by
      have hp0 : H p' = none := by
        cases z : H p' with
        | none => rfl
        | some o => exact absurd hp' (e1.alc p' (by rw [z]; exact fun w => nomatch w))
      refine q p' xs l _ a1 (g1.new hp') (e1.trans (Ext.same (same_new hp')) (Le.refl _)) l1 ed hp0 upd_same ?_
      refine rr.mono (Keep.minus (Keep.sub.trans (Ext.same (a1 := a1) (same_new hp')).keep) fun a o n ha z => ?_) (Le.refl _)
      rcases z with z | z
      · exact n z
      · rw [z, hp'] at ha; cases ha
    cases x with
    | tup l =>
      cases hz
      obtain ⟨p', xs, rfl, _, ep, rr⟩ := rb.tup
      exact ⟨p', xs, rfl, .inr (SqT.of ep), fin xs l rfl rr⟩
    | lst l =>
      cases hz
      obtain ⟨p', xs, rfl, ep, rr⟩ := rb.lst
      exact ⟨p', xs, rfl, .inl (SqL.of ep), fin xs l rfl rr⟩
    | _ => cases hz
/-- isinstance -/
theorem pe_isiD {a : Expr} {t : Str} {y : String} {p p2 pos : Pos} {fa : Rho → S → Option (D × S)} (hC : Ctx cl k X c) (hg : bltB c "isinstance" = true) (ht : bltB c t = true) (hT : bootBuiltins t = some (.type y)) (hn : t ≠ ("__name__" : Str)) (hd0 : (t == ("__debug__" : Str)) = false)
    (ha : PE X a (tX RV X.K cl fa)) (hsa : ∀ r s y, fa r s = some y → ∀ es env, starEach (a :: es) env = (false, eval a env) :: starEach es env) {P : AS} {r : Rho} {s s' : S} {a0 : Option Addr} {d : D} {z : String} {b : Bool} {σ : L2.St} {H : Hp} {Q : VK}
    (h1 : fa r s = some (d, s')) (hz : tyD d = some z) (hk : kitB z y = some b) (gd : Good X.K cl P r s a0 σ H) (q : ∀ v H' a1, Good X.K cl P r s' a1 σ H' → Ext a1 H H' → Le a0 a1 → RV X.K cl a1 H' (Ow P r σ) v (.bl b) → Q v H') :
    ∃ tt, PE X (.Call (.Name "isinstance" p) [a, .Name t p2] [] pos) tt ∧ tt σ H Q := by
  obtain ⟨hgl, hm⟩ := blt_at hC hg
  obtain ⟨tgl, tm⟩ := blt_at hC ht
  have hname : PE X (.Name t p2) (tC (.ty y)) := pe_bltn tgl tm hT rfl hn hd0
  refine ⟨_, pe_callB call_isi hgl hm (by decide +kernel) (pa_cons ha (pa_cons hname pa_nil rfl) (hsa _ _ _ h1 _ _)) (by decide) (by decide) (hsa _ _ _ h1 _ _) rfl, P, r, s, a0, d, s', h1, gd, fun v H1 a1 g1 e1 l1 rv => ?_⟩
  exact ⟨v, .ty y, .type z, .type y, b, rfl, .ty y, ty_of hz rv, kit_ty hk, q _ H1 a1 g1 e1 l1 (.bl b)⟩

/-! ### what is walked -/
structure Yl (J : It) (K : PySem.W.Frag) (cl : Addr) (a0 : Option Addr) (Hs : Hp) (O : AS) (Kp : Hp → Prop) (xs : List D) : Prop where
  go : ∀ i H, i < xs.length → Kp H → J.go i H
  stop : ∀ i H, xs.length ≤ i → Kp H → J.stop i H
  yld : ∀ (i : Nat) (H : Hp) (v : V) (H' : Hp) (d : D), xs[i]? = some d → Kp H → J.yld i H v H' → Same H H' ∧ ∀ G : Hp, Keep (minus Hs O) G → (∀ a o, H a = none → H' a = some o → G a = some o) → R K cl a0 G v d
structure KOk (VR : VRel) (KP : Hp → AS → Hp → Prop) : Prop where
  tup : ∀ {K : PySem.W.Frag} {cl : Addr} {a0 : Option Addr} {Hs : Hp} {O : AS} {v : V} {l : List D}, VR K cl a0 Hs O v (.tup l) → ∃ a xs, v = V.ref a ∧ Hs a = some (.tup xs) ∧ (∀ H, KP Hs O H → H a = some (.tup xs)) ∧ Rs K cl a0 (minus Hs O) xs l
  lst : ∀ {K : PySem.W.Frag} {cl : Addr} {a0 : Option Addr} {Hs : Hp} {O : AS} {v : V} {l : List D}, VR K cl a0 Hs O v (.lst l) → ∃ a xs, v = V.ref a ∧ Hs a = some (.lst xs) ∧ (∀ H, KP Hs O H → H a = some (.lst xs)) ∧ Rs K cl a0 (minus Hs O) xs l
  scr : ∀ {K : PySem.W.Frag} {cl : Addr} {a0 : Option Addr} {Hs : Hp} {O : AS} {v : V} {l : List Int}, VR K cl a0 Hs O v (.scr l) → ∃ a, v = V.ref a ∧ FzL K Hs a (l.map V.int) ∧ (∀ H, KP Hs O H → FzL K H a (l.map V.int))
  int : ∀ {K : PySem.W.Frag} {cl : Addr} {a0 : Option Addr} {Hs : Hp} {O : AS} {v : V} {i : Int}, VR K cl a0 Hs O v (.int i) → v = V.int i
def KPv : Hp → AS → Hp → Prop := fun Hs O H => Keep (minus Hs O) H
def KPb : Hp → AS → Hp → Prop := fun Hs _ H => Keep Hs H
theorem kok_v : KOk RV KPv where
  tup := fun h => by
    cases h with
    | tup h1 h2 => exact ⟨_, _, rfl, (minus_some.mp h1).2, fun H kp => kp _ _ h1 (fun z => z), h2⟩
  lst := fun h => by
    cases h with
    | lst h1 h2 => exact ⟨_, _, rfl, (minus_some.mp h1).2, fun H kp => kp _ _ h1 (fun z => z), h2⟩
  scr := fun h => by
    cases h with
    | scr h1 => exact ⟨_, rfl, Keep.sub.fz h1, fun H kp => Keep.fz kp h1⟩
  int := fun h => by cases h; rfl
theorem kok_b : KOk RB KPb where
  tup := fun h => by
    obtain ⟨a, xs, e1, _, e2, e3⟩ := RB.tup h
    exact ⟨a, xs, e1, e2, fun H kp => kp _ _ e2 (fun z => z), e3⟩
  lst := fun h => by
    obtain ⟨a, xs, e1, e2, e3⟩ := RB.lst h
    exact ⟨a, xs, e1, e2, fun H kp => kp _ _ e2 (fun z => z), e3⟩
  scr := fun h => by
    obtain ⟨a, e1, e2, e3⟩ := RB.scr h
    exact ⟨a, e1, e2, fun H kp => Keep.fz kp e2⟩
  int := fun h => RB.int h
def tSrc (KP : Hp → AS → Hp → Prop) (K : PySem.W.Frag) (cl : Addr) (f : Rho → S → Option (List D × S)) : TI := fun σ H Rr => ∃ (P : AS) (r : Rho) (s : S) (a0 : Option Addr) (xs : List D) (s' : S), f r s = some (xs, s') ∧ Good K cl P r s a0 σ H ∧
  ∀ J H' a1, Good K cl P r s' a1 σ H' → Ext a1 H H' → Le a0 a1 → Yl J K cl a1 H' (Ow P r σ) (KP H' (Ow P r σ)) xs → Rr J H'
theorem mkI {KP : Hp → AS → Hp → Prop} {tg : Expr} {f : Rho → S → Option (List D × S)} (h : ∀ (P : AS) (r : Rho) (s : S) (a0 : Option Addr) (xs : List D) (s' : S) (σ : L2.St) (H : Hp) (Rr : It → Hp → Prop), f r s = some (xs, s') → Good X.K cl P r s a0 σ H →
    (∀ J H' a1, Good X.K cl P r s' a1 σ H' → Ext a1 H H' → Le a0 a1 → Yl J X.K cl a1 H' (Ow P r σ) (KP H' (Ow P r σ)) xs → Rr J H') → ∃ t, PI X tg e t ∧ t σ H Rr) : PI X tg e (tSrc KP X.K cl f) :=
  ⟨fun pins s σ H Q I ⟨P, r, s0, a0, d, s', hf, g, q⟩ => let ⟨_, ht, hq⟩ := h P r s0 a0 d s' σ H Q hf g q; ht.run pins s σ H Q I hq⟩
theorem yl_list {K : PySem.W.Frag} {a0 : Option Addr} {Hs : Hp} {O : AS} {Kp : Hp → Prop} {a : Addr} {xs : List V} {l : List D} (hr : Rs K cl a0 (minus Hs O) xs l) (hk : ∀ H, Kp H → SqL K H a xs) : Yl (Itl K a) K cl a0 Hs O Kp l where
  go := fun i H hi kp => ⟨xs, xs[i]'(by rw [hr.length]; exact hi), hk H kp, List.getElem?_eq_getElem _⟩
  stop := fun i H hi kp => ⟨xs, hk H kp, by rw [hr.length]; exact hi⟩
  yld := fun i H v H' d hd kp hy => by
    obtain ⟨rfl, hy⟩ := hy
    refine ⟨Same.refl _, fun G kg _ => ?_⟩
    obtain ⟨w, h1, h2⟩ := hr.get hd
    have e := hy xs (hk _ kp)
    rw [h1] at e
    cases e
    exact h2.mono kg (Le.refl _)
theorem yl_tup {K : PySem.W.Frag} {a0 : Option Addr} {Hs : Hp} {O : AS} {Kp : Hp → Prop} {a : Addr} {xs : List V} {l : List D} (hr : Rs K cl a0 (minus Hs O) xs l) (hk : ∀ H, Kp H → SqT K H a xs) : Yl (Itt K a) K cl a0 Hs O Kp l where
  go := fun i H hi kp => ⟨xs, xs[i]'(by rw [hr.length]; exact hi), hk H kp, List.getElem?_eq_getElem _⟩
  stop := fun i H hi kp => ⟨xs, hk H kp, by rw [hr.length]; exact hi⟩
  yld := fun i H v H' d hd kp hy => by
    obtain ⟨rfl, hy⟩ := hy
    refine ⟨Same.refl _, fun G kg _ => ?_⟩
    obtain ⟨w, h1, h2⟩ := hr.get hd
    have e := hy xs (hk _ kp)
    rw [h1] at e
    cases e
    exact h2.mono kg (Le.refl _)
theorem yl_range {K : PySem.W.Frag} {a0 : Option Addr} {Hs : Hp} {O : AS} {Kp : Hp → Prop} {lo : Int} {n : Nat} : Yl (Itr lo n) K cl a0 Hs O Kp ((List.range n).map fun (k : Nat) => D.int (lo + (k : Int))) where
  go := fun i H hi kp => by
    rw [List.length_map, List.length_range] at hi
    exact hi
  stop := fun i H hi kp => by
    rw [List.length_map, List.length_range] at hi
    exact hi
  yld := fun i H v H' d hd kp hy => by
    obtain ⟨rfl, rfl⟩ := hy
    refine ⟨Same.refl _, fun G kg _ => ?_⟩
    rw [List.getElem?_map] at hd
    obtain ⟨j, h1, h2⟩ := Option.map_eq_some_iff.mp hd
    rw [List.getElem?_range] at h1
    · cases h1
      subst h2
      exact .int _
    · by_cases hi : i < n
      · exact hi
      · rw [List.getElem?_eq_none (by rw [List.length_range]; omega)] at h1
        cases h1
theorem zipG {l m : List D} {i : Nat} {d : D} (h : (List.zipWith (fun x y => D.tup [x, y]) l m)[i]? = some d) : ∃ x y, l[i]? = some x ∧ m[i]? = some y ∧ d = .tup [x, y] := by
  rw [List.getElem?_zipWith] at h
  cases h1 : l[i]? with
  | none => rw [h1] at h; cases h
  | some x =>
    cases h2 : m[i]? with
    | none => rw [h1, h2] at h; cases h
    | some y =>
      rw [h1, h2] at h
      cases h
      exact ⟨x, y, rfl, rfl, rfl⟩
theorem yl_zipT {K : PySem.W.Frag} {a0 : Option Addr} {Hs : Hp} {O : AS} {Kp : Hp → Prop} {a b : Addr} {xs ys : List V} {l m : List D} (hr : Rs K cl a0 (minus Hs O) xs l) (hr2 : Rs K cl a0 (minus Hs O) ys m) (hk : ∀ H, Kp H → SqT K H a xs) (hk2 : ∀ H, Kp H → SqT K H b ys) :
    Yl (RZ.ItzT K a b) K cl a0 Hs O Kp (List.zipWith (fun x y => D.tup [x, y]) l m) where
  go := fun i H hi kp => by
    rw [List.length_zipWith] at hi
    have e1 := hr.length
    have e2 := hr2.length
    exact ⟨xs, ys, xs[i]'(by omega), ys[i]'(by omega), hk H kp, hk2 H kp, List.getElem?_eq_getElem _, List.getElem?_eq_getElem _⟩
  stop := fun i H hi kp => by
    rw [List.length_zipWith] at hi
    have e1 := hr.length
    have e2 := hr2.length
    exact ⟨xs, ys, hk H kp, hk2 H kp, by omega⟩
  yld := fun i H v H' d hd kp hy => by
    obtain ⟨T, x, y, rfl, hT, rfl, f1, f2⟩ := hy
    refine ⟨same_new hT, fun G kg hn => ?_⟩
    obtain ⟨dx, dy, g1, g2, rfl⟩ := zipG hd
    obtain ⟨w1, h1, h2⟩ := hr.get g1
    obtain ⟨w2, h3, h4⟩ := hr2.get g2
    have e1 := f1 xs (hk _ kp)
    have e2 := f2 ys (hk2 _ kp)
    rw [h1] at e1
    rw [h3] at e2
    cases e1
    cases e2
    exact .tup (hn T _ hT upd_same) (.cons (h2.mono kg (Le.refl _)) (.cons (h4.mono kg (Le.refl _)) .nil))
theorem yl_zipL {K : PySem.W.Frag} {a0 : Option Addr} {Hs : Hp} {O : AS} {Kp : Hp → Prop} {a b : Addr} {xs ys : List V} {l m : List D} (hr : Rs K cl a0 (minus Hs O) xs l) (hr2 : Rs K cl a0 (minus Hs O) ys m) (hk : ∀ H, Kp H → SqL K H a xs) (hk2 : ∀ H, Kp H → SqL K H b ys) :
    Yl (Itz K a b) K cl a0 Hs O Kp (List.zipWith (fun x y => D.tup [x, y]) l m) where
  go := fun i H hi kp => by
    rw [List.length_zipWith] at hi
    have e1 := hr.length
    have e2 := hr2.length
    exact ⟨xs, ys, xs[i]'(by omega), ys[i]'(by omega), hk H kp, hk2 H kp, List.getElem?_eq_getElem _, List.getElem?_eq_getElem _⟩
  stop := fun i H hi kp => by
    rw [List.length_zipWith] at hi
    have e1 := hr.length
    have e2 := hr2.length
    exact ⟨xs, ys, hk H kp, hk2 H kp, by omega⟩
  yld := fun i H v H' d hd kp hy => by
    obtain ⟨T, x, y, rfl, hT, rfl, f1, f2⟩ := hy
    refine ⟨same_new hT, fun G kg hn => ?_⟩
    obtain ⟨dx, dy, g1, g2, rfl⟩ := zipG hd
    obtain ⟨w1, h1, h2⟩ := hr.get g1
    obtain ⟨w2, h3, h4⟩ := hr2.get g2
    have e1 := f1 xs (hk _ kp)
    have e2 := f2 ys (hk2 _ kp)
    rw [h1] at e1
    rw [h3] at e2
    cases e1
    cases e2
    exact .tup (hn T _ hT upd_same) (.cons (h2.mono kg (Le.refl _)) (.cons (h4.mono kg (Le.refl _)) .nil))
end
end CH

set_option maxRecDepth 100000
set_option maxHeartbeats 4000000
/-! Terms, fourth part: sources, the drawing dict's display, comprehensions. -/
namespace CH
open PySem PySem.Spec PyProof.Rows L2
section
variable {cl : Addr} {k : Nat} {X : Cx} {c : C} {e : Expr} {VR : VRel} {KP : Hp → AS → Hp → Prop}
def NoSet (f : Expr → Rho → S → Option (D × S)) : Prop := ∀ e r s x, f e r s = some x → ∀ es n p, e ≠ .Set es n p
theorem folded_of {it : Expr} (h : ∀ es n p, it ≠ .Set es n p) (env : Env) : ∀ x, foldedSetIterable it env x = pure x := by
  cases it with
  | Set es n p => exact absurd rfl (h es n p)
  | _ => intro _; rfl
theorem gen_src {tg it : Expr} {f : Expr → Rho → S → Option (D × S)} (hk : KOk VR KP) (hf0 : ∀ e, PE X e (tX VR X.K cl (f e))) : PI X tg it (tSrc KP X.K cl (genE f it)) := by
  refine mkI fun P r s a0 xs s' σ H Rr hf g q => ?_
  unfold genE at hf
  cases h1 : f it r s with
  | none => rw [h1] at hf; cases hf
  | some p1 =>
    obtain ⟨d, s1⟩ := p1
    rw [h1] at hf
    obtain ⟨l, hl, e⟩ := Option.map_eq_some_iff.mp hf
    cases e
    cases d with
    | lst l' =>
      cases hl
      refine ⟨_, pi_list (hf0 it), P, r, s, a0, _, _, h1, g, fun v H1 a1 g1 e1 l1 rv => ?_⟩
      obtain ⟨a, ys, rfl, e0, ek, rr⟩ := hk.lst rv
      exact ⟨a, rfl, ⟨ys, SqL.of e0⟩, q _ H1 a1 g1 e1 l1 (yl_list rr fun H kp => SqL.of (ek H kp))⟩
    | tup l' =>
      cases hl
      refine ⟨_, pi_tup (hf0 it), P, r, s, a0, _, _, h1, g, fun v H1 a1 g1 e1 l1 rv => ?_⟩
      obtain ⟨a, ys, rfl, e0, ek, rr⟩ := hk.tup rv
      exact ⟨a, rfl, ⟨ys, SqT.of e0⟩, q _ H1 a1 g1 e1 l1 (yl_tup rr fun H kp => SqT.of (ek H kp))⟩
    | scr l' =>
      cases hl
      refine ⟨_, pi_list (hf0 it), P, r, s, a0, _, _, h1, g, fun v H1 a1 g1 e1 l1 rv => ?_⟩
      obtain ⟨a, rfl, e0, ek⟩ := hk.scr rv
      exact ⟨a, rfl, ⟨_, e0.seq⟩, q _ H1 a1 g1 e1 l1 (yl_list (Rs.ofInts l') fun H kp => (ek H kp).seq)⟩
    | _ => cases hl
theorem range_some {lo hi : Int} {l : List D} (h : rangeD lo hi = some l) : (-(2 ^ 62) ≤ lo ∧ lo < 2 ^ 62 ∧ -(2 ^ 62) ≤ hi ∧ hi < 2 ^ 62) ∧ l = (List.range (hi - lo).toNat).map fun (k : Nat) => D.int (lo + (k : Int)) := by
  unfold rangeD at h
  obtain ⟨h1, h2⟩ := ite_some h
  have key : ∀ x : Int, x.natAbs.log2 < 62 → -(2 ^ 62) ≤ x ∧ x < 2 ^ 62 := fun x hx => by
    by_cases e : x.natAbs = 0
    · have : x = 0 := by omega
      rw [this]; exact ⟨by decide, by decide⟩
    · have := (Nat.log2_lt e).mp hx
      omega
  exact ⟨⟨(key lo h1.1).1, (key lo h1.1).2, (key hi h1.2).1, (key hi h1.2).2⟩, h2.symm⟩
theorem src_D {tg it : Expr} {f : Expr → Rho → S → Option (D × S)} (hC : Ctx cl k X c) (hk : KOk VR KP) (hx : VExt VR) (hf0 : ∀ e, PE X e (tX VR X.K cl (f e))) (hs : NoStar f) : PI X tg it (tSrc KP X.K cl (srcE f c tg it)) := by
  by_cases hpat : ∃ g p as q, it = .Call (.Name g p) as [] q
  · obtain ⟨g, p, as, pq, rfl⟩ := hpat
    by_cases hg : g = "range"
    · subst hg
      refine mkI fun P r s a0 xs s' σ H Rr hf gd q => ?_
      unfold srcE at hf
      dsimp only at hf
      rw [if_pos rfl] at hf
      by_cases hb : bltB c "range" = true
      · rw [if_pos hb] at hf
        obtain ⟨hgl, hm⟩ := blt_at hC hb
        match as, hf with
        | [a], hf =>
          dsimp only at hf
          cases h1 : f a r s with
          | none => rw [h1] at hf; cases hf
          | some p1 =>
            obtain ⟨x, s1⟩ := p1
            rw [h1] at hf
            cases x with
            | int n =>
              obtain ⟨l, hl, e⟩ := Option.map_eq_some_iff.mp hf
              cases e
              obtain ⟨⟨_, _, b1, b2⟩, rfl⟩ := range_some hl
              refine ⟨_, pi_range1 hgl hm (pa_cons (hf0 a) pa_nil (hs _ _ _ _ h1 _ _)) (hs _ _ _ _ h1 _ _), P, r, s, a0, _, _, h1, gd, fun v H1 a1 g1 e1 l1 rv => ?_⟩
              have ev := hk.int rv
              subst ev
              refine ⟨n, rfl, b1, b2, q _ H1 a1 g1 e1 l1 ?_⟩
              rw [Int.sub_zero]
              exact yl_range
            | _ => cases hf
        | [a, b], hf =>
          dsimp only at hf
          cases h1 : f a r s with
          | none => rw [h1] at hf; cases hf
          | some p1 =>
            obtain ⟨x, s1⟩ := p1
            rw [h1] at hf
            cases x with
            | int m =>
              dsimp only at hf
              cases h2 : f b r s1 with
              | none => rw [h2] at hf; cases hf
              | some p2 =>
                obtain ⟨y, s2⟩ := p2
                rw [h2] at hf
                cases y with
                | int n =>
                  obtain ⟨l, hl, e⟩ := Option.map_eq_some_iff.mp hf
                  cases e
                  obtain ⟨bb, rfl⟩ := range_some hl
                  have z1 := hs _ _ _ _ h2 [] X.env
                  have z2 := hs _ _ _ _ h1 [b] X.env
                  refine ⟨_, pi_range2 hgl hm (pa_cons (hf0 a) (pa_cons (hf0 b) pa_nil z1) z2) (by rw [z2, z1]; rfl) z1, P, r, s, a0, _, _, h1, gd, fun v H1 a1 g1 e1 l1 rv => ⟨P, r, s1, a1, _, _, h2, g1, fun u H2 a2 g2 e2 l2 ru => ?_⟩⟩
                  have ev := hk.int rv
                  have eu := hk.int ru
                  subst ev
                  subst eu
                  exact ⟨m, n, rfl, bb, q _ H2 a2 g2 (e1.trans e2 l2) (l1.trans l2) yl_range⟩
                | _ => cases hf
            | _ => cases hf
        | [], hf => cases hf
        | _ :: _ :: _ :: _, hf => cases hf
      · rw [if_neg hb] at hf; cases hf
    · by_cases hz : g = "zip"
      · subst hz
        refine mkI fun P r s a0 xs s' σ H Rr hf gd q => ?_
        unfold srcE at hf
        dsimp only at hf
        rw [if_neg hg, if_pos rfl] at hf
        by_cases hb : (bltB c "zip" && tupE tg) = true
        · rw [if_pos hb] at hf
          rw [Bool.and_eq_true] at hb
          obtain ⟨hgl, hm⟩ := blt_at hC hb.1
          obtain ⟨es, kk, tp, rfl⟩ : ∃ es kk tp, tg = .Tuple es kk tp := by
            cases tg with
            | Tuple es kk tp => exact ⟨es, kk, tp, rfl⟩
            | _ => cases hb.2
          match as, hf with
          | [a, b], hf =>
            dsimp only at hf
            cases h1 : f a r s with
            | none => rw [h1] at hf; cases hf
            | some p1 =>
              obtain ⟨x, s1⟩ := p1
              rw [h1] at hf
              dsimp only at hf
              cases h2 : f b r s1 with
              | none => rw [h2] at hf; cases hf
              | some p2 =>
                obtain ⟨y, s2⟩ := p2
                rw [h2] at hf
                obtain ⟨l, hl, e⟩ := Option.map_eq_some_iff.mp hf
                cases e
                have z1 := hs _ _ _ _ h2 [] X.env
                have z2 := hs _ _ _ _ h1 [b] X.env
                refine ⟨_, RZ.pi_zipA hgl hm (pa_cons (hf0 a) (pa_cons (hf0 b) pa_nil z1) z2) z2 (by rw [z1]; rfl), P, r, s, a0, _, _, h1, gd, fun v H1 a1 g1 e1 l1 rv => ⟨P, r, s1, a1, _, _, h2, g1, fun u H2 a2 g2 e2 l2 ru => ?_⟩⟩
                have rv := hx _ _ _ _ _ _ _ _ _ rv e2 l2
                cases x with
                | tup t1 =>
                  cases y with
                  | tup t2 =>
                    cases hl
                    obtain ⟨p1, ys1, rfl, e01, ek1, rr1⟩ := hk.tup rv
                    obtain ⟨p2, ys2, rfl, e02, ek2, rr2⟩ := hk.tup ru
                    exact ⟨p1, p2, ys1, ys2, rfl, .inr ⟨SqT.of e01, SqT.of e02, q _ H2 a2 g2 (e1.trans e2 l2) (l1.trans l2) (yl_zipT rr1 rr2 (fun H kp => SqT.of (ek1 H kp)) fun H kp => SqT.of (ek2 H kp))⟩⟩
                  | _ => cases hl
                | lst t1 =>
                  cases y with
                  | lst t2 =>
                    cases hl
                    obtain ⟨p1, ys1, rfl, e01, ek1, rr1⟩ := hk.lst rv
                    obtain ⟨p2, ys2, rfl, e02, ek2, rr2⟩ := hk.lst ru
                    exact ⟨p1, p2, ys1, ys2, rfl, .inl ⟨SqL.of e01, SqL.of e02, q _ H2 a2 g2 (e1.trans e2 l2) (l1.trans l2) (yl_zipL rr1 rr2 (fun H kp => SqL.of (ek1 H kp)) fun H kp => SqL.of (ek2 H kp))⟩⟩
                  | _ => cases hl
                | _ => cases hl
          | [], hf => cases hf
          | [_], hf => cases hf
          | _ :: _ :: _ :: _, hf => cases hf
        · rw [if_neg hb] at hf; cases hf
      · have e0 : srcE f c tg (.Call (.Name g p) as [] pq) = genE f (.Call (.Name g p) as [] pq) := by
          funext r s
          show (if g = "range" then _ else if g = "zip" then _ else genE f _ r s) = _
          rw [if_neg hg, if_neg hz]
        rw [e0]
        exact gen_src hk hf0
  · have e0 : srcE f c tg it = genE f it := by
      funext r s
      unfold srcE
      split
      · rename_i g p as q
        exact absurd ⟨g, p, as, q, rfl⟩ hpat
      · rfl
    rw [e0]
    exact gen_src hk hf0
/-- the source is no set -/
theorem src_set {tg it : Expr} {f : Expr → Rho → S → Option (D × S)} (hs : NoSet f) {r : Rho} {s : S} {x : List D × S} (h : srcE f c tg it r s = some x) : ∀ es n p, it ≠ .Set es n p := by
  intro es n p e
  subst e
  have h' : genE f (.Set es n p) r s = some x := h
  unfold genE at h'
  cases h1 : f (.Set es n p) r s with
  | none => rw [h1] at h'; cases h'
  | some y => exact hs _ _ _ _ h1 es n p rfl

/-! ### the drawing dict -/
theorem pe_dictD {e1 e2 e3 e4 : Expr} {j1 j2 j3 j4 : Nat} {p1 p2 p3 p4 pos : Pos} {f : Expr → Rho → S → Option (D × S)} (hf0 : ∀ e, PE X e (tX RV X.K cl (f e))) :
    PE X (.Dict [some (.Constant (.str "numbers") j1 p1), some (.Constant (.str "at") j2 p2), some (.Constant (.str "rest") j3 p3), some (.Constant (.str "seed") j4 p4)] [e1, e2, e3, e4] pos) (tX RV X.K cl fun r s => match s with
      | none => match seqE f [e1, e2, e3, e4] r none with
          | some ([.scr l, .int a, .int b, .int d], none) => some (.hnd, some ⟨l, a, b, d⟩)
          | _ => none
      | some _ => none) := by
  refine mkE fun P r s a0 d s' σ H Q hf g q => ?_
  cases s with
  | some t => cases hf
  | none =>
    dsimp only at hf
    split at hf
    · rename_i l a b d h0
      cases hf
      have h0' : (match f e1 r none with
        | none => none
        | some (d, s1) => match (match f e2 r s1 with
          | none => none
          | some (d, s1) => match (match f e3 r s1 with
            | none => none
            | some (d, s1) => match (match f e4 r s1 with
              | none => none
              | some (d, s1) => some ([d], s1) : Option (List D × S)) with
              | none => none
              | some (ds, s2) => some (d :: ds, s2) : Option (List D × S)) with
            | none => none
            | some (ds, s2) => some (d :: ds, s2) : Option (List D × S)) with
          | none => none
          | some (ds, s2) => some (d :: ds, s2) : Option (List D × S)) = some ([D.scr l, D.int a, D.int b, D.int d], none) := h0
      cases h1 : f e1 r none with
      | none => rw [h1] at h0'; cases h0'
      | some y1 =>
        obtain ⟨x1, s1⟩ := y1
        rw [h1] at h0'
        dsimp only at h0'
        cases h2 : f e2 r s1 with
        | none => rw [h2] at h0'; cases h0'
        | some y2 =>
          obtain ⟨x2, s2⟩ := y2
          rw [h2] at h0'
          dsimp only at h0'
          cases h3 : f e3 r s2 with
          | none => rw [h3] at h0'; cases h0'
          | some y3 =>
            obtain ⟨x3, s3⟩ := y3
            rw [h3] at h0'
            dsimp only at h0'
            cases h4 : f e4 r s3 with
            | none => rw [h4] at h0'; cases h0'
            | some y4 =>
              obtain ⟨x4, s4⟩ := y4
              rw [h4] at h0'
              cases h0'
              have pps : PPs X pos [some (.Constant (.str "numbers") j1 p1), some (.Constant (.str "at") j2 p2), some (.Constant (.str "rest") j3 p3), some (.Constant (.str "seed") j4 p4)] [e1, e2, e3, e4] [(tC (.str "numbers"), tX RV X.K cl (f e1)), (tC (.str "at"), tX RV X.K cl (f e2)), (tC (.str "rest"), tX RV X.K cl (f e3)), (tC (.str "seed"), tX RV X.K cl (f e4))] :=
                pps_cons pe_str (hf0 e1) (pps_cons pe_str (hf0 e2) (pps_cons pe_str (hf0 e3) (pps_cons pe_str (hf0 e4) pps_nil)))
              refine ⟨_, pe_disp pps rfl rfl (fun z => by cases z) (by show 4 ≤ 15; decide), fun p hp => ?_⟩
              have g0 := g.new (o := .dK []) hp
              refine ⟨P, r, none, a0, _, s1, h1, g0, fun v1 H1 a1 g1 e1' l1 r1 => ⟨P, r, s1, a1, _, s2, h2, g1, fun v2 H2 a2 g2 e2' l2 r2 => ⟨P, r, s2, a2, _, s3, h3, g2, fun v3 H3 a3 g3 e3' l3 r3 => ⟨P, r, s3, a3, _, none, h4, g3, fun v4 H4 a4 g4 e4' l4 r4 => ?_⟩⟩⟩⟩
              have ea : a4 = none := g4.st
              subst ea
              have ee := ((e1'.trans e2' l2).trans e3' l3).trans e4' l4
              have hpd : H4 p = some (.dK []) := ee.dk p [] upd_same (fun z => by cases z)
              have rs1 := ((RV.ext r1 e2' l2).ext e3' l3).ext e4' l4
              cases rs1 with
              | scr hz =>
                rename_i bb
                cases r2
                cases r3
                cases r4
                refine ⟨hpd, kvs4 bb ⟨l, a, b, d⟩, rfl, (by show 4 ≤ 15; decide), ?_⟩
                have em : mergeK [] (kvs4 bb ⟨l, a, b, d⟩) = kvs4 bb ⟨l, a, b, d⟩ := rfl
                rw [em]
                have np : ¬ Ow P r σ p := fun z => g.owAlc p z hp
                have ext : Ext (some p) H (upd H4 p (.dK (kvs4 bb ⟨l, a, b, d⟩))) := by
                  have e0 : Ext none H (upd H p (.dK [])) := Ext.same (same_new hp)
                  have e9 := e0.trans ee (Le.refl _)
                  refine ⟨fun x o hx hd => ?_, fun x hx => ?_, fun x kvs hx hd => ?_⟩
                  · have hxp : x ≠ p := fun z => by rw [z, hp] at hx; cases hx
                    rw [upd_ne hxp]
                    exact e9.keep x o hx hd
                  · by_cases hxp : x = p
                    · rw [hxp, upd_same]; exact fun z => nomatch z
                    · rw [upd_ne hxp]; exact e9.alc x hx
                  · have hxp : x ≠ p := fun z => hd (by rw [z])
                    rw [upd_ne hxp]
                    exact e9.dk x kvs hx (fun z => by cases z)
                have st : StOk X.K (some p) (some ⟨l, a, b, d⟩) (minus (upd H4 p (.dK (kvs4 bb ⟨l, a, b, d⟩))) (Ow P r σ)) := by
                  refine ⟨p, bb, rfl, minus_some.mpr ⟨np, upd_same⟩, ?_⟩
                  rcases hz with ⟨o, hz⟩ | hz
                  · obtain ⟨m1, m2⟩ := minus_some.mp hz
                    refine .inl ⟨o, minus_some.mpr ⟨m1, ?_⟩⟩
                    rw [upd_ne]
                    · exact m2
                    · intro z
                      rw [z, hpd] at m2
                      cases m2
                  · exact .inr hz
                have le : Le a0 (some p) := fun x hx => by
                  have : a0 = none := g.st
                  rw [this] at hx; cases hx
                exact q _ _ (some p) (g.ext ext le st) ext le (.hnd rfl)
    · cases hf
end
end CH

set_option maxRecDepth 100000
set_option maxHeartbeats 4000000
/-! Targets; comprehensions. -/
namespace CH
open PySem PySem.Spec PyProof.Rows L2
section
variable {cl : Addr} {k : Nat} {X : Cx} {c : C} {e : Expr} {VR : VRel} {KP : Hp → AS → Hp → Prop}
/-! ### targets -/
def setV : List Nat → List V → L2.St → L2.St
  | i :: is, v :: vs, σ => setV is vs (σ.set i (some v))
  | _, _, σ => σ
def tSets (is : List Nat) : TGs := fun vs σ H Q => vs.length = is.length ∧ Q (setV is vs σ) H
theorem tgt_cons {x : Str} {px : Pos} {es : List Expr} {is : List Nat} (h : tgtL c (.Name x px :: es) = some is) : ∃ i is', dstOf c x = some i ∧ tgtL c es = some is' ∧ is = i :: is' := by
  have h : (match dstOf c x, tgtL c es with
      | some i, some is => some (i :: is)
      | _, _ => none) = some is := h
  cases h1 : dstOf c x with
  | none => rw [h1] at h; cases h
  | some i =>
    cases h2 : tgtL c es with
    | none => rw [h1, h2] at h; cases h
    | some is' =>
      rw [h1, h2] at h
      cases h
      exact ⟨i, is', rfl, rfl, rfl⟩
theorem pgs_D (hC : Ctx cl k X c) : ∀ (es : List Expr) (is : List Nat), tgtL c es = some is → PGs X es (tSets is) ∧ (assignEach es X.env).length = is.length ∧ (assignEach es X.env).findIdx? (·.1) = none
  | [], is, h => by
    cases h
    refine ⟨⟨fun pins s σ H vs us Q I r q => pgs_nil.run pins s σ H vs us Q I r ?_⟩, rfl, rfl⟩
    obtain ⟨q1, q2⟩ := q
    have e : vs = [] := List.eq_nil_of_length_eq_zero q1
    subst e
    exact ⟨rfl, q2⟩
  | .Name x px :: es, is, h => by
    obtain ⟨i, is', h1, h2, rfl⟩ := tgt_cons h
    obtain ⟨p1, p2, p3⟩ := pgs_D hC es is' h2
    obtain ⟨n1, n2, n3⟩ := dst_at hC h1
    have nd : X.N.Nodup := by rw [hC.N]; exact hC.nd
    refine ⟨⟨fun pins s σ H vs us Q I r q => (pgs_cons (pg_name nd n1 n2 n3) p1 rfl).run pins s σ H vs us Q I r ?_⟩, ?_, ?_⟩
    · obtain ⟨q1, q2⟩ := q
      cases vs with
      | nil => cases q1
      | cons v vs => exact ⟨v, vs, rfl, Nat.succ.inj q1, q2⟩
    · show (assignEach es X.env).length + 1 = _
      rw [p2]; rfl
    · have e1 : assignEach (.Name x px :: es) X.env = (false, assign (.Name x px) X.env) :: assignEach es X.env := rfl
      rw [e1, List.findIdx?_cons, p3]
      rfl
  | .BoolOp _ _ _ :: _, _, h => by cases h
  | .NamedExpr _ _ _ :: _, _, h => by cases h
  | .BinOp _ _ _ _ :: _, _, h => by cases h
  | .UnaryOp _ _ _ :: _, _, h => by cases h
  | .Lambda _ _ _ _ :: _, _, h => by cases h
  | .IfExp _ _ _ _ :: _, _, h => by cases h
  | .Dict _ _ _ :: _, _, h => by cases h
  | .Set _ _ _ :: _, _, h => by cases h
  | .ListComp _ _ _ _ :: _, _, h => by cases h
  | .SetComp _ _ _ _ :: _, _, h => by cases h
  | .DictComp _ _ _ _ _ :: _, _, h => by cases h
  | .GeneratorExp _ _ _ _ :: _, _, h => by cases h
  | .Await _ _ :: _, _, h => by cases h
  | .Yield _ _ :: _, _, h => by cases h
  | .YieldFrom _ _ :: _, _, h => by cases h
  | .Compare _ _ _ _ :: _, _, h => by cases h
  | .Call _ _ _ _ :: _, _, h => by cases h
  | .FormattedValue _ _ _ _ :: _, _, h => by cases h
  | .JoinedStr _ _ :: _, _, h => by cases h
  | .Constant _ _ _ :: _, _, h => by cases h
  | .Attribute _ _ _ :: _, _, h => by cases h
  | .Subscript _ _ _ :: _, _, h => by cases h
  | .Starred _ _ :: _, _, h => by cases h
  | .List _ _ :: _, _, h => by cases h
  | .Tuple _ _ _ :: _, _, h => by cases h
  | .Slice _ _ _ _ :: _, _, h => by cases h
/-- where a target's names lie -/
def tgtIs (c : C) : Expr → Option (List Nat)
  | .Name x _ => (dstOf c x).map fun i => [i]
  | .Tuple es _ _ => tgtL c es
  | _ => none
theorem ows_set_eq {r : Rho} {σ : L2.St} {i : Nat} {d : D} {v : V} (h : ∀ l, r[i]? ≠ some (Slot.own l)) : OwS (r.set i (.v d)) (σ.set i (some v)) = OwS r σ := by
  funext a
  apply propext
  constructor
  · exact ows_setv a
  · rintro ⟨j, l, h1, h2⟩
    have ne : i ≠ j := fun z => h l (by rw [z]; exact h1)
    exact ⟨j, l, by rw [List.getElem?_set_ne ne]; exact h1, by rw [List.getElem?_set_ne ne]; exact h2⟩
/-- setting several slots -/
theorem good_setAll {P : AS} {s : S} {a0 : Option Addr} {H : Hp} : ∀ (is : List Nat) (ds : List D) (vs : List V) (r r' : Rho) (σ : L2.St), setAll is ds r = some r' → Good X.K cl P r s a0 σ H → Rs X.K cl a0 (minus H (Ow P r σ)) vs ds →
    vs.length = is.length ∧ Good X.K cl P r' s a0 (setV is vs σ) H ∧ (∀ a, OwS r' (setV is vs σ) a → OwS r σ a) ∧ ((∀ i ∈ is, ∀ l, r[i]? ≠ some (Slot.own l)) → OwS r' (setV is vs σ) = OwS r σ)
  | [], [], vs, r, r', σ, h, g, hr => by
    cases h
    cases hr
    exact ⟨rfl, g, fun _ h => h, fun _ => rfl⟩
  | i :: is, d :: ds, vs, r, r', σ, h, g, hr => by
    cases hr with
    | @cons v vs d ds h1 h2 =>
      have h : setAll is ds (r.set i (.v d)) = some r' := h
      have g1 := g.setv (i := i) h1
      have kk : Keep (minus H (Ow P r σ)) (minus H (Ow P (r.set i (.v d)) (σ.set i (some v)))) := Keep.sub.minus fun a o n _ z => n (z.imp id fun y => ows_setv a y)
      obtain ⟨q1, q2, q3, q4⟩ := good_setAll is ds vs _ r' _ h g1 (h2.mono kk (Le.refl _))
      refine ⟨congrArg (· + 1) q1, q2, fun a z => ows_setv a (q3 a z), fun hn => ?_⟩
      have hi := hn i List.mem_cons_self
      show OwS r' (setV is vs (σ.set i (some v))) = _
      rw [q4 fun j hj l z => ?_, ows_set_eq hi]
      rcases set_getv z with ⟨_, e, _⟩ | ⟨_, z⟩
      · cases e
      · exact hn j (List.mem_cons_of_mem _ hj) l z
  | [], _ :: _, _, _, _, _, h, _, _ => by cases h
  | _ :: _, [], _, _, _, _, h, _, _ => by cases h
theorem wipe_set {σ : L2.St} {i : Nat} {x : Option V} : ∀ {vs : List Nat}, i ∈ vs → wipe (σ.set i x) vs = wipe σ vs
  | v :: vs, h => by
    show (wipe (σ.set i x) vs).set v none = (wipe σ vs).set v none
    by_cases e : i ∈ vs
    · rw [wipe_set e]
    · rcases List.mem_cons.mp h with rfl | h
      · clear h
        have key : ∀ (ws : List Nat), i ∉ ws → wipe (σ.set i x) ws = (wipe σ ws).set i x := by
          intro ws
          induction ws with
          | nil => intro _; rfl
          | cons w ws ih =>
            intro hw
            rw [List.mem_cons, not_or] at hw
            show (wipe (σ.set i x) ws).set w none = ((wipe σ ws).set w none).set i x
            rw [ih hw.2, List.set_comm _ _ hw.1]
        rw [key vs e, List.set_set]
      · exact absurd h e
theorem wipe_setV : ∀ (is : List Nat) (ws : List V) (σ : L2.St) {vs : List Nat}, (∀ i ∈ is, i ∈ vs) → wipe (setV is ws σ) vs = wipe σ vs
  | [], _, _, _, _ => rfl
  | _ :: _, [], _, _, _ => rfl
  | i :: is, w :: ws, σ, vs, h => by
    show wipe (setV is ws (σ.set i (some w))) vs = _
    rw [wipe_setV is ws _ fun j hj => h j (List.mem_cons_of_mem _ hj), wipe_set (h i List.mem_cons_self)]
/-- a target's reading -/
def tBind (K : PySem.W.Frag) (cl : Addr) (c : C) (tg : Expr) : TG := fun v σ H Q => ∃ (P : AS) (r : Rho) (s : S) (a0 : Option Addr) (d : D) (r' : Rho), bindT c tg d r = some r' ∧ Good K cl P r s a0 σ H ∧ R K cl a0 (minus H (Ow P r σ)) v d ∧
  ∀ σ' is, tgtIs c tg = some is → Good K cl P r' s a0 σ' H → (∀ a, OwS r' σ' a → OwS r σ a) → ((∀ i ∈ is, ∀ l, r[i]? ≠ some (Slot.own l)) → OwS r' σ' = OwS r σ) → (∀ vs, (∀ i ∈ is, i ∈ vs) → wipe σ' vs = wipe σ vs) → Q σ' H
theorem pg_D (hC : Ctx cl k X c) (tg : Expr) : PG X tg (tBind X.K cl c tg) := by
  refine ⟨fun pins s0 σ H v u Q I rv ⟨P, r, s, a0, d, r', hb, g, hr, q⟩ => ?_⟩
  have nd : X.N.Nodup := by rw [hC.N]; exact hC.nd
  cases tg with
  | Name x px =>
    obtain ⟨i, hi, e⟩ := Option.map_eq_some_iff.mp hb
    cases e
    obtain ⟨n1, n2, n3⟩ := dst_at hC hi
    refine (pg_name nd n1 n2 n3).run pins s0 σ H v u Q I rv ?_
    refine q _ [i] (by show (dstOf c x).map _ = _; rw [hi]; rfl) (g.setv hr) (fun a z => ows_setv a z) (fun hn => ows_set_eq (hn i List.mem_cons_self)) fun vs hv => wipe_set (hv i List.mem_cons_self)
  | Tuple es kk tp =>
    unfold bindT at hb
    dsimp only at hb
    cases h1 : tgtL c es with
    | none => rw [h1] at hb; cases hb
    | some is =>
      rw [h1] at hb
      cases d with
      | tup ds =>
        dsimp only at hb
        obtain ⟨p1, p2, p3⟩ := pgs_D hC es is h1
        refine (pg_tup hC.calm p1 rfl p3).run pins s0 σ H v u Q I rv ?_
        cases hr with
        | tup h2 h3 =>
          obtain ⟨q1, q2, q3, q4⟩ := good_setAll is ds _ r r' σ hb g h3
          exact ⟨_, _, rfl, SqT.of (minus_some.mp h2).2, q1.trans p2.symm, q1, q _ is h1 q2 q3 q4 fun vs hv => wipe_setV is _ σ hv⟩
      | _ => cases hb
  | _ => cases hb

/-! ### the block's state -/
theorem wipeR_some {r : Rho} {i : Nat} {x : Slot} : ∀ {vs : List Nat}, (wipeR r vs)[i]? = some x → x ≠ .un → r[i]? = some x ∧ i ∉ vs
  | [], h, _ => ⟨h, fun z => nomatch z⟩
  | v :: vs, h, hx => by
    have h : ((wipeR r vs).set v .un)[i]? = some x := h
    rcases set_getv h with ⟨_, e, _⟩ | ⟨ne, h⟩
    · exact absurd e hx
    · obtain ⟨h1, h2⟩ := wipeR_some h hx
      refine ⟨h1, fun z => ?_⟩
      rcases List.mem_cons.mp z with z | z
      · exact ne z.symm
      · exact h2 z
theorem wipeR_length (r : Rho) : ∀ vs, (wipeR r vs).length = r.length
  | [] => rfl
  | v :: vs => by
    show ((wipeR r vs).set v .un).length = _
    rw [List.length_set, wipeR_length r vs]
theorem wipe_out' {σ : L2.St} {i : Nat} : ∀ {vs : List Nat}, i ∉ vs → (wipe σ vs)[i]? = σ[i]?
  | [], _ => rfl
  | v :: vs, h => by
    rw [List.mem_cons, not_or] at h
    show ((wipe σ vs).set v none)[i]? = _
    rw [List.getElem?_set_ne (Ne.symm h.1), wipe_out' h.2]
theorem ows_wipe {r : Rho} {σ : L2.St} {vs : List Nat} (a : Addr) (h : OwS (wipeR r vs) (wipe σ vs) a) : OwS r σ a := by
  obtain ⟨i, l, h1, h2⟩ := h
  obtain ⟨h3, h4⟩ := wipeR_some h1 (fun z => nomatch z)
  rw [wipe_out' h4] at h2
  exact ⟨i, l, h3, h2⟩
/-- what a block must leave alone -/
def PB (P : AS) (r : Rho) (σ : L2.St) (vs : List Nat) (Dl : Addr) : AS := fun a => (Ow P r σ a ∧ ¬ OwS (wipeR r vs) (wipe σ vs) a) ∨ a = Dl
def OB (P : AS) (r : Rho) (σ : L2.St) (Dl : Addr) : AS := fun a => Ow P r σ a ∨ a = Dl
theorem ow_pb {P : AS} {r : Rho} {σ : L2.St} {vs : List Nat} {Dl : Addr} : Ow (PB P r σ vs Dl) (wipeR r vs) (wipe σ vs) = OB P r σ Dl := by
  funext a
  apply propext
  constructor
  · rintro ((h | h) | h)
    · exact .inl h.1
    · exact .inr h
    · exact .inl (.inr (ows_wipe a h))
  · rintro (h | h)
    · by_cases z : OwS (wipeR r vs) (wipe σ vs) a
      · exact .inr z
      · exact .inl (.inl ⟨h, z⟩)
    · exact .inl (.inr h)
theorem StOk.minus {K : PySem.W.Frag} {a0 : Option Addr} {s : S} {H H' : Hp} {O O' : AS} (h : StOk K a0 s (minus H O)) (k : ∀ a o, ¬ O a → H a = some o → ¬ O' a ∧ H' a = some o) : StOk K a0 s (minus H' O') :=
  h.same fun a o e => by
    obtain ⟨h1, h2⟩ := minus_some.mp e
    obtain ⟨h3, h4⟩ := k a o h1 h2
    exact minus_some.mpr ⟨h3, h4⟩
theorem Good.block {P : AS} {r : Rho} {s : S} {a0 : Option Addr} {σ : L2.St} {H : Hp} (g : Good X.K cl P r s a0 σ H) (vs : List Nat) {Dl : Addr} {o : HO} (hD : H Dl = none) : Good X.K cl (PB P r σ vs Dl) (wipeR r vs) s a0 (wipe σ vs) (upd H Dl o) := by
  have nO : ¬ Ow P r σ Dl := fun z => g.owAlc Dl z hD
  have kk : Keep (CH.minus H (Ow P r σ)) (CH.minus (upd H Dl o) (OB P r σ Dl)) := (Keep.sub.trans (Ext.same (a1 := a0) (same_new hD)).keep).minus fun a o' n ha z => by
    rcases z with z | z
    · exact n z
    · rw [z, hD] at ha; cases ha
  refine ⟨by rw [wipeR_length, wipe_length]; exact g.len, fun i d h => ?_, fun i l h => ?_, fun i j a l l' h1 h2 h3 h4 => ?_, ?_, fun a h => ?_⟩
  · obtain ⟨h1, h2⟩ := wipeR_some h (fun z => nomatch z)
    obtain ⟨v, e1, e2⟩ := g.val i d h1
    rw [ow_pb]
    exact ⟨v, by rw [wipe_out' h2]; exact e1, e2.mono kk (Le.refl _)⟩
  · obtain ⟨h1, h2⟩ := wipeR_some h (fun z => nomatch z)
    obtain ⟨a, xs, e1, e2, e3, e4⟩ := g.own i l h1
    rw [ow_pb]
    have hw : (wipe σ vs)[i]? = some (some (V.ref a)) := by rw [wipe_out' h2]; exact e1
    have na : a ≠ Dl := fun z => by rw [z, hD] at e3; cases e3
    refine ⟨a, xs, hw, fun z => ?_, by rw [upd_ne na]; exact e3, e4.mono kk (Le.refl _)⟩
    rcases z with z | z
    · exact z.2 ⟨i, l, h, hw⟩
    · exact na z
  · obtain ⟨k1, k2⟩ := wipeR_some h1 (fun z => nomatch z)
    obtain ⟨k3, k4⟩ := wipeR_some h2 (fun z => nomatch z)
    rw [wipe_out' k2] at h3
    rw [wipe_out' k4] at h4
    exact g.inj i j a l l' k1 k3 h3 h4
  · rw [ow_pb]
    refine g.st.minus fun a o' n h => ?_
    have na : a ≠ Dl := fun z => by rw [z, hD] at h; cases h
    exact ⟨fun z => z.elim n na, by rw [upd_ne na]; exact h⟩
  · by_cases z : a = Dl
    · rw [z, upd_same]; exact fun w => nomatch w
    · rw [upd_ne z]
      rcases h with h | h
      · exact g.owAlc a h.1
      · exact absurd h z
/-- the kept list changes -/
theorem Good.updP {P : AS} {r : Rho} {s : S} {a0 : Option Addr} {σ : L2.St} {H : Hp} (g : Good X.K cl P r s a0 σ H) {p : Addr} {o : HO} (hp : P p) : Good X.K cl P r s a0 σ (upd H p o) := by
  have em : CH.minus (upd H p o) (Ow P r σ) = CH.minus H (Ow P r σ) := minus_upd (.inl hp)
  refine ⟨g.len, fun i d h => by rw [em]; exact g.val i d h, fun i l h => ?_, g.inj, by rw [em]; exact g.st, fun a h => ?_⟩
  · obtain ⟨a, xs, e1, e2, e3, e4⟩ := g.own i l h
    rw [em]
    exact ⟨a, xs, e1, e2, by rw [upd_ne fun z => e2 (by rw [z]; exact hp)]; exact e3, e4⟩
  · by_cases z : a = p
    · rw [z, upd_same]; exact fun w => nomatch w
    · rw [upd_ne z]; exact g.alc a h
theorem ctx_blk (hC : Ctx cl k X c) (scope : Scope) (s : Shared) (H : Hp) (C' : Addr) (clo : List (Str × Addr)) (fp : List Addr) : Ctx cl k (X.blk s H scope (compEnvC scope clo C' X.env) fp) (c.blk scope) where
  pl := ⟨hC.pl.base, hC.pl.tree, hC.pl.stk, hC.pl.dp⟩
  ks := hC.ks
  ob := hC.ob
  cls := hC.cls
  mts := hC.mts
  N := hC.N
  nd := hC.nd
  calm := hC.calm
  xe := rfl
  sc := by
    show relS scope X.env.scope = relS scope c.sc
    rw [hC.sc]
  fn := rfl
  rm := hC.rm
  bn := hC.bn
  tab := hC.tab
end
end CH

set_option maxRecDepth 100000
set_option maxHeartbeats 4000000
/-! Comprehensions; all terms. -/
namespace CH
open PySem PySem.Spec PyProof.Rows L2
section
variable {cl : Addr} {k : Nat} {X : Cx} {c : C} {e : Expr}
theorem own_mem {scope : Scope} {tg : Expr} {is : List Nat} (h : tgtIs (c.blk scope) tg = some is) : ∀ i ∈ is, i ∈ (ownOf c tg).map (·.2) := by
  have key : ∀ {x : Str} {i : Nat}, dstOf (c.blk scope) x = some i → (idx c.N x).getD 0 = i := fun {x i} h => by
    unfold dstOf at h
    split at h
    · have h : idx c.N x = some i := h
      rw [h]; rfl
    · cases h
  have em : (ownOf c tg).map (·.2) = (tgtNames tg).map fun x => (idx c.N x).getD 0 := by
    unfold ownOf
    rw [List.map_map]; rfl
  rw [em]
  cases tg with
  | Name x px =>
    obtain ⟨i, hi, e⟩ := Option.map_eq_some_iff.mp h
    subst e
    intro j hj
    rw [List.mem_singleton] at hj
    subst hj
    exact List.mem_map.mpr ⟨x, List.mem_cons_self, key hi⟩
  | Tuple es kk tp =>
    have h : tgtL (c.blk scope) es = some is := h
    have go : ∀ (es : List Expr) (is : List Nat), tgtL (c.blk scope) es = some is → ∀ i ∈ is, i ∈ (tgtN es).map fun x => (idx c.N x).getD 0 := by
      intro es
      induction es with
      | nil => intro is h i hi; cases h; cases hi
      | cons e es ih =>
        intro is h i hi
        cases e with
        | Name x px =>
          obtain ⟨j, is', h1, h2, rfl⟩ := tgt_cons h
          show i ∈ (idx c.N x).getD 0 :: _
          rcases List.mem_cons.mp hi with e1 | hi
          · subst e1
            rw [key h1]
            exact List.mem_cons_self
          · exact List.mem_cons_of_mem _ (ih is' h2 i hi)
        | _ => cases h
    exact go es is h
  | _ => cases h
theorem wipeR_un {r : Rho} : ∀ {vs : List Nat} {i : Nat} {l : List D}, i ∈ vs → (wipeR r vs)[i]? ≠ some (Slot.own l) := fun {vs i l} h z => (wipeR_some z (fun w => nomatch w)).2 h
theorem comp_cons {b : D → Rho → Option Rho} {t : Rho → S → Option (Bool × S)} {f : Rho → S → Option (D × S)} {r : Rho} {x : D} {xs ys : List D} {s s2 : S} (h : compE b t f r (x :: xs) s = some (ys, s2)) :
    ∃ r1 s1, b x r = some r1 ∧ ((t r1 s = some (false, s1) ∧ compE b t f r xs s1 = some (ys, s2)) ∨ (t r1 s = some (true, s1) ∧ ∃ y s3 ys', f r1 s1 = some (y, s3) ∧ compE b t f r xs s3 = some (ys', s2) ∧ ys = y :: ys')) := by
  have h : (match b x r with
    | none => none
    | some r1 => match t r1 s with
      | none => none
      | some (false, s1) => compE b t f r xs s1
      | some (true, s1) => match f r1 s1 with
        | none => none
        | some (y, s2) => match compE b t f r xs s2 with
          | none => none
          | some (ys, s3) => some (y :: ys, s3)) = some (ys, s2) := h
  cases h1 : b x r with
  | none => rw [h1] at h; cases h
  | some r1 =>
    rw [h1] at h
    dsimp only at h
    cases h2 : t r1 s with
    | none => rw [h2] at h; cases h
    | some p =>
      obtain ⟨bb, s1⟩ := p
      rw [h2] at h
      cases bb with
      | false => exact ⟨r1, s1, rfl, .inl ⟨h2, h⟩⟩
      | true =>
        dsimp only at h
        cases h3 : f r1 s1 with
        | none => rw [h3] at h; cases h
        | some p3 =>
          obtain ⟨y, s3⟩ := p3
          rw [h3] at h
          dsimp only at h
          cases h4 : compE b t f r xs s3 with
          | none => rw [h4] at h; cases h
          | some p4 =>
            obtain ⟨ys', s4⟩ := p4
            rw [h4] at h
            cases h
            exact ⟨r1, s1, rfl, .inr ⟨h2, y, s3, ys', h3, h4, rfl⟩⟩
theorem pe_compF {tg it elt : Expr} {ifs : List Expr} {scope : Scope} {pos : Pos} {fs : Rho → S → Option (List D × S)} {ft : Rho → S → Option (Bool × S)} {fe : Rho → S → Option (D × S)} (hC : Ctx cl k X c) (hb : blkC c.N c.sc scope (ownOf c tg) = true)
    (hsrc : PI X tg it (tSrc KPb X.K cl fs)) (hset : ∀ r s x, fs r s = some x → ∀ es n p, it ≠ .Set es n p)
    (ht : ∀ (s : Shared) (H : Hp) (C' : Addr) (clo : List (Str × Addr)) (fp : List Addr), PTs (X.blk s H scope (compEnvC scope clo C' X.env) fp) ifs (tTt X.K cl ft))
    (he : ∀ (s : Shared) (H : Hp) (C' : Addr) (clo : List (Str × Addr)) (fp : List Addr), PE (X.blk s H scope (compEnvC scope clo C' X.env) fp) elt (tX RV X.K cl fe)) :
    ∀ (P : AS) (r : Rho) (s : S) (a0 : Option Addr) (d : D) (s' : S) (σ : L2.St) (H : Hp) (Q : VK), (match fs r s with
        | none => none
        | some (xs, s1) =>
          if xs.length < line then
            match compE (bindT (c.blk scope) tg) ft fe (wipeR r ((ownOf c tg).map (·.2))) xs s1 with
            | some (ys, s2) => some (D.lst ys, s2)
            | none => none
          else none) = some (d, s') → Good X.K cl P r s a0 σ H →
      (∀ p xs l H' a1, Good X.K cl P r s' a1 σ H' → Ext a1 H H' → Le a0 a1 → d = .lst l → H p = none → H' p = some (.lst xs) → Rs X.K cl a1 (minus H' (fun a => Ow P r σ a ∨ a = p)) xs l → Q (V.ref p) H') →
      (∀ x, foldedSetIterable it X.env x = pure x) ∧ tLc (tSrc KPb X.K cl fs) (tBind X.K cl (c.blk scope) tg) (tTt X.K cl ft) (tX RV X.K cl fe) ((ownOf c tg).map (·.2)) σ H Q := by
  intro P r s a0 d s' σ H Q hf g q
  generalize hvs : (ownOf c tg).map (·.2) = vs at hf ⊢
  cases h1 : fs r s with
  | none => rw [h1] at hf; cases hf
  | some p1 =>
    obtain ⟨xs, s1⟩ := p1
    rw [h1] at hf
    dsimp only at hf
    by_cases hl : xs.length < line
    · rw [if_pos hl] at hf
      cases h2 : compE (bindT (c.blk scope) tg) ft fe (wipeR r vs) xs s1 with
      | none => rw [h2] at hf; cases hf
      | some p2 =>
        obtain ⟨ys, s2⟩ := p2
        rw [h2] at hf
        cases hf
        refine ⟨folded_of (hset _ _ _ h1) _, P, r, s, a0, xs, s1, h1, g, fun J H1 a1 g1 e1 l1 yl Dl hD => ?_⟩
        have hD0 : H Dl = none := by
          cases z : H Dl with
          | none => rfl
          | some o => exact absurd hD (e1.alc Dl (by rw [z]; exact fun w => nomatch w))
        have hline : line = sizeLine := line_eq
        refine ⟨fun i m H2 => m = xs.length - i ∧ i ≤ xs.length ∧ ∃ s3 a3 acc accD ysr, compE (bindT (c.blk scope) tg) ft fe (wipeR r vs) (xs.drop i) s3 = some (ysr, s') ∧ ys = accD ++ ysr ∧ accD.length ≤ i ∧ Good X.K cl (PB P r σ vs Dl) (wipeR r vs) s3 a3 (wipe σ vs) H2 ∧ Le a1 a3 ∧ Ext a3 H1 H2 ∧ H2 Dl = some (.lst acc) ∧ Rs X.K cl a3 (minus H2 (OB P r σ Dl)) acc accD,
          ⟨xs.length, rfl, Nat.zero_le _, s1, a1, [], [], ys, h2, rfl, Nat.le_refl _, g1.block vs hD, Le.refl _, Ext.same (same_new hD), upd_same, .nil⟩, ?_⟩
        rintro i m H2 ⟨rfl, hi, s3, a3, acc, accD, ysr, hc, hys, hal, gW, l3, e3, hDl, hacc⟩
        have kp : KPb H1 (Ow P r σ) H2 := e3.keep
        by_cases hlt : i < xs.length
        · refine .inr ⟨yl.go i H2 hlt kp, fun H' => ∃ m', m' < xs.length - i ∧ (m' = xs.length - (i + 1) ∧ i + 1 ≤ xs.length ∧ ∃ s3 a3 acc accD ysr, compE (bindT (c.blk scope) tg) ft fe (wipeR r vs) (xs.drop (i + 1)) s3 = some (ysr, s') ∧ ys = accD ++ ysr ∧ accD.length ≤ i + 1 ∧ Good X.K cl (PB P r σ vs Dl) (wipeR r vs) s3 a3 (wipe σ vs) H' ∧ Le a1 a3 ∧ Ext a3 H1 H' ∧ H' Dl = some (.lst acc) ∧ Rs X.K cl a3 (minus H' (OB P r σ Dl)) acc accD), fun H' z => z, fun x H' hy => ?_⟩
          have hx : xs[i]? = some xs[i] := List.getElem?_eq_getElem hlt
          rw [List.drop_eq_getElem_cons hlt] at hc
          obtain ⟨r1, s4, hbind, hcase⟩ := comp_cons hc
          obtain ⟨same, hR⟩ := yl.yld i H2 x H' _ hx kp hy
          have gS := gW.same same
          have hO : ∀ a, OB P r σ Dl a → H2 a ≠ none := fun a z => by
            rcases z with z | z
            · exact e3.alc a (g1.owAlc a z)
            · rw [z, hDl]; exact fun w => nomatch w
          have rx : R X.K cl a3 (minus H' (Ow (PB P r σ vs Dl) (wipeR r vs) (wipe σ vs))) x xs[i] := by
            rw [ow_pb]
            refine (hR (minus H' (OB P r σ Dl)) ?_ ?_).mono (Keep.refl _) l3
            · refine (Keep.sub.trans (e3.keep.trans (Ext.same (a1 := a3) same).keep)).minus fun a o n ha z => ?_
              rcases z with z | z
              · exact n z
              · rw [z, hD] at ha; cases ha
            · intro a o ha hb
              exact minus_some.mpr ⟨fun z => hO a z ha, hb⟩
          refine ⟨_, _, s3, a3, _, r1, hbind, gS, rx, fun σ' is his g' sub keepO wv => ?_⟩
          have isin : ∀ j ∈ is, j ∈ vs := fun j hj => by rw [← hvs]; exact own_mem his j hj
          have eO : Ow (PB P r σ vs Dl) r1 σ' = OB P r σ Dl := by
            have e := keepO fun j hj l => wipeR_un (isin j hj)
            unfold Ow
            rw [e]
            exact ow_pb
          have ww : wipe σ' vs = wipe σ vs := by
            rw [wv vs isin]
            -- wiping twice
            have twice : ∀ (ws : List Nat), (∀ v ∈ ws, v ∈ vs) → wipe (wipe σ vs) ws = wipe σ vs := by
              intro ws
              induction ws with
              | nil => intro _; rfl
              | cons w ws ih =>
                intro hw
                show (wipe (wipe σ vs) ws).set w none = _
                rw [ih fun v hv => hw v (List.mem_cons_of_mem _ hv)]
                have hwv := hw w List.mem_cons_self
                apply List.ext_getElem?
                intro j
                by_cases ej : w = j
                · subst ej
                  by_cases hlen : w < (wipe σ vs).length
                  · rw [List.getElem?_set_self hlen]
                    cases z : (wipe σ vs)[w]? with
                    | none => rw [List.getElem?_eq_none_iff] at z; omega
                    | some y =>
                      cases y with
                      | none => rfl
                      | some y => exact absurd hwv (wipe_some z).2
                  · rw [List.getElem?_eq_none (by rw [List.length_set]; omega), List.getElem?_eq_none (by omega)]
                · rw [List.getElem?_set_ne ej]
            exact twice vs fun v hv => hv
          have e3' := e3.trans (Ext.same (a1 := a3) same) (Le.refl _)
          have hDl' : H' Dl = some (.lst acc) := same Dl _ hDl
          have hacc' : Rs X.K cl a3 (minus H' (OB P r σ Dl)) acc accD := hacc.mono (ext_minus (Ext.same (a1 := a3) same)) (Le.refl _)
          have hPD : PB P r σ vs Dl Dl := .inr rfl
          refine ⟨ww, ?_⟩
          rcases hcase with ⟨htst, hrest⟩ | ⟨htst, y, s5, ys', helt, hrest, rfl⟩
          · refine ⟨_, r1, s3, a3, false, s4, htst, g', fun H3 a4 g4 e4 l4 => iteF ?_⟩
            have gW4 : Good X.K cl (PB P r σ vs Dl) (wipeR r vs) s4 a4 (wipe σ vs) H3 := gS.ext e4 l4 (by rw [ow_pb, ← eO]; exact g4.st)
            exact ⟨_, by omega, rfl, hlt, s4, a4, acc, accD, ysr, hrest, hys, by omega, gW4, l3.trans l4, e3'.trans e4 l4, e4.keep _ _ hDl' (fun z => z), hacc'.mono (ext_minus e4) l4⟩
          · refine ⟨_, r1, s3, a3, true, s4, htst, g', fun H3 a4 g4 e4 l4 => iteT ?_⟩
            refine ⟨_, r1, s4, a4, y, s5, helt, g4, fun v H4 a5 g5 e5 l5 rv => ?_⟩
            have ee := e4.trans e5 l5
            have le := l4.trans l5
            have gW5 : Good X.K cl (PB P r σ vs Dl) (wipeR r vs) s5 a5 (wipe σ vs) H4 := gS.ext ee le (by rw [ow_pb, ← eO]; exact g5.st)
            have hDl5 := ee.keep _ _ hDl' (fun z => z)
            have hacc5 := hacc'.mono (ext_minus ee) le
            have hal2 := hacc.length
            refine ⟨acc, hDl5, by omega, _, by omega, rfl, hlt, s5, a5, acc ++ [v], accD ++ [y], ys', hrest, by rw [hys, List.append_assoc]; rfl, by rw [List.length_append]; show accD.length + 1 ≤ i + 1; omega, gW5.updP hPD, l3.trans le, ?_, upd_same, ?_⟩
            · have e9 := e3'.trans ee le
              refine ⟨fun x o hx hd => ?_, fun x hx => ?_, fun x kvs hx hd => ?_⟩
              · have hxp : x ≠ Dl := fun z => by rw [z, hD] at hx; cases hx
                rw [upd_ne hxp]
                exact e9.keep x o hx hd
              · by_cases hxp : x = Dl
                · rw [hxp, upd_same]; exact fun z => nomatch z
                · rw [upd_ne hxp]; exact e9.alc x hx
              · have hxp : x ≠ Dl := fun z => by rw [z, hD] at hx; cases hx
                rw [upd_ne hxp]
                exact e9.dk x kvs hx hd
            · rw [minus_upd (O := OB P r σ Dl) (.inr rfl)]
              refine hacc5.append (.cons ?_ .nil)
              have rv' : R X.K cl a5 (minus H4 (Ow (PB P r σ vs Dl) r1 σ')) v y := rv
              rw [eO] at rv'
              exact rv'
        · have ei : i = xs.length := by omega
          subst ei
          rw [List.drop_length] at hc
          cases hc
          rw [List.append_nil] at hys
          subst hys
          refine .inl ⟨yl.stop _ H2 (Nat.le_refl _) kp, ?_⟩
          have st : StOk X.K a3 s' (minus H2 (Ow P r σ)) := by
            have h := gW.st
            rw [ow_pb] at h
            exact h.minus fun a o n ha => ⟨fun z => n (.inl z), ha⟩
          exact q Dl acc ys H2 a3 (g1.ext e3 l3 st) (e1.trans e3 l3) (l1.trans l3) rfl hD0 hDl hacc
    · rw [if_neg hl] at hf; cases hf
theorem pe_compE {tg it elt : Expr} {ifs : List Expr} {scope : Scope} {pos : Pos} {fs : Rho → S → Option (List D × S)} {ft : Rho → S → Option (Bool × S)} {fe : Rho → S → Option (D × S)} (hC : Ctx cl k X c) (hb : blkC c.N c.sc scope (ownOf c tg) = true)
    (hsrc : PI X tg it (tSrc KPb X.K cl fs)) (hset : ∀ r s x, fs r s = some x → ∀ es n p, it ≠ .Set es n p)
    (ht : ∀ (s : Shared) (H : Hp) (C' : Addr) (clo : List (Str × Addr)) (fp : List Addr), PTs (X.blk s H scope (compEnvC scope clo C' X.env) fp) ifs (tTt X.K cl ft))
    (he : ∀ (s : Shared) (H : Hp) (C' : Addr) (clo : List (Str × Addr)) (fp : List Addr), PE (X.blk s H scope (compEnvC scope clo C' X.env) fp) elt (tX RV X.K cl fe)) :
    PE X (.ListComp elt [⟨tg, it, ifs, 0⟩] scope pos) (tF X.K cl fun r s => match fs r s with
        | none => none
        | some (xs, s1) =>
          if xs.length < line then
            match compE (bindT (c.blk scope) tg) ft fe (wipeR r ((ownOf c tg).map (·.2))) xs s1 with
            | some (ys, s2) => some (.lst ys, s2)
            | none => none
          else none) := by
  refine mkF fun P r s a0 d s' σ H Q hf g q => ?_
  obtain ⟨h1, h2⟩ := pe_compF (pos := pos) hC hb hsrc hset ht he P r s a0 d s' σ H Q hf g q
  have nd : X.N.Nodup := by rw [hC.N]; exact hC.nd
  exact ⟨_, pe_lc hC.calm nd hsrc (by rw [hC.N, hC.sc]; exact blkOk_by hb) (fun s H C' clo fp => pg_D (ctx_blk hC scope s H C' clo fp) tg) ht he h1, h2⟩
end
end CH

set_option maxRecDepth 100000
set_option maxHeartbeats 4000000
/-! Terms, last part: a body's attributes, a new body, a body's methods. -/
namespace CH
open PySem PySem.Spec PyProof.Rows L2
section
variable {cl : Addr} {k : Nat} {X : Cx} {c : C} {e : Expr} {VR : VRel}
theorem R.objx {K : PySem.W.Frag} {a0 : Option Addr} {H : Hp} {v : V} {l : List D} (h : R K cl a0 H v (.obj l)) : ∃ (a dx : Addr) (v1 v2 v3 v4 : V) (d1 d2 d3 d4 : D), v = .ref a ∧ l = [d1, d2, d3, d4] ∧ H a = some (.ins cl dx [("dim", v1), ("rows", v2), ("corners", v3), ("rays", v4)]) ∧
    R K cl a0 H v1 d1 ∧ R K cl a0 H v2 d2 ∧ R K cl a0 H v3 d3 ∧ R K cl a0 H v4 d4 := by
  cases h with
  | obj h1 h2 =>
    cases h2 with
    | cons r1 h2 => cases h2 with
      | cons r2 h2 => cases h2 with
        | cons r3 h2 => cases h2 with
          | cons r4 h2 =>
            cases h2
            exact ⟨_, _, _, _, _, _, _, _, _, _, rfl, rfl, h1, r1, r2, r3, r4⟩
theorem pe_fldD {x f : Str} {xp pos : Pos} {fo : Rho → S → Option (D × S)} (hC : Ctx cl k X c) (he : PE X (.Name x xp) (tX RV X.K cl fo)) (hob : c.ob = true) :
    PE X (.Attribute (.Name x xp) f pos) (tX RV X.K cl fun r s => match fo r s with
        | some (.obj l, s1) => (fldD f l).map fun d => (d, s1)
        | _ => none) := by
  refine mkE fun P r s a0 d s' σ H Q hf g q => ?_
  cases h1 : fo r s with
  | none => rw [h1] at hf; cases hf
  | some p1 =>
    obtain ⟨y, s1⟩ := p1
    rw [h1] at hf
    cases y with
    | obj l =>
      obtain ⟨z, hz, e⟩ := Option.map_eq_some_iff.mp hf
      cases e
      have O := hC.ob hob
      refine ⟨_, pe_fld he rfl, P, r, s, a0, .obj l, _, h1, g, fun v H1 a1 g1 e1 l1 rv => ?_⟩
      obtain ⟨a, dx, v1, v2, v3, v4, d1, d2, d3, d4, rfl, rfl, ha, r1, r2, r3, r4⟩ := R.objx rv
      have ha' := (minus_some.mp ha).2
      have hz : (if f = "dim" then some d1 else if f = "rows" then some d2 else if f = "corners" then some d3 else if f = "rays" then some d4 else none) = some d := hz
      split at hz
      · rename_i ef; cases hz; subst ef
        exact ⟨a, cl, dx, _, v1, rfl, ha', O.c, O.a, rfl, q _ H1 a1 g1 e1 l1 r1⟩
      split at hz
      · rename_i ef; cases hz; subst ef
        exact ⟨a, cl, dx, _, v2, rfl, ha', O.c, O.b, rfl, q _ H1 a1 g1 e1 l1 r2⟩
      split at hz
      · rename_i ef; cases hz; subst ef
        exact ⟨a, cl, dx, _, v3, rfl, ha', O.c, O.d, rfl, q _ H1 a1 g1 e1 l1 r3⟩
      split at hz
      · rename_i ef; cases hz; subst ef
        exact ⟨a, cl, dx, _, v4, rfl, ha', O.c, O.e, rfl, q _ H1 a1 g1 e1 l1 r4⟩
      · cases hz
    | _ => cases hf
theorem Vs.four {K : PySem.W.Frag} {a0 : Option Addr} {H : Hp} {O : AS} {vs : List V} {ds : List D} (h : Vs RV K cl a0 H O vs ds) (hl : ds.length = 4) : ∃ v1 v2 v3 v4, vs = [v1, v2, v3, v4] := by
  have e : vs.length = 4 := by rw [h.rs.length, hl]
  match vs, e with
  | [v1, v2, v3, v4], _ => exact ⟨v1, v2, v3, v4, rfl⟩
theorem pe_mkD {g : Str} {p pos : Pos} {f : Expr → Rho → S → Option (D × S)} (hC : Ctx cl k X c) (hg : clsB c g = true) (hf0 : ∀ e, PE X e (tX RV X.K cl (f e))) (hs : NoStar f) (as : List Expr) :
    PE X (.Call (.Name g p) as [] pos) (tX RV X.K cl fun r s => match as with
        | [] => none
        | _ :: _ => match seqE f as r s with
          | some (ds, s1) => if ds.length = 4 then some (.obj ds, s1) else none
          | none => none) := by
  have hg1 := Bool.and_eq_true_iff.mp (show (glB c g && c.cls.any fun y => decide (y = g)) = true from hg)
  have hgl : Gl X g := gl_at hC hg1.1
  obtain ⟨j, hj, hM, hdb⟩ := hC.cls g hg1.2
  cases as with
  | nil => exact mkE fun P r s a0 d s' σ H Q hf gd q => by cases hf
  | cons a as =>
    refine mkE fun P r s a0 d s' σ H Q hf gd q => ?_
    dsimp only at hf
    cases h1 : seqE f (a :: as) r s with
    | none => rw [h1] at hf; cases hf
    | some p1 =>
      obtain ⟨ds, s1⟩ := p1
      rw [h1] at hf
      obtain ⟨h4, e4⟩ := ite_some hf
      cases e4
      have hst := seq_star hs (a :: as) h1
      have hsa : starEach (a :: as) X.env = (false, eval a X.env) :: starEach as X.env := by
        have h1' : (match f a r s with
          | none => none
          | some (d, s1) => match seqE f as r s1 with
            | none => none
            | some (ds, s2) => some (d :: ds, s2)) = some (ds, s') := h1
        cases h2 : f a r s with
        | none => rw [h2] at h1'; cases h1'
        | some y => exact hs a r s _ h2 as X.env
      refine ⟨_, C8.pe_mk hM hC.rm hj hgl (pa_seq vext_v hf0 hs (a :: as)) hdb hsa ?_, P, r, s, a0, ds, s', h1, gd, fun vs H1 a1 g1 e1 l1 vr => ?_⟩
      · have := hst pos X.env
        rw [hsa] at this
        exact this
      · intro x dx hx hdx hne
        obtain ⟨v1, v2, v3, v4, rfl⟩ := vr.four h4
        refine ⟨x, dx, v1, v2, v3, v4, rfl, upd_same, rfl, ?_⟩
        have sm : Same H1 (upd (upd (upd H1 dx (.own x)) x (.ins cl dx [])) x (.ins cl dx [("dim", v1), ("rows", v2), ("corners", v3), ("rays", v4)])) := fun b o e => by
          rw [upd_ne (ne_of_none e hx), upd_ne (ne_of_none e hx), upd_ne (ne_of_none e hdx)]
          exact e
        have nO : ¬ Ow P r σ x := fun z => g1.owAlc x z hx
        refine q _ _ a1 (g1.same sm) (e1.trans (Ext.same sm) (Le.refl _)) l1 (R.obj (minus_some.mpr ⟨nO, upd_same⟩) ?_)
        exact vr.rs.mono (ext_minus (Ext.same (a1 := a1) sm)) (Le.refl _)
theorem lookup4 {m : Str} {v1 v2 v3 v4 : V} (h : m ≠ ("dim" : Str) ∧ m ≠ ("rows" : Str) ∧ m ≠ ("corners" : Str) ∧ m ≠ ("rays" : Str)) : ([("dim", v1), ("rows", v2), ("corners", v3), ("rays", v4)] : List (Str × V)).lookup m = none := by
  obtain ⟨h1, h2, h3, h4⟩ := h
  simp only [List.lookup, beq_eq_false_iff_ne.mpr h1, beq_eq_false_iff_ne.mpr h2, beq_eq_false_iff_ne.mpr h3, beq_eq_false_iff_ne.mpr h4]
theorem mt_shape {x m : Str} {xp ap pos : Pos} {env : Env} {as : List Expr} (h1 : (backTo pos (starEach as env)).any (·.1) = false) (h2 : as.length < 30) (h3 : (ap.endLine == pos.line) = true) :
    eval (.Call (.Attribute (.Name x xp) m ap) as [] pos) env = (do
      let ov ← eval (.Name x xp) env
      standAt ap.atName
      let (f, first) ← holding [ov] (getMethod ov m (plainOf (.Name x xp) env))
      callWith pos f first (backTo pos (starEach as env)) (backToKw pos (keywordEach [] env))) := by
  have hf : methodCallForm (as.length + ([] : List Keyword).length) (backTo pos (starEach as env)) (backToKw pos (keywordEach [] env)) = true := by
    unfold methodCallForm
    rw [Bool.and_eq_true, Bool.and_eq_true]
    refine ⟨⟨?_, rfl⟩, decide_eq_true (by show as.length + 0 + 0 < 30; omega)⟩
    rw [List.all_eq_true]
    intro y hy
    have := List.any_eq_false.mp h1 y hy
    rw [Bool.not_eq_true] at this
    rw [this]
    rfl
  show (do
      let ov ← eval (.Name x xp) env
      standAt ap.atName
      methodCall (.Name x xp) m ap pos env ov (as.length + ([] : List Keyword).length) (backTo pos (starEach as env)) (backToKw pos (keywordEach [] env))) = _
  simp only [mcall_line hf h3]
theorem pe_mtD {x m : Str} {xp ap pos : Pos} {fo : Rho → S → Option (D × S)} {f : Expr → Rho → S → Option (D × S)} (hC : Ctx cl k X c) (he : PE X (.Name x xp) (tX RV X.K cl fo)) (hm : mtB c m = true) (hf0 : ∀ e, PE X e (tX RV X.K cl (f e))) (hs : NoStar f) (as : List Expr) (hlen : as.length < 30) (hln : (ap.endLine == pos.line) = true) :
    PE X (.Call (.Attribute (.Name x xp) m ap) as [] pos) (tX RV X.K cl fun r s => match fo r s with
        | some (.obj l, s1) => match (generalizing := false) as with
          | [] => c.Mt m [.obj l] s1
          | _ :: _ => match seqE f as r s1 with
            | some (ds, s2) => c.Mt m (.obj l :: ds) s2
            | none => none
        | _ => none) := by
  have hm1 := Bool.and_eq_true_iff.mp (show (c.ob && c.mts.any fun y => decide (y = m)) = true from hm)
  obtain ⟨np, hM, hne, har⟩ := hC.mts m hm1.2
  refine mkE fun P r s a0 d s' σ H Q hf gd q => ?_
  cases h0 : fo r s with
  | none => rw [h0] at hf; cases hf
  | some p0 =>
    obtain ⟨y, s0⟩ := p0
    rw [h0] at hf
    cases y with
    | obj l =>
      cases as with
      | nil =>
        dsimp only at hf
        refine ⟨_, C8.pe_mt0 hM hC.rm (Nat.le_refl _) he (mt_shape rfl (by decide) hln), P, r, s, a0, .obj l, s0, h0, gd, fun v H1 a1 g1 e1 l1 rv => ?_⟩
        obtain ⟨a, dx, v1, v2, v3, v4, d1, d2, d3, d4, rfl, rfl, ha, _⟩ := R.objx rv
        refine ⟨a, dx, _, rfl, (minus_some.mp ha).2, lookup4 hne, ?_⟩
        have hl := har _ _ _ hf
        refine ⟨hl, Ow P r σ, _, s0, a1, d, s', hf, .cons rv .nil, g1.st, g1.owAlc, fun v H' a2 e2 l2 rv st => q v H' a2 (g1.ext e2 l2 st) (e1.trans e2 l2) (l1.trans l2) rv⟩
      | cons a as =>
        dsimp only at hf
        cases h1 : seqE f (a :: as) r s0 with
        | none => rw [h1] at hf; cases hf
        | some p1 =>
          obtain ⟨ds, s1⟩ := p1
          rw [h1] at hf
          have hst := seq_star hs (a :: as) h1
          have hsa : starEach (a :: as) X.env = (false, eval a X.env) :: starEach as X.env := by
            have h1' : (match f a r s0 with
              | none => none
              | some (d, s1) => match seqE f as r s1 with
                | none => none
                | some (ds, s2) => some (d :: ds, s2)) = some (ds, s1) := h1
            cases h2 : f a r s0 with
            | none => rw [h2] at h1'; cases h1'
            | some y => exact hs a r s0 _ h2 as X.env
          refine ⟨_, C8.pe_mt hM hC.rm (Nat.le_refl _) he (pa_seq vext_v hf0 hs (a :: as)) hsa ?_ (mt_shape (hst pos X.env) hlen hln), P, r, s, a0, .obj l, s0, h0, gd, fun v H1 a1 g1 e1 l1 rv => ?_⟩
          · have := hst pos X.env
            rw [hsa] at this
            exact this
          · obtain ⟨a', dx, v1, v2, v3, v4, d1, d2, d3, d4, rfl, rfl, ha, _⟩ := R.objx rv
            refine ⟨a', dx, _, rfl, (minus_some.mp ha).2, lookup4 hne, P, r, s0, a1, ds, s1, h1, g1, fun vs H2 a2 g2 e2 l2 vr => ?_⟩
            have hl := har _ _ _ hf
            have rr := vr.rs
            have hl2 : (V.ref a' :: (vs ++ [])).length = np := by rw [List.append_nil, List.length_cons, rr.length]; exact hl
            refine ⟨hl2, Ow P r σ, _, s1, a2, d, s', hf, by rw [List.append_nil]; exact .cons (RV.ext rv e2 l2) rr, g2.st, g2.owAlc, fun v H' a3 e3 l3 rv st => q v H' a3 (g2.ext e3 l3 st) ((e1.trans e2 l2).trans e3 l3) ((l1.trans l2).trans l3) rv⟩
    | _ => cases hf
end
end CH

set_option maxRecDepth 100000
set_option maxHeartbeats 8000000
/-! All terms. -/
namespace CH
open PySem PySem.Spec PyProof.Rows L2
structure IH (cl : Addr) (n : Nat) : Prop where
  e : ∀ {k : Nat} {X : Cx} {c : C} (e : Expr), Ctx cl k X c → PE X e (tX RV X.K cl (ev n c e))
  t : ∀ {k : Nat} {X : Cx} {c : C} (e : Expr), Ctx cl k X c → PT X e (tTt X.K cl (evT n c e))
  f : ∀ {k : Nat} {X : Cx} {c : C} (e : Expr), Ctx cl k X c → fresh c e = true → PE X e (tF X.K cl (ev n c e))
  q : ∀ {k : Nat} {X : Cx} {c : C} (a : Expr) (ops : List CmpOp) (bs : List Expr) (pos : Pos), Ctx cl k X c → PT X (.Compare a ops bs pos) (tTt X.K cl (asT (ev n c (.Compare a ops bs pos))))
  star : ∀ (c : C), NoStar (ev n c)
  set : ∀ (c : C), NoSet (ev n c)
section
variable {cl : Addr} {k : Nat} {X : Cx} {c : C} {e : Expr} {n : Nat}
theorem no_E {f : Rho → S → Option (D × S)} (h : ∀ r s, f r s = none) : PE X e (tX RV X.K cl f) := mkE fun P r s a0 d s' σ H Q hf g q => by rw [h] at hf; cases hf
theorem no_F {f : Rho → S → Option (D × S)} (h : ∀ r s, f r s = none) : PE X e (tF X.K cl f) := mkF fun P r s a0 d s' σ H Q hf g q => by rw [h] at hf; cases hf
theorem no_T {f : Rho → S → Option (Bool × S)} (h : ∀ r s, f r s = none) : PT X e (tTt X.K cl f) := mkT fun P r s a0 d s' σ H Q hf g q => by rw [h] at hf; cases hf
theorem ih0 : IH cl 0 where
  e := fun e _ => no_E fun _ _ => rfl
  t := fun e _ => no_T fun _ _ => rfl
  f := fun e _ _ => no_F fun _ _ => rfl
  q := fun _ _ _ _ _ => no_T fun _ _ => rfl
  star := fun c e r s x h => by cases h
  set := fun c e r s x h => by cases h
theorem bor_star (h : NoStar (ev n c)) : NoStar (bor (ev n c) c) := fun e r s x hf es env => by
  cases e with
  | Name y p => rfl
  | _ => exact h _ r s x hf es env
theorem bor_set (h : NoSet (ev n c)) : NoSet (bor (ev n c) c) := fun e r s x hf es m p => by
  cases e with
  | Name y p => exact fun z => nomatch z
  | _ => exact h _ r s x hf es m p
theorem seq_one {f : Expr → Rho → S → Option (D × S)} {a : Expr} {r : Rho} {s : S} : seqE f [a] r s = match f a r s with
    | none => none
    | some (d, s1) => some ([d], s1) := by
  show (match f a r s with
    | none => none
    | some (d, s1) => match (some ([], s1) : Option (List D × S)) with
      | none => none
      | some (ds, s2) => some (d :: ds, s2)) = _
  cases f a r s with
  | none => rfl
  | some p => rfl
theorem cmp_set {a : Expr} {ops : List CmpOp} {b : Expr} {r : Rho} {s : S} {y : D × S} (ih : IH cl n) (h : bor (ev n c) c b r s = some y) : ∀ es m p, b ≠ .Set es m p := bor_set (ih.set c) b r s y h
/-- one comparison at the next level -/
theorem cmp1_any (ih : IH cl n) (hC : Ctx cl k X c) (a b : Expr) (op : CmpOp) (pos : Pos) : PE X (.Compare a [op] [b] pos) (tX RV X.K cl (ev (n + 1) c (.Compare a [op] [b] pos))) ∧ PT X (.Compare a [op] [b] pos) (tTt X.K cl (asT (ev (n + 1) c (.Compare a [op] [b] pos)))) := by
  by_cases hb : ∀ es m p, b ≠ .Set es m p
  · obtain ⟨h1, h2⟩ := cmp1 (pos := pos) (op := op) hC (mark_of hb) (pe_bor hC (ih.e a hC)) (pe_bor hC (ih.e b hC))
    refine ⟨h1, mkT fun P r s a0 d s' σ H Q hf g q => ⟨_, h2, P, r, s, a0, d, s', ?_, g, q⟩⟩
    unfold asT at hf
    have e0 : ev (n + 1) c (.Compare a [op] [b] pos) r s = (match bor (ev n c) c a r s with
      | none => none
      | some (x, s1) => match bor (ev n c) c b r s1 with
        | none => none
        | some (y, s2) => (cmpD op x y).map fun z => (D.bl z, s2)) := rfl
    rw [e0] at hf
    cases q1 : bor (ev n c) c a r s with
    | none => rw [q1] at hf; cases hf
    | some p1 =>
      obtain ⟨x, s1⟩ := p1
      rw [q1] at hf
      dsimp only at hf
      cases q2 : bor (ev n c) c b r s1 with
      | none => rw [q2] at hf; cases hf
      | some p2 =>
        obtain ⟨y, s2⟩ := p2
        rw [q2] at hf
        dsimp only at hf
        cases q3 : cmpD op x y with
        | none => rw [q3] at hf; cases hf
        | some z =>
          rw [q3] at hf
          cases hf
          simp only [q1, q2, q3, Option.map_some]
  · have hno : ∀ r s, ev (n + 1) c (.Compare a [op] [b] pos) r s = none := fun r s => by
      have e0 : ev (n + 1) c (.Compare a [op] [b] pos) r s = (match bor (ev n c) c a r s with
        | none => none
        | some (x, s1) => match bor (ev n c) c b r s1 with
          | none => none
          | some (y, s2) => (cmpD op x y).map fun z => (D.bl z, s2)) := rfl
      rw [e0]
      cases q1 : bor (ev n c) c a r s with
      | none => rfl
      | some p1 =>
        dsimp only
        cases q2 : bor (ev n c) c b r p1.2 with
        | none => rfl
        | some p2 => exact absurd (bor_set (ih.set c) _ _ _ _ q2) hb
    exact ⟨no_E hno, no_T fun r s => by unfold asT; rw [hno]⟩
theorem last_of {op op' : CmpOp} {b b' : Expr} (h : ∀ es m p, b' ≠ .Set es m p) : lastMarks [op, op'] [b, b'] = false := by
  show behindInMarks op' b' = false
  exact mark_of h
theorem cmp2_any (ih : IH cl n) (hC : Ctx cl k X c) (a b b' : Expr) (op op' : CmpOp) (pos : Pos) : PE X (.Compare a [op, op'] [b, b'] pos) (tX RV X.K cl (ev (n + 1) c (.Compare a [op, op'] [b, b'] pos))) ∧ PT X (.Compare a [op, op'] [b, b'] pos) (tTt X.K cl (asT (ev (n + 1) c (.Compare a [op, op'] [b, b'] pos)))) := by
  by_cases hb : setE b' = true
  · have hno : ∀ r s, ev (n + 1) c (.Compare a [op, op'] [b, b'] pos) r s = none := fun r s => by
      show (if setE b' = true then none else chainE op op' (ev n c a) (ev n c b) (ev n c b') r s) = none
      rw [if_pos hb]
    exact ⟨no_E hno, no_T fun r s => by unfold asT; rw [hno]⟩
  · have e0 : ev (n + 1) c (.Compare a [op, op'] [b, b'] pos) = chainE op op' (ev n c a) (ev n c b) (ev n c b') := by
      funext r s
      show (if setE b' = true then none else chainE op op' (ev n c a) (ev n c b) (ev n c b') r s) = _
      rw [if_neg hb]
    rw [e0]
    exact cmp2 hC (last_of fun es m p z => hb (by rw [z]; rfl)) (rb_of (ih.e a hC)) (rb_of (ih.e b hC)) (rb_of (ih.e b' hC))
/-- a call by name -/
theorem call_any (ih : IH cl n) (hC : Ctx cl k X c) (g : Str) (as : List Expr) (p pos : Pos) : PE X (.Call (.Name g p) as [] pos) (tX RV X.K cl (ev (n + 1) c (.Call (.Name g p) as [] pos))) := by
  by_cases h1 : fnB c g = true
  · have e0 : ev (n + 1) c (.Call (.Name g p) as [] pos) = fun r s => match as with
        | [] => c.F g [] s
        | _ :: _ => match seqE (ev n c) as r s with
          | some (ds, s1) => c.F g ds s1
          | none => none := by
      funext r s
      show (if fnB c g = true then _ else _) = _
      rw [if_pos h1]
      all_goals (cases as <;> rfl)
    rw [e0]
    exact pe_fnD hC h1 (fun e => ih.e e hC) (ih.star c) as
  · by_cases h2c : clsB c g = true
    · have e0 : ev (n + 1) c (.Call (.Name g p) as [] pos) = fun r s => match as with
        | [] => none
        | _ :: _ => match seqE (ev n c) as r s with
          | some (ds, s1) => if ds.length = 4 then some (.obj ds, s1) else none
          | none => none := by
        funext r s
        show (if fnB c g = true then _ else if clsB c g = true then _ else _) = _
        rw [if_neg h1, if_pos h2c]
        all_goals (cases as <;> rfl)
      rw [e0]
      exact pe_mkD hC h2c (fun e => ih.e e hC) (ih.star c) as
    by_cases h2 : bltB c g = true
    · by_cases h3 : callB g = true
      · have e0 : ev (n + 1) c (.Call (.Name g p) as [] pos) = fun r s => match as with
          | [] => none
          | _ :: _ => match seqE (bor (ev n c) c) as r s with
            | some (ds, s1) => (bltD g ds).map fun d => (d, s1)
            | none => none := by
          funext r s
          show (if fnB c g = true then _ else if clsB c g = true then _ else if bltB c g = true then (if callB g = true then _ else _) else none) = _
          rw [if_neg h1, if_neg h2c, if_pos h2, if_pos h3]
          all_goals (cases as <;> rfl)
        rw [e0]
        exact pe_bltD hC h2 (fun e => pe_bor hC (ih.e e hC)) (bor_star (ih.star c)) as
      · by_cases h4 : g = "isinstance"
        · subst h4
          refine mkE fun P r s a0 d s' σ H Q hf gd q => ?_
          have hf0 : (if fnB c "isinstance" = true then _ else if clsB c "isinstance" = true then _ else if bltB c "isinstance" = true then (if callB "isinstance" = true then _ else if ("isinstance" : Str) = "isinstance" then _ else none) else none) = some (d, s') := hf
          rw [if_neg h1, if_neg h2c, if_pos h2, if_neg h3, if_pos rfl] at hf0
          clear hf
          split at hf0
          · rename_i a t p2
            have hf := hf0
            clear hf0
            by_cases ht : bltB c t = true
            · rw [if_pos ht] at hf
              cases q1 : ev n c a r s with
              | none => rw [q1] at hf; cases hf
              | some p1 =>
                obtain ⟨x, s1⟩ := p1
                rw [q1] at hf
                dsimp only at hf
                cases q2 : tyD x with
                | none => rw [q2] at hf; cases hf
                | some y =>
                  rw [q2] at hf
                  dsimp only at hf
                  split at hf
                  · rename_i et
                    subst et
                    obtain ⟨b, hb, e⟩ := Option.map_eq_some_iff.mp hf
                    cases e
                    exact pe_isiD hC h2 ht (by decide +kernel) (by decide) (by decide) (ih.e a hC) (fun r s y h es env => ih.star c a r s y h es env) q1 q2 hb gd q
                  · split at hf
                    · rename_i et
                      subst et
                      obtain ⟨b, hb, e⟩ := Option.map_eq_some_iff.mp hf
                      cases e
                      exact pe_isiD hC h2 ht (by decide +kernel) (by decide) (by decide) (ih.e a hC) (fun r s y h es env => ih.star c a r s y h es env) q1 q2 hb gd q
                    · split at hf
                      · rename_i et
                        subst et
                        obtain ⟨b, hb, e⟩ := Option.map_eq_some_iff.mp hf
                        cases e
                        exact pe_isiD hC h2 ht (by decide +kernel) (by decide) (by decide) (ih.e a hC) (fun r s y h es env => ih.star c a r s y h es env) q1 q2 hb gd q
                      · split at hf
                        · rename_i et
                          subst et
                          obtain ⟨b, hb, e⟩ := Option.map_eq_some_iff.mp hf
                          cases e
                          exact pe_isiD hC h2 ht (by decide +kernel) (by decide) (by decide) (ih.e a hC) (fun r s y h es env => ih.star c a r s y h es env) q1 q2 hb gd q
                        · cases hf
            · rw [if_neg ht] at hf; cases hf
          · cases hf0
        · refine no_E fun r s => ?_
          show (if fnB c g = true then _ else if clsB c g = true then _ else if bltB c g = true then (if callB g = true then _ else if g = "isinstance" then _ else none) else none) = none
          rw [if_neg h1, if_neg h2c, if_pos h2, if_neg h3, if_neg h4]
    · refine no_E fun r s => ?_
      show (if fnB c g = true then _ else if clsB c g = true then _ else if bltB c g = true then _ else none) = none
      rw [if_neg h1, if_neg h2c, if_neg h2]
/-- a comprehension -/
theorem comp_any (ih : IH cl n) (hC : Ctx cl k X c) (elt : Expr) (gs : List Comprehension) (scope : Scope) (pos : Pos) : PE X (.ListComp elt gs scope pos) (tF X.K cl (ev (n + 1) c (.ListComp elt gs scope pos))) := by
  match gs with
  | [] => exact no_F fun _ _ => rfl
  | g1 :: g2 :: gs =>
    refine no_F fun r s => ?_
    unfold ev
    split
    all_goals first | rfl | (rename_i h; simp at h; done)
  | [⟨tg, it, ifs, ia⟩] =>
    by_cases hia : ia = 0
    · subst hia
      by_cases hb : blkC c.N c.sc scope (ownOf c tg) = true
      · have e0 : ev (n + 1) c (.ListComp elt [⟨tg, it, ifs, 0⟩] scope pos) = fun r s => match srcE (bor (ev n c) c) c tg it r s with
            | none => none
            | some (xs, s1) =>
              if xs.length < line then
                match compE (bindT (c.blk scope) tg) (ifsT (evT n (c.blk scope)) ifs) (ev n (c.blk scope) elt) (wipeR r ((ownOf c tg).map (·.2))) xs s1 with
                | some (ys, s2) => some (.lst ys, s2)
                | none => none
              else none := by
          funext r s
          show (if L2.blkC c.N c.sc scope (ownOf c tg) = true then _ else none) = _
          rw [if_pos hb]
          all_goals rfl
        rw [e0]
        refine pe_compE hC hb (src_D hC kok_b vext_b (fun e => pe_bor hC (ih.e e hC)) (bor_star (ih.star c))) (fun r s x h => src_set (bor_set (ih.set c)) h) (fun s H C' clo fp => ?_) fun s H C' clo fp => ih.e elt (ctx_blk hC scope s H C' clo fp)
        match ifs with
        | [] => exact ⟨fun pins s0 σ H0 Q I ⟨P, r, s, a0, b, s', hf, g, q⟩ => by
            cases hf
            exact pts_nil.run pins s0 σ H0 Q I (q H0 a0 g (Ext.refl _ _) (Le.refl _))⟩
        | [t] => exact pts_one (ih.t t (ctx_blk hC scope s H C' clo fp))
        | _ :: _ :: _ => exact ⟨fun pins s0 σ H0 Q I ⟨P, r, s, a0, b, s', hf, g, q⟩ => by cases hf⟩
      · refine no_F fun r s => ?_
        show (if L2.blkC c.N c.sc scope (ownOf c tg) = true then _ else none) = _
        rw [if_neg hb]
    · refine no_F fun r s => ?_
      unfold ev
      split
      all_goals first | rfl | (rename_i h; simp at h; done) | (rename_i h; simp at h; exact absurd h.2.1.2.2.2 hia)
/-- a subscript -/
theorem sub_any (ih : IH cl n) (hC : Ctx cl k X c) (a b : Expr) (pos : Pos) : PE X (.Subscript a b pos) (tX RV X.K cl (ev (n + 1) c (.Subscript a b pos))) := by
  have ix : PlainIx b → (ev (n + 1) c (.Subscript a b pos) = fun r s => match bor (ev n c) c a r s with
        | none => none
        | some (x, s1) => match ev n c b r s1 with
          | some (.int i, s2) => match x with
            | .tup xs => (atD xs i).map fun d => (d, s2)
            | .lst xs => (atD xs i).map fun d => (d, s2)
            | .scr xs => (atD (xs.map .int) i).map fun d => (d, s2)
            | _ => none
          | _ => none) → PE X (.Subscript a b pos) (tX RV X.K cl (ev (n + 1) c (.Subscript a b pos))) := fun hp e0 => by
    rw [e0]
    exact pe_ixD hp (pe_bor hC (ih.e a hC)) (ih.e b hC)
  cases b with
  | Slice lo hi st p2 =>
    cases st with
    | none => exact pe_slD (pe_bor hC (ih.e a hC)) (po_D (fun e => ih.e e hC) lo) (po_D (fun e => ih.e e hC) hi)
    | some st =>
      refine no_E fun r s => ?_
      cases q1 : bor (ev n c) c a r s with
      | none =>
        show (match bor (ev n c) c a r s with
          | none => none
          | some (x, s1) => _) = none
        rw [q1]
      | some p1 =>
        show (match bor (ev n c) c a r s with
          | none => none
          | some (x, s1) => match ev n c (.Slice lo hi (some st) p2) r s1 with
            | some (.int i, s2) => _
            | _ => none) = none
        rw [q1]
        have : ∀ s1, ev n c (.Slice lo hi (some st) p2) r s1 = none := fun s1 => by
          cases n <;> rfl
        dsimp only
        rw [this]
  | Constant kk j p2 =>
    cases kk with
    | str x => exact pe_getD hC (ih.e a hC)
    | _ => exact ix (fun _ _ => rfl) rfl
  | _ => exact ix (fun _ _ => rfl) rfl
theorem dict_any (ih : IH cl n) (hC : Ctx cl k X c) (ks : List (Option Expr)) (vs : List Expr) (pos : Pos) : PE X (.Dict ks vs pos) (tX RV X.K cl (ev (n + 1) c (.Dict ks vs pos))) := by
  refine mkE fun P r s a0 d s' σ H Q hf g q => ?_
  unfold ev at hf
  dsimp only at hf
  split at hf
  · rename_i k1 j1 p1 k2 j2 p2 k3 j3 p3 k4 j4 p4 e1 e2 e3 e4
    split at hf
    · rename_i hk
      obtain ⟨rfl, rfl, rfl, rfl⟩ := hk
      exact ⟨_, pe_dictD (fun e => ih.e e hC), P, r, none, a0, d, s', hf, g, q⟩
    · cases hf
  · cases hf
theorem list_F (ih : IH cl n) (hC : Ctx cl k X c) (es : List Expr) (pos : Pos) : PE X (.List es pos) (tF X.K cl (ev (n + 1) c (.List es pos))) := pe_lstF (pa_seq vext_v (fun e => ih.e e hC) (ih.star c) es)
theorem listc_F (ih : IH cl n) (hC : Ctx cl k X c) (a : Expr) (p pos : Pos) (h0 : clsB c "list" = false) (h : (!fnB c "list" && bltB c "list") = true) : PE X (.Call (.Name "list" p) [a] [] pos) (tF X.K cl (ev (n + 1) c (.Call (.Name "list" p) [a] [] pos))) := by
  rw [Bool.and_eq_true, Bool.not_eq_true'] at h
  have h1 : ¬ fnB c "list" = true := by rw [h.1]; exact Bool.false_ne_true
  have h2 : ¬ clsB c "list" = true := by rw [h0]; exact Bool.false_ne_true
  have e0 : ev (n + 1) c (.Call (.Name "list" p) [a] [] pos) = fun r s => match bor (ev n c) c a r s with
            | some (d, s1) => (bltD "list" [d]).map fun d => (d, s1)
            | none => none := by
    funext r s
    show (if fnB c "list" = true then _ else if clsB c "list" = true then _ else if bltB c "list" = true then (if callB "list" = true then (match seqE (bor (ev n c) c) [a] r s with
      | some (ds, s1) => (bltD "list" ds).map fun d => (d, s1)
      | none => none) else _) else none) = _
    rw [if_neg h1, if_neg h2, if_pos h.2, if_pos (show callB "list" = true by decide +kernel), seq_one]
    cases bor (ev n c) c a r s with
    | none => rfl
    | some y => rfl
  rw [e0]
  exact pe_listF hC h.2 (pe_bor hC (ih.e a hC)) fun r s y hy => bor_star (ih.star c) _ _ _ _ hy _ _
theorem ih_step (ih : IH cl n) : IH cl (n + 1) where
  e := fun {k X c} e hC => by
    cases e with
    | Constant kk j p => cases kk with
      | none => exact mkE fun P r s a0 d s' σ H Q hf g q => by cases hf; exact ⟨_, pe_non, g.fin q .non⟩
      | bool b => exact mkE fun P r s a0 d s' σ H Q hf g q => by cases hf; exact ⟨_, pe_bl, g.fin q (.bl b)⟩
      | int i => exact mkE fun P r s a0 d s' σ H Q hf g q => by cases hf; exact ⟨_, pe_int, g.fin q (.int i)⟩
      | str x => exact mkE fun P r s a0 d s' σ H Q hf g q => by cases hf; exact ⟨_, pe_str, g.fin q (.str x)⟩
      | _ => exact no_E fun _ _ => rfl
    | Name x p => exact pe_nm hC
    | BinOp a op b p => exact pe_bin hC (pe_bor hC (ih.e a hC)) (pe_bor hC (ih.e b hC))
    | UnaryOp op a p => cases op with
      | USub => exact pe_negD (ih.e a hC)
      | Not => exact pe_notD (ih.e a hC)
      | _ => exact no_E fun _ _ => rfl
    | BoolOp op vs p => cases op with
      | And => exact pe_andD (fun e => ih.e e hC) vs
      | Or => exact pe_orD (fun e => ih.e e hC) vs
    | Compare a ops bs p =>
      match ops, bs with
      | [op], [b] => exact (cmp1_any ih hC a b op p).1
      | [op, op'], [b, b'] => exact (cmp2_any ih hC a b b' op op' p).1
      | [], _ => exact no_E fun _ _ => rfl
      | [_], [] => exact no_E fun _ _ => rfl
      | [_], _ :: _ :: _ => exact no_E fun _ _ => rfl
      | [_, _], [] => exact no_E fun _ _ => rfl
      | [_, _], [_] => exact no_E fun _ _ => rfl
      | [_, _], _ :: _ :: _ :: _ => exact no_E fun _ _ => rfl
      | _ :: _ :: _ :: _, _ => exact no_E fun _ _ => rfl
    | IfExp t a b p => exact pe_ifD (ih.t t hC) (ih.e a hC) (ih.e b hC)
    | Tuple es m p => exact pe_tupD (pa_seq vext_v (fun e => ih.e e hC) (ih.star c) es)
    | List es p => exact fe_of (list_F ih hC es p)
    | Subscript a b p => exact sub_any ih hC a b p
    | Call f as kws p =>
      cases f with
      | Name g p2 =>
        cases kws with
        | nil => exact call_any ih hC g as p2 p
        | cons _ _ => exact no_E fun _ _ => rfl
      | Attribute o m ap =>
        cases kws with
        | nil =>
          cases o with
          | Name x xp =>
            by_cases hm : (mtB c m && (decide (as.length < 30) && (ap.endLine == p.line))) = true
            · have e0 : ev (n + 1) c (.Call (.Attribute (.Name x xp) m ap) as [] p) = fun r s => match ev n c (.Name x xp) r s with
                | some (.obj l, s1) => match (generalizing := false) as with
                  | [] => c.Mt m [.obj l] s1
                  | _ :: _ => match seqE (ev n c) as r s1 with
                    | some (ds, s2) => c.Mt m (.obj l :: ds) s2
                    | none => none
                | _ => none := by
                funext r s
                show (if (mtB c m && (decide (as.length < 30) && (ap.endLine == p.line))) = true then _ else none) = _
                rw [if_pos hm]
                all_goals (cases as <;> rfl)
              rw [e0]
              rw [Bool.and_eq_true, Bool.and_eq_true] at hm
              exact pe_mtD hC (ih.e _ hC) hm.1 (fun e => ih.e e hC) (ih.star c) as (of_decide_eq_true hm.2.1) hm.2.2
            · refine no_E fun r s => ?_
              show (if (mtB c m && (decide (as.length < 30) && (ap.endLine == p.line))) = true then _ else none) = _
              rw [if_neg hm]
          | _ => exact no_E fun _ _ => rfl
        | cons _ _ => cases o <;> exact no_E fun _ _ => rfl
      | _ => exact no_E fun _ _ => rfl
    | Attribute o f p =>
      cases o with
      | Name x xp =>
        by_cases hob : c.ob = true
        · have e0 : ev (n + 1) c (.Attribute (.Name x xp) f p) = fun r s => match ev n c (.Name x xp) r s with
              | some (.obj l, s1) => (fldD f l).map fun d => (d, s1)
              | _ => none := by
            funext r s
            show (if c.ob = true then _ else none) = _
            rw [if_pos hob]
            all_goals rfl
          rw [e0]
          exact pe_fldD hC (ih.e _ hC) hob
        · refine no_E fun r s => ?_
          show (if c.ob = true then _ else none) = _
          rw [if_neg hob]
      | _ => exact no_E fun _ _ => rfl
    | Dict ks vs p => exact dict_any ih hC ks vs p
    | ListComp elt gs scope p => exact fe_of (comp_any ih hC elt gs scope p)
    | _ => exact no_E fun _ _ => rfl
  t := fun {k X c} e hC => by
    have plain : (∀ whole, isTrue e X.env whole = (do let v ← whole; standAt e.pos; holding [v] (truthy v))) → (evT (n + 1) c e = asT (ev n c e)) → PT X e (tTt X.K cl (evT (n + 1) c e)) := fun he e0 => by
      rw [e0]
      refine mkT fun P r s a0 b s' σ H Q hf g q => ?_
      unfold asT at hf
      cases q1 : ev n c e r s with
      | none => rw [q1] at hf; cases hf
      | some p1 =>
        obtain ⟨x, s1⟩ := p1
        rw [q1] at hf
        cases x with
        | bl b' =>
          cases hf
          refine ⟨_, pt_val (ih.e e hC) he, P, r, s, a0, _, _, q1, g, fun v H1 a1 g1 e1 l1 rv => ?_⟩
          cases rv
          exact ⟨_, rfl, q H1 a1 g1 e1 l1⟩
        | _ => cases hf
    cases e with
    | UnaryOp op a p => cases op with
      | Not => exact pt_notD (ih.t a hC)
      | _ => exact plain (fun _ => rfl) rfl
    | BoolOp op vs p => cases op with
      | And => exact (pw_andD (fun e => ih.t e hC) vs).pt
      | Or => exact (pw_orD (fun e => ih.t e hC) vs).pt
    | IfExp _ _ _ _ => exact no_T fun _ _ => rfl
    | NamedExpr _ _ _ => exact no_T fun _ _ => rfl
    | Compare a ops bs p => exact ih.q a ops bs p hC
    | _ => exact plain (fun _ => rfl) rfl
  f := fun {k X c} e hC hfr => by
    cases e with
    | List es p => exact list_F ih hC es p
    | ListComp elt gs scope p => exact comp_any ih hC elt gs scope p
    | Call f as kws p =>
      cases f with
      | Name g p2 =>
        match as, kws, hfr with
        | [a], [], hfr =>
          have hfr : (decide (g = ("list" : Str)) && !clsB c g && (!fnB c g && bltB c g)) = true := hfr
          rw [Bool.and_eq_true, Bool.and_eq_true, Bool.not_eq_true'] at hfr
          have e1 := of_decide_eq_true hfr.1.1
          subst e1
          exact listc_F ih hC a p2 p hfr.1.2 hfr.2
      | _ => cases hfr
    | _ => cases hfr
  q := fun {k X c} a ops bs p hC => by
    match ops, bs with
    | [op], [b] => exact (cmp1_any ih hC a b op p).2
    | [op, op'], [b, b'] => exact (cmp2_any ih hC a b b' op op' p).2
    | [], _ => exact no_T fun _ _ => rfl
    | [_], [] => exact no_T fun _ _ => rfl
    | [_], _ :: _ :: _ => exact no_T fun _ _ => rfl
    | [_, _], [] => exact no_T fun _ _ => rfl
    | [_, _], [_] => exact no_T fun _ _ => rfl
    | [_, _], _ :: _ :: _ :: _ => exact no_T fun _ _ => rfl
    | _ :: _ :: _ :: _, _ => exact no_T fun _ _ => rfl
  star := fun c e r s x hf es env => by
    cases e with
    | Starred a p => cases hf
    | _ => rfl
  set := fun c e r s x hf es m p => by
    cases e with
    | Set a b p => cases hf
    | _ => exact fun z => nomatch z
theorem ih_all (cl : Addr) : ∀ n, IH cl n
  | 0 => ih0
  | n + 1 => ih_step (ih_all cl n)
end
end CH

set_option maxRecDepth 100000
set_option maxHeartbeats 8000000
/-! Statements. -/
namespace CH
open PySem PySem.Spec PyProof.Rows L2
/-- what a step leaves -/
structure Rst (a1 : Option Addr) (r : Rho) (σ : L2.St) (H H' : Hp) : Prop where
  keep : ∀ a o, H a = some o → ¬ isDk o → ¬ OwS r σ a → H' a = some o
  alc : ∀ a, H a ≠ none → H' a ≠ none
  dk : ∀ a kvs, H a = some (.dK kvs) → a1 ≠ some a → H' a = some (.dK kvs)
structure Stp (a1 : Option Addr) (r : Rho) (σ : L2.St) (H : Hp) (r' : Rho) (σ' : L2.St) (H' : Hp) : Prop where
  rst : Rst a1 r σ H H'
  own : ∀ a, OwS r' σ' a → OwS r σ a ∨ H a = none
section
variable {cl : Addr} {k : Nat} {X : Cx} {c : C} {e : Expr} {n : Nat} {a1 a2 : Option Addr} {r r1 r2 : Rho} {σ σ1 σ2 : L2.St} {H H1 H2 : Hp}
theorem Rst.after (x : Stp a1 r σ H r1 σ1 H1) (y : Rst a2 r1 σ1 H1 H2) (l : Le a1 a2) : Rst a2 r σ H H2 :=
  ⟨fun a o h d n => y.keep a o (x.rst.keep a o h d n) d fun z => (x.own a z).elim n (fun z => by rw [z] at h; cases h), fun a h => y.alc a (x.rst.alc a h), fun a kvs h n => y.dk a kvs (x.rst.dk a kvs h fun e => n (l a e)) n⟩
theorem Stp.trans (x : Stp a1 r σ H r1 σ1 H1) (y : Stp a2 r1 σ1 H1 r2 σ2 H2) (l : Le a1 a2) : Stp a2 r σ H r2 σ2 H2 :=
  ⟨Rst.after x y.rst l, fun a h => (y.own a h).elim (x.own a) fun z => .inr (by
    cases q : H a with
    | none => rfl
    | some o => exact absurd z (x.rst.alc a (by rw [q]; exact fun w => nomatch w)))⟩
theorem Stp.refl (a1 : Option Addr) (r : Rho) (σ : L2.St) (H : Hp) : Stp a1 r σ H r σ H := ⟨⟨fun _ _ h _ _ => h, fun _ h => h, fun _ _ h _ => h⟩, fun _ h => .inl h⟩
theorem Stp.of (e : Ext a1 H H1) (h : ∀ a, OwS r1 σ1 a → OwS r σ a ∨ H a = none) : Stp a1 r σ H r1 σ1 H1 := ⟨⟨fun a o h d _ => e.keep a o h d, e.alc, e.dk⟩, h⟩
theorem Stp.fr {r0 : Rho} (h : ∀ a, OwS r0 σ a → OwS r σ a) (a1 : Option Addr) (H : Hp) : Stp a1 r σ H r0 σ H := ⟨⟨fun _ _ h _ _ => h, fun _ h => h, fun _ _ h _ => h⟩, fun a z => .inl (h a z)⟩

def Cont (K : PySem.W.Frag) (cl : Addr) (P : AS) (r : Rho) (a0 : Option Addr) (σ : L2.St) (H : Hp) (D : Ends) : Out → Prop
  | .nx r' s' => ∀ σ' H' a1, Good K cl P r' s' a1 σ' H' → Stp a1 r σ H r' σ' H' → Le a0 a1 → D.nx σ' H'
  | .rt d s' => ∀ v H' a1, R K cl a1 (minus H' P) v d → StOk K a1 s' (minus H' P) → Rst a1 r σ H H' → Le a0 a1 → D.rt v H'
def tSt (K : PySem.W.Frag) (cl : Addr) (f : Rho → S → Option Out) : TS := fun D σ H => ∃ (P : AS) (r : Rho) (s : S) (a0 : Option Addr) (o : Out), f r s = some o ∧ Good K cl P r s a0 σ H ∧ Cont K cl P r a0 σ H D o
theorem Cont.after {K : PySem.W.Frag} {P : AS} {a0 : Option Addr} {D : Ends} {o : Out} (q : Cont K cl P r a0 σ H D o) (x : Stp a1 r σ H r1 σ1 H1) (l : Le a0 a1) : Cont K cl P r1 a1 σ1 H1 D o := by
  cases o with
  | nx r' s' => exact fun σ' H' a2 g y l2 => q σ' H' a2 g (x.trans y l2) (l.trans l2)
  | rt d s' => exact fun v H' a2 rv st y l2 => q v H' a2 rv st (Rst.after x y l2) (l.trans l2)
theorem mkSt {st : Stmt} {f : Rho → S → Option Out} (h : X.env.scope.kind = .function → ∀ (P : AS) (r : Rho) (s : S) (a0 : Option Addr) (o : Out) (σ : L2.St) (H : Hp) (D : Ends), f r s = some o → Good X.K cl P r s a0 σ H → Cont X.K cl P r a0 σ H D o → ∃ t, PS X st t ∧ t D σ H) : PS X st (tSt X.K cl f) :=
  ⟨fun pins s σ H D I ⟨P, r, s0, a0, o, hf, g, q⟩ => let ⟨_, ht, hq⟩ := h I.ok.kind P r s0 a0 o σ H D hf g q; ht.run pins s σ H D I hq⟩
theorem no_S {st : Stmt} {f : Rho → S → Option Out} (h : ∀ r s, f r s = none) : PS X st (tSt X.K cl f) := mkSt fun _ P r s a0 o σ H D hf g q => by rw [h] at hf; cases hf
/-- blocks -/
theorem pss_D {f : Stmt → Rho → S → Option Out} (hf0 : ∀ st, PS X st (tSt X.K cl (f st))) : ∀ sts : List Stmt, PSs X sts (tSt X.K cl (exs f sts))
  | [] => ⟨fun pins s σ H D I ⟨P, r, s0, a0, o, hf, g, q⟩ => by
    cases hf
    exact pss_nil.run pins s σ H D I (q σ H a0 g (Stp.refl _ _ _ _) (Le.refl _))⟩
  | st :: sts => ⟨fun pins s σ H D I ⟨P, r, s0, a0, o, hf, g, q⟩ => by
    have ih := pss_D hf0 sts
    have hf : (match f st r s0 with
      | none => none
      | some (.rt d s1) => some (.rt d s1)
      | some (.nx r1 s1) => exs f sts r1 s1) = some o := hf
    refine (pss_cons (hf0 st) ih).run pins s σ H D I ?_
    cases h1 : f st r s0 with
    | none => rw [h1] at hf; cases hf
    | some o1 =>
      rw [h1] at hf
      cases o1 with
      | rt d s1 =>
        cases hf
        exact ⟨P, r, s0, a0, _, h1, g, q⟩
      | nx r1 s1 => exact ⟨P, r, s0, a0, _, h1, g, fun σ' H' a1 g1 x l => ⟨P, r1, s1, a1, o, hf, g1, q.after x l⟩⟩⟩
theorem kind_blk {env : Env} (h : env.scope.kind = .function) : env.blockKind = .function := by
  unfold Env.blockKind
  rw [h]
  rfl
theorem sw_val {elt : Expr} {gs : List Comprehension} {scope : Scope} {p tp : Pos} {t : Str} {l : Nat} {env : Env} (h : env.scope.kind = .function) :
    swapsWith (.ListComp elt gs scope p) (some (.Name t tp)) l env = pure (env.kindOf t == some .local && tp.line == p.line && !(scope.names.any fun (n, k) => n == t && (k == .local || k == .cell))) := by
  unfold swapsWith
  simp only [kind_blk h, Expr.pos]
  rfl
/-- the state behind an assignment of a new list -/
theorem asg_fresh {P : AS} {s s' : S} {a0 : Option Addr} {i : Nat} (g : Good X.K cl P r s a0 σ H) {p : Addr} {xs : List V} {l : List D} {H' : Hp} {a1 : Option Addr} (g' : Good X.K cl P r s' a1 σ H') (ex : Ext a1 H H') (le : Le a0 a1) (hp : H p = none) (hp' : H' p = some (.lst xs)) (hr : Rs X.K cl a1 (minus H' (fun a => Ow P r σ a ∨ a = p)) xs l) :
    Good X.K cl P (r.set i (mkS c i e (.lst l))) s' a1 (σ.set i (some (V.ref p))) H' ∧ Stp a1 r σ H (r.set i (mkS c i e (.lst l))) (σ.set i (some (V.ref p))) H' := by
  unfold CH.mkS
  split
  · exact ⟨g.seto ex le g'.st hp hp' hr, .of ex fun a z => (ows_seto a z).imp id fun y => by rw [y]; exact hp⟩
  · have no : ¬ Ow P r σ p := fun z => g.owAlc p z hp
    exact ⟨g'.setv (R.lst (minus_some.mpr ⟨no, hp'⟩) (hr.mono (Keep.sub.minus fun a o n _ z => n (.inl z)) (Le.refl _))), .of ex fun a z => .inl (ows_setv a z)⟩
end
end CH

set_option maxRecDepth 100000
set_option maxHeartbeats 8000000
/-! Statements, second part. -/
namespace CH
open PySem PySem.Spec PyProof.Rows L2
section
variable {cl : Addr} {k : Nat} {X : Cx} {c : C} {e : Expr} {n : Nat}
theorem sw_no {e : Expr} {t : Option Expr} {l : Nat} {env : Env} (h1 : ∀ a b c d, e ≠ .ListComp a b c d) (h2 : ∀ a b c d, e ≠ .SetComp a b c d) (h3 : ∀ a b c d f, e ≠ .DictComp a b c d f) : swapsWith e t l env = pure false := by
  cases e with
  | ListComp a b c d => exact absurd rfl (h1 a b c d)
  | SetComp a b c d => exact absurd rfl (h2 a b c d)
  | DictComp a b c d f => exact absurd rfl (h3 a b c d f)
  | _ => rfl
theorem ev_no {r : Rho} {s : S} {x : D × S} {e : Expr} (h : ev n c e r s = some x) : (∀ a b c d, e ≠ .SetComp a b c d) ∧ ∀ a b c d f, e ≠ .DictComp a b c d f := by
  cases n with
  | zero => cases h
  | succ n =>
    constructor
    · intro a b c' d z
      subst z
      cases h
    · intro a b c' d f z
      subst z
      cases h
/-- x = [..] on one line -/
theorem ps_comp (ih : IH cl n) (hC : Ctx cl k X c) {elt : Expr} {gs : List Comprehension} {scope : Scope} {pos spos py : Pos} {y : Str} {i : Nat} (hy : X.N[i]? = some y) (hyl : X.env.scope.names.lookup y = some .local) (hsw : swapsWith (.ListComp elt gs scope pos) (some (.Name y py)) spos.line X.env = pure true)
    {P : AS} {r : Rho} {s : S} {a0 : Option Addr} {d : D} {s' : S} {σ : L2.St} {H : Hp} {Q : VK} (hf : ev (n + 1) c (.ListComp elt gs scope pos) r s = some (d, s')) (g : Good X.K cl P r s a0 σ H)
    (q : ∀ p xs l H' a1, Good X.K cl P r s' a1 σ H' → Ext a1 H H' → Le a0 a1 → d = .lst l → H p = none → H' p = some (.lst xs) → Rs X.K cl a1 (minus H' (fun a => Ow P r σ a ∨ a = p)) xs l → Q (V.ref p) H') :
    ∃ te, PS X (.Assign [.Name y py] (.ListComp elt gs scope pos) spos) (tAsg te (gName i)) ∧ te σ H Q := by
  have nd : X.N.Nodup := by rw [hC.N]; exact hC.nd
  match gs, hf, hsw with
  | [⟨tg, it, ifs, ia⟩], hf, hsw =>
    by_cases hia : ia = 0
    · subst hia
      have hf : (if L2.blkC c.N c.sc scope (ownOf c tg) = true then (match srcE (bor (ev n c) c) c tg it r s with
            | none => none
            | some (xs, s1) =>
              if xs.length < line then
                match compE (bindT (c.blk scope) tg) (ifsT (evT n (c.blk scope)) ifs) (ev n (c.blk scope) elt) (wipeR r ((ownOf c tg).map (·.2))) xs s1 with
                | some (ys, s2) => some (D.lst ys, s2)
                | none => none
              else none) else none) = some (d, s') := hf
      by_cases hb : blkC c.N c.sc scope (ownOf c tg) = true
      · rw [if_pos hb] at hf
        have hts : ∀ (s : Shared) (H : Hp) (C' : Addr) (clo : List (Str × Addr)) (fp : List Addr), PTs (X.blk s H scope (compEnvC scope clo C' X.env) fp) ifs (tTt X.K cl (ifsT (evT n (c.blk scope)) ifs)) := fun s H C' clo fp => by
          match ifs with
          | [] => exact ⟨fun pins s0 σ H0 Q I ⟨P, r, s, a0, b, s', hf, g, q⟩ => by
              cases hf
              exact pts_nil.run pins s0 σ H0 Q I (q H0 a0 g (Ext.refl _ _) (Le.refl _))⟩
          | [t] => exact pts_one (ih.t t (ctx_blk hC scope s H C' clo fp))
          | _ :: _ :: _ => exact ⟨fun pins s0 σ H0 Q I ⟨P, r, s, a0, b, s', hf, g, q⟩ => by cases hf⟩
        have hes : ∀ (s : Shared) (H : Hp) (C' : Addr) (clo : List (Str × Addr)) (fp : List Addr), PE (X.blk s H scope (compEnvC scope clo C' X.env) fp) elt (tX RV X.K cl (ev n (c.blk scope) elt)) := fun s H C' clo fp => ih.e elt (ctx_blk hC scope s H C' clo fp)
        have hsrc : PI X tg it (tSrc KPb X.K cl (srcE (bor (ev n c) c) c tg it)) := src_D hC kok_b vext_b (fun e => pe_bor hC (ih.e e hC)) (bor_star (ih.star c))
        obtain ⟨h1, h2⟩ := pe_compF (pos := pos) hC hb hsrc (fun r s x h => src_set (bor_set (ih.set c)) h) hts hes P r s a0 d s' σ H Q hf g q
        exact ⟨_, ps_setLc hC.calm nd hy hyl hsw hsrc (by rw [hC.N, hC.sc]; exact blkOk_by hb) (fun s H C' clo fp => pg_D (ctx_blk hC scope s H C' clo fp) tg) hts hes h1, h2⟩
      · rw [if_neg hb] at hf; cases hf
    · exfalso
      have : ev (n + 1) c (.ListComp elt [⟨tg, it, ifs, ia⟩] scope pos) r s = none := by
        unfold ev
        split
        all_goals first | rfl | (rename_i h; simp at h; done) | (rename_i h; simp at h; exact absurd h.2.1.2.2.2 hia)
      rw [this] at hf; cases hf
  | [], hf, _ => cases hf
  | g1 :: g2 :: gs, hf, _ =>
    exfalso
    have : ev (n + 1) c (.ListComp elt (g1 :: g2 :: gs) scope pos) r s = none := by
      unfold ev
      split
      all_goals first | rfl | (rename_i h; simp at h; done)
    rw [this] at hf; cases hf
/-- x = e -/
theorem asg_name (ih : ∀ n, IH cl n) (hC : Ctx cl k X c) (x : Str) (px pos : Pos) (e : Expr) : PS X (.Assign [.Name x px] e pos) (tSt X.K cl (ex (n + 1) c (.Assign [.Name x px] e pos))) := by
  refine mkSt fun hkind P r s a0 o σ H Dn hf g q => ?_
  have nd : X.N.Nodup := by rw [hC.N]; exact hC.nd
  have hf : (match dstOf c x with
      | some i => match ev n c e (freeze r (gr n c e)) s with
        | some (d, s1) => some (.nx ((freeze r (gr n c e)).set i (mkS c i e d)) s1)
        | none => none
      | none => none) = some o := hf
  obtain ⟨gf, hfr⟩ := g.fr (gr n c e)
  generalize hr1 : freeze r (gr n c e) = r1 at hf gf hfr
  cases h1 : dstOf c x with
  | none => rw [h1] at hf; cases hf
  | some i =>
    rw [h1] at hf
    dsimp only at hf
    cases h2 : ev n c e r1 s with
    | none => rw [h2] at hf; cases hf
    | some p1 =>
      obtain ⟨d, s1⟩ := p1
      rw [h2] at hf
      cases hf
      obtain ⟨n1, n2, n3⟩ := dst_at hC h1
      obtain ⟨e2, e3⟩ := ev_no h2
      have sf := Stp.fr (r := r) (σ := σ) hfr a0 H
      have strong : ∀ p xs l H' a1, Good X.K cl P r1 s1 a1 σ H' → Ext a1 H H' → Le a0 a1 → d = .lst l → H p = none → H' p = some (.lst xs) → Rs X.K cl a1 (minus H' (fun a => Ow P r1 σ a ∨ a = p)) xs l → Dn.nx (σ.set i (some (V.ref p))) H' := fun p xs l H' a1 g' ex le ed hp hp' hr => by
        subst ed
        obtain ⟨g2, st2⟩ := asg_fresh (c := c) (e := e) (i := i) gf g' ex le hp hp' hr
        exact q _ H' a1 g2 (sf.trans st2 le) le
      by_cases hlc : ∃ elt gs scope p, e = .ListComp elt gs scope p
      · obtain ⟨elt, gs, scope, p, rfl⟩ := hlc
        cases n with
        | zero => cases h2
        | succ n =>
          by_cases hsw : (X.env.kindOf x == some .local && px.line == p.line && !(scope.names.any fun (n, k) => n == x && (k == .local || k == .cell))) = true
          · have hk : X.env.scope.names.lookup x = some .local := by
              simp only [Bool.and_eq_true, beq_iff_eq] at hsw
              exact hsw.1.1
            obtain ⟨te, hps, hrd⟩ := ps_comp (Q := fun v H' => Dn.nx (σ.set i (some v)) H') (spos := pos) (ih n) hC n1 hk (by rw [sw_val hkind, hsw]) h2 gf strong
            exact ⟨_, hps, hrd⟩
          · have hsw' := Bool.eq_false_iff.mpr hsw
            exact ⟨_, ps_set nd n1 n2 ((ih (n + 1)).f _ hC rfl) (by rw [sw_val hkind, hsw']) n3, P, r1, s, a0, d, s1, h2, gf, strong⟩
      · have hs : swapsWith e (some (.Name x px)) pos.line X.env = pure false := sw_no (fun a b c d z => hlc ⟨a, b, c, d, z⟩) e2 e3
        by_cases hfr2 : fresh c e = true
        · by_cases hd : ∃ l, d = .lst l
          · exact ⟨_, ps_set nd n1 n2 ((ih n).f e hC hfr2) hs n3, P, r1, s, a0, d, s1, h2, gf, strong⟩
          · have em : mkS c i e d = .v d := by
              unfold CH.mkS
              split
              · cases d with
                | lst l => exact absurd ⟨l, rfl⟩ hd
                | _ => rfl
              · rfl
            refine ⟨_, ps_set nd n1 n2 ((ih n).e e hC) hs n3, P, r1, s, a0, d, s1, h2, gf, fun v H' a1 g' ex le rv => ?_⟩
            rw [em] at q
            exact q _ H' a1 (g'.setv rv) (sf.trans (.of ex fun a z => .inl (ows_setv a z)) le) le
        · have em : mkS c i e d = .v d := by
            unfold CH.mkS
            rw [if_neg]
            intro z
            rw [Bool.and_eq_true] at z
            exact hfr2 z.2
          refine ⟨_, ps_set nd n1 n2 ((ih n).e e hC) hs n3, P, r1, s, a0, d, s1, h2, gf, fun v H' a1 g' ex le rv => ?_⟩
          rw [em] at q
          exact q _ H' a1 (g'.setv rv) (sf.trans (.of ex fun a z => .inl (ows_setv a z)) le) le
/-- x, y = a, b -/
theorem par_sw {x y : Str} {px py pt pt2 : Pos} {kt k2 : Nat} {a b : Expr} {env : Env} (hk : env.scope.kind = .function) (hc : env.scope = c.sc) (h : parOk c x y px py a b = true) (ha : ∀ t p, a ≠ .Starred t p) (hb : ∀ t p, b ≠ .Starred t p) :
    swappedStores [.Tuple [.Name x px, .Name y py] kt pt] (.Tuple [a, b] k2 pt2) env = pure (some [x, y]) := by
  unfold parOk at h
  simp only [Bool.and_eq_true, Bool.not_eq_true', beq_iff_eq, decide_eq_false_iff_not] at h
  obtain ⟨⟨⟨⟨⟨h1, h2⟩, h3⟩, h4⟩, h5⟩, h6⟩ := h
  have k1 : env.kindOf x = some .local := by show env.scope.names.lookup x = _; rw [hc]; exact h1
  have k2' : env.kindOf y = some .local := by show env.scope.names.lookup y = _; rw [hc]; exact h2
  have hn : ([x, y] : List Str).eraseDups.length = 2 := by
    have : ¬ (y = x) := fun z => h4 z.symm
    simp [List.eraseDups_cons, this]
  unfold swappedStores
  simp only [kind_blk hk, k1, k2', h3, h5, h6, List.length_cons, List.length_nil, List.head?_cons, Option.map_some, Option.getD_some, Expr.pos, List.filterMap_cons, List.filterMap_nil, beq_self_eq_true, Bool.and_self, if_true, hn]
  refine (if_neg (by decide)).trans ((if_neg ?_).trans rfl)
  intro z
  cases a with
  | Starred t p => exact absurd rfl (ha t p)
  | _ =>
    cases b with
    | Starred t p => exact absurd rfl (hb t p)
    | _ => cases z
end
end CH

set_option maxRecDepth 100000
set_option maxHeartbeats 8000000
/-! Statements, third part. -/
namespace CH
open PySem PySem.Spec PyProof.Rows L2
section
variable {cl : Addr} {k : Nat} {X : Cx} {c : C} {e : Expr} {n : Nat}
theorem asg_par (ih : IH cl n) (hC : Ctx cl k X c) {x y : Str} {px py pt pt2 pos : Pos} {kt k2 : Nat} {a b : Expr} {P : AS} {r1 : Rho} {s s1 : S} {a0 : Option Addr} {σ : L2.St} {H : Hp} {Dn : Ends} {i j : Nat} {d d' : D} (hkind : X.env.scope.kind = .function)
    (hp : parOk c x y px py a b = true) (hi : idx c.N x = some i) (hj : idx c.N y = some j) (hij : i ≠ j) (hs : seqE (ev n c) [a, b] r1 s = some ([d, d'], s1)) (g : Good X.K cl P r1 s a0 σ H)
    (q : ∀ σ' H' a1, Good X.K cl P ((r1.set i (.v d)).set j (.v d')) s1 a1 σ' H' → Stp a1 r1 σ H ((r1.set i (.v d)).set j (.v d')) σ' H' → Le a0 a1 → Dn.nx σ' H') :
    ∃ t, PS X (.Assign [.Tuple [.Name x px, .Name y py] kt pt] (.Tuple [a, b] k2 pt2) pos) t ∧ t Dn σ H := by
  have nd : X.N.Nodup := by rw [hC.N]; exact hC.nd
  have hp2 := hp
  unfold parOk at hp2
  simp only [Bool.and_eq_true, Bool.not_eq_true', beq_iff_eq, decide_eq_false_iff_not] at hp2
  obtain ⟨⟨⟨⟨⟨l1, l2⟩, _⟩, _⟩, _⟩, _⟩ := hp2
  have hst : (∀ t p, a ≠ .Starred t p) ∧ ∀ t p, b ≠ .Starred t p := by
    have h0 : (match ev n c a r1 s with
      | none => none
      | some (d, s1) => match seqE (ev n c) [b] r1 s1 with
        | none => none
        | some (ds, s2) => some (d :: ds, s2)) = some ([d, d'], s1) := hs
    cases q1 : ev n c a r1 s with
    | none => rw [q1] at h0; cases h0
    | some p1 =>
      rw [q1] at h0
      dsimp only at h0
      rw [seq_one] at h0
      cases q2 : ev n c b r1 p1.2 with
      | none => rw [q2] at h0; cases h0
      | some p2 =>
        have no : ∀ (e : Expr) (r : Rho) (s : S) (y : D × S), ev n c e r s = some y → ∀ t p, e ≠ .Starred t p := fun e r s y h t p z => by
          subst z
          cases n with
          | zero => cases h
          | succ n => cases h
        exact ⟨no _ _ _ _ q1, no _ _ _ _ q2⟩
  have hxl : X.env.scope.names.lookup x = some .local := by rw [hC.sc]; exact l1
  have hyl : X.env.scope.names.lookup y = some .local := by rw [hC.sc]; exact l2
  refine ⟨_, ps_par hC.calm nd (by rw [hC.N]; exact idx_at hi) (by rw [hC.N]; exact idx_at hj) hij hxl hyl (pa_seq vext_v (fun e => ih.e e hC) (ih.star c) [a, b]) (par_sw hkind hC.sc hp hst.1 hst.2) rfl, P, r1, s, a0, _, _, hs, g, fun vs H1 a1 g1 e1 l1 vr => ?_⟩
  cases vr with
  | @cons v1 _ _ _ h1 t1 =>
    cases t1 with
    | cons h2 t2 =>
      cases t2
      have g2 := g1.setv (i := i) h1
      have kk : Keep (minus H1 (Ow P r1 σ)) (minus H1 (Ow P (r1.set i (.v d)) (σ.set i (some v1)))) := Keep.sub.minus fun a o n _ z => n (z.imp id fun y => ows_setv a y)
      have g3 := g2.setv (i := j) (R.mono kk (Le.refl _) h2)
      exact ⟨_, _, rfl, q _ H1 a1 g3 (.of e1 fun a z => .inl (ows_setv a (ows_setv a z))) l1⟩
theorem fm_lt {α β : Type} {f : α → Option β} : ∀ {l : List α}, (∃ t ∈ l, f t = none) → (l.filterMap f).length < l.length
  | [], h => by obtain ⟨_, h, _⟩ := h; cases h
  | a :: l, h => by
    cases e : f a with
    | none =>
      rw [List.filterMap_cons_none e]
      exact Nat.lt_succ_of_le (List.length_filterMap_le f l)
    | some b =>
      rw [List.filterMap_cons_some e]
      refine Nat.succ_lt_succ (fm_lt ?_)
      obtain ⟨t, h1, h2⟩ := h
      rcases List.mem_cons.mp h1 with z | z
      · rw [z, e] at h2; cases h2
      · exact ⟨t, z, h2⟩
theorem cel_sw {es vs : List Expr} {kk k2 : Nat} {pt p2 : Pos} {env : Env} (hk : env.scope.kind = .function) (hc : env.scope = c.sc) (h : celB c es = true) : swappedStores [.Tuple es kk pt] (.Tuple vs k2 p2) env = pure none := by
  unfold celB at h
  obtain ⟨t, h1, h2⟩ := List.any_eq_true.mp h
  unfold swappedStores
  dsimp only
  split
  · rfl
  split
  · rfl
  refine if_pos ?_
  have := fm_lt (f := fun t : Expr => match t with
    | .Name id pos => if env.kindOf id == some .local && pos.line == (es.head?.map (·.pos.line)).getD 0 then some id else none
    | _ => none) ⟨t, h1, by
      cases t with
      | Name x px =>
        have h3 : (!(c.sc.names.lookup x == some .local)) = true := h2
        have h4 : (env.kindOf x == some .local) = false := by
          show (env.scope.names.lookup x == some .local) = false
          rw [hc]
          simpa using h3
        show (if (env.kindOf x == some .local && px.line == (es.head?.map (·.pos.line)).getD 0) = true then some x else none) = none
        rw [h4]; rfl
      | _ => rfl⟩
  rw [Bool.or_eq_true]
  left
  rw [bne_iff_ne]
  exact Nat.ne_of_lt this
theorem asg_tup (ih : IH cl n) (hC : Ctx cl k X c) {es : List Expr} {kk : Nat} {pt pos : Pos} {e : Expr} {P : AS} {r1 r2 : Rho} {s s1 : S} {a0 : Option Addr} {σ : L2.St} {H : Hp} {Dn : Ends} {d : D} (hkind : X.env.scope.kind = .function)
    (hte : (tupE e && !celB c es) = false) (he : ev n c e r1 s = some (d, s1)) (hb : bindT c (.Tuple es kk pt) d r1 = some r2) (g : Good X.K cl P r1 s a0 σ H)
    (q : ∀ σ' H' a1, Good X.K cl P r2 s1 a1 σ' H' → Stp a1 r1 σ H r2 σ' H' → Le a0 a1 → Dn.nx σ' H') :
    ∃ t, PS X (.Assign [.Tuple es kk pt] e pos) t ∧ t Dn σ H := by
  obtain ⟨e2, e3⟩ := ev_no he
  have hs : swapsWithSole [.Tuple es kk pt] e pos.line X.env = pure false := by
    show swapsWith e (some (.Tuple es kk pt)) pos.line X.env = pure false
    cases e with
    | ListComp a b c' d => rfl
    | SetComp a b c' d => exact absurd rfl (e2 a b c' d)
    | DictComp a b c' d f => exact absurd rfl (e3 a b c' d f)
    | _ => rfl
  have hw : swappedStores [.Tuple es kk pt] e X.env = pure none := by
    cases e with
    | Tuple a b c' => exact cel_sw hkind hC.sc (by simpa [tupE] using hte)
    | _ => rfl
  refine ⟨_, ps_asg (ih.e e hC) (pg_D hC (.Tuple es kk pt)) hs hw rfl, P, r1, s, a0, d, s1, he, g, fun v H1 a1 g1 e1 l1 rv => ?_⟩
  exact ⟨P, r1, s1, a1, d, r2, hb, g1, rv, fun σ' is _ g' sub _ _ => q σ' H1 a1 g' (.of e1 fun a z => .inl (sub a z)) l1⟩
theorem asg_any (ih : ∀ n, IH cl n) (hC : Ctx cl k X c) (ts : List Expr) (e : Expr) (pos : Pos) : PS X (.Assign ts e pos) (tSt X.K cl (ex (n + 1) c (.Assign ts e pos))) := by
  match ts with
  | [] => exact no_S fun _ _ => rfl
  | [.Name x px] => exact asg_name ih hC x px pos e
  | [.Tuple es kk pt] =>
    refine mkSt fun hkind P r s a0 o σ H Dn hf g q => ?_
    obtain ⟨gf, hfr⟩ := g.fr (gr n c e)
    have sf := Stp.fr (r := r) (σ := σ) hfr a0 H
    unfold ex at hf
    dsimp only at hf
    generalize hr1 : freeze r (gr n c e) = r1 at hf gf hfr sf
    split at hf
    · split at hf
      · rename_i x px y py a b k2 p2
        split at hf
        · rename_i hp
          split at hf
          · rename_i i j hi hj
            split at hf
            · cases hf
            · rename_i hij
              split at hf
              · rename_i d d' s1 hs
                cases hf
                exact asg_par (ih n) hC hkind hp hi hj hij hs gf fun σ' H' a1 g' st le => q σ' H' a1 g' (sf.trans st le) le
              · cases hf
          · cases hf
        · cases hf
      · cases hf
    · rename_i hte
      split at hf
      · rename_i d s1 he
        obtain ⟨r2, hb, eo⟩ := Option.map_eq_some_iff.mp hf
        subst eo
        exact asg_tup (ih n) hC hkind (Bool.eq_false_iff.mpr hte) he hb gf fun σ' H' a1 g' st le => q σ' H' a1 g' (sf.trans st le) le
      · cases hf
  | [.Subscript o i pt] =>
    by_cases ho : ∃ x px, o = .Name x px
    · obtain ⟨x, px, rfl⟩ := ho
      refine mkSt fun hkind P r s a0 oo σ H Dn hf g q => ?_
      obtain ⟨gf, hfr⟩ := g.fr (gr n c e)
      have sf := Stp.fr (r := r) (σ := σ) hfr a0 H
      unfold ex at hf
      dsimp only at hf
      generalize hr1 : freeze r (gr n c e) = r1 at hf gf hfr sf
      split at hf
      · cases hf
      · rename_i j h1
        split at hf
        · cases hf
        · rename_i d s1 h2
          obtain ⟨e2, e3⟩ := ev_no h2
          obtain ⟨n1, n2, n3, n4⟩ := slot_at hC h1
          have hs0 : swapsWith e (some (.Subscript (.Name x px) i pt)) pos.line X.env = pure false := by
            cases e with
            | ListComp a b c' d => rfl
            | SetComp a b c' d => exact absurd rfl (e2 a b c' d)
            | DictComp a b c' d f => exact absurd rfl (e3 a b c' d f)
            | _ => rfl
          have hno : PE X (.Name x px) (tVar j) := pe_var n1 n2 n3 n4
          split at hf
          · rename_i l h3
            split at hf
            · rename_i kk s2 h4
              split at hf
              · rename_i qq h5
                cases hf
                have hw : swappedStores [.Subscript (.Name x px) i pt] e X.env = pure none := by
                  cases e <;> rfl
                have hasg : ∀ v, assign (.Subscript (.Name x px) i pt) X.env v = (do
                    let ov ← holding [v] (eval (.Name x px) X.env)
                    let iv ← holding [v, ov] (eval i X.env)
                    standAt pt
                    holding [v, ov, iv] (setItem ov iv v)
                    release [v, ov, iv] []) := by
                  cases i with
                  | Slice lo hi st p9 =>
                    cases n with
                    | zero => cases h4
                    | succ n => cases h4
                  | _ => intro _; rfl
                refine ⟨_, ps_asg ((ih n).e e hC) (pg_sub hno ((ih n).e i hC) set_list hasg) hs0 hw rfl, P, r1, s, a0, d, s1, h2, gf, fun v H1 a1 g1 e1 l1 rv => ?_⟩
                obtain ⟨p, xs, p1, p2, p3, p4⟩ := g1.own j l (get_own h3)
                refine ⟨V.ref p, p1, P, r1, s1, a1, _, s2, h4, g1, fun u H2 a2 g2 e2' l2 ru => ?_⟩
                cases ru
                obtain ⟨p', xs', q1, q2, q3, q4⟩ := g2.own j l (get_own h3)
                rw [p1] at q1
                cases q1
                have rv2 := RV.ext rv e2' l2
                refine ⟨p, xs', kk, qq, rfl, rfl, q3, by rw [q4.length]; exact h5, ?_⟩
                have g3 := g2.mut (l' := l.set qq d) (get_own h3) p1 (q4.set qq rv2)
                have ee := e1.trans e2' l2
                have hO : OwS r1 σ p := ⟨j, l, get_own h3, p1⟩
                refine q σ _ a2 g3 (sf.trans ⟨⟨fun a o ha hd hn => ?_, fun a ha => ?_, fun a kvs ha hne => ?_⟩, fun a z => .inl (by rw [ow_mut (get_own h3)] at z; exact z)⟩ (l1.trans l2)) (l1.trans l2)
                · have na : a ≠ p := fun z => hn (by rw [z]; exact hO)
                  rw [upd_ne na]
                  exact ee.keep a o ha hd
                · by_cases z : a = p
                  · rw [z, upd_same]; exact fun w => nomatch w
                  · rw [upd_ne z]; exact ee.alc a ha
                · have h9 := ee.dk a kvs ha hne
                  have na : a ≠ p := fun z => by rw [z, q3] at h9; cases h9
                  rw [upd_ne na]
                  exact h9
              · cases hf
            · cases hf
          · rename_i h3
            split at hf
            · rename_i kk jj p2 
              obtain ⟨s2, hk, eo⟩ := Option.map_eq_some_iff.mp hf
              subst eo
              refine ⟨_, ps_dput (hu_of hC.rm) hno pe_str ((ih n).e e hC) hs0, P, r1, s, a0, d, s1, h2, gf, fun v H1 a1 g1 e1 l1 rv => ?_⟩
              obtain ⟨w, w1, w2⟩ := g1.val j .hnd (get_v h3)
              cases w2 with
              | hnd w3 =>
                rename_i ad
                refine ⟨_, w1, ?_⟩
                cases s1 with
                | none => cases hk
                | some t =>
                  cases d with
                  | int z =>
                    cases rv
                    obtain ⟨ad', bb, s1', s2', s3'⟩ := g1.st
                    rw [w3] at s1'
                    cases s1'
                    obtain ⟨m1, m2⟩ := minus_some.mp s2'
                    -- the written key
                    have fin : ∀ (t' : LS), CH.putK (some t) kk (.int z) = some (some t') → L2.putK (kvs4 bb t) (Sum.inr kk) (V.int z) = kvs4 bb t' → t'.numbers = t.numbers → ∃ H4, DPut H1 ad (V.str kk) (V.int z) H4 ∧ Dn.nx σ H4 := fun t' hp1 hp2 hp3 => by
                      have es2 : s2 = some t' := Option.some.inj (hk.symm.trans hp1)
                      refine ⟨upd H1 ad (.dK (kvs4 bb t')), ?_, ?_⟩
                      · have h := DPut.k (k := Sum.inr kk) (v := V.int z) m2 (by show 4 < sizeLine; rw [sizeLine_eq]; decide)
                        rw [hp2] at h
                        exact h
                      · subst es2
                        have ext : Ext (some ad) H1 (upd H1 ad (.dK (kvs4 bb t'))) := by
                          refine ⟨fun a o ha hd => ?_, fun a ha => ?_, fun a kvs ha hne => ?_⟩
                          · have na : a ≠ ad := fun y => by
                              rw [y, m2] at ha
                              cases ha
                              exact hd trivial
                            rw [upd_ne na]; exact ha
                          · by_cases y : a = ad
                            · rw [y, upd_same]; exact fun w => nomatch w
                            · rw [upd_ne y]; exact ha
                          · have na : a ≠ ad := fun y => hne (by rw [y])
                            rw [upd_ne na]; exact ha
                        have ea : a1 = some ad := w3
                        rw [ea] at g1 e1 l1
                        have st : StOk X.K (some ad) (some t') (minus (upd H1 ad (.dK (kvs4 bb t'))) (Ow P r1 σ)) := by
                          refine ⟨ad, bb, rfl, minus_some.mpr ⟨m1, upd_same⟩, ?_⟩
                          rw [hp3]
                          rcases s3' with ⟨o, hz⟩ | hz
                          · obtain ⟨z1, z2⟩ := minus_some.mp hz
                            refine .inl ⟨o, minus_some.mpr ⟨z1, ?_⟩⟩
                            rw [upd_ne]
                            · exact z2
                            · intro y
                              rw [y, m2] at z2
                              cases z2
                          · exact .inr hz
                        have g2 := g1.ext ext (Le.refl _) st
                        exact q σ _ (some ad) g2 (sf.trans (.of (e1.trans ext (Le.refl _)) fun a z => .inl z) l1) l1
                    have go : ∃ H4, DPut H1 ad (V.str kk) (V.int z) H4 ∧ Dn.nx σ H4 := by
                      have hk2 := hk
                      unfold CH.putK at hk2
                      dsimp only at hk2
                      split at hk2
                      · rename_i ek; subst ek
                        exact fin { t with at_ := z } rfl rfl rfl
                      · split at hk2
                        · rename_i ek; subst ek
                          exact fin { t with rest := z } rfl rfl rfl
                        · split at hk2
                          · rename_i ek; subst ek
                            exact fin { t with seed := z } rfl rfl rfl
                          · cases hk2
                    obtain ⟨H4, d1, d2⟩ := go
                    exact ⟨ad, H4, rfl, d1, d2⟩
                  | _ => cases hk
            · cases hf
          · cases hf
    · refine no_S fun r s => ?_
      cases o with
      | Name x px => exact absurd ⟨x, px, rfl⟩ ho
      | _ => rfl
  | t1 :: t2 :: ts =>
    refine no_S fun r s => ?_
    unfold ex
    split
    all_goals first | rfl | (rename_i h; simp at h; done)
  | [.BoolOp _ _ _] => exact no_S fun _ _ => rfl
  | [.NamedExpr _ _ _] => exact no_S fun _ _ => rfl
  | [.BinOp _ _ _ _] => exact no_S fun _ _ => rfl
  | [.UnaryOp _ _ _] => exact no_S fun _ _ => rfl
  | [.Lambda _ _ _ _] => exact no_S fun _ _ => rfl
  | [.IfExp _ _ _ _] => exact no_S fun _ _ => rfl
  | [.Dict _ _ _] => exact no_S fun _ _ => rfl
  | [.Set _ _ _] => exact no_S fun _ _ => rfl
  | [.ListComp _ _ _ _] => exact no_S fun _ _ => rfl
  | [.SetComp _ _ _ _] => exact no_S fun _ _ => rfl
  | [.DictComp _ _ _ _ _] => exact no_S fun _ _ => rfl
  | [.GeneratorExp _ _ _ _] => exact no_S fun _ _ => rfl
  | [.Await _ _] => exact no_S fun _ _ => rfl
  | [.Yield _ _] => exact no_S fun _ _ => rfl
  | [.YieldFrom _ _] => exact no_S fun _ _ => rfl
  | [.Compare _ _ _ _] => exact no_S fun _ _ => rfl
  | [.Call _ _ _ _] => exact no_S fun _ _ => rfl
  | [.FormattedValue _ _ _ _] => exact no_S fun _ _ => rfl
  | [.JoinedStr _ _] => exact no_S fun _ _ => rfl
  | [.Constant _ _ _] => exact no_S fun _ _ => rfl
  | [.Attribute _ _ _] => exact no_S fun _ _ => rfl
  | [.Starred _ _] => exact no_S fun _ _ => rfl
  | [.List _ _] => exact no_S fun _ _ => rfl
  | [.Slice _ _ _ _] => exact no_S fun _ _ => rfl
end
end CH

set_option maxRecDepth 100000
set_option maxHeartbeats 8000000
/-! All statements; a def of the text. -/
namespace CH
open PySem PySem.Spec PyProof.Rows L2
section
variable {cl : Addr} {k : Nat} {X : Cx} {c : C} {e : Expr} {n : Nat}
theorem slotN {x : Str} {p : Pos} : starEach [Expr.Name x p] = fun env => [(false, eval (.Name x p) env)] := rfl
theorem expr_any (ih : ∀ n, IH cl n) (hC : Ctx cl k X c) (e : Expr) (pos : Pos) : PS X (.Expr e pos) (tSt X.K cl (ex (n + 1) c (.Expr e pos))) := by
  have plain : (ex (n + 1) c (.Expr e pos) = fun r s => if callE e then match ev n c e (freeze r (gr n c e)) s with
          | some (_, s1) => some (.nx (freeze r (gr n c e)) s1)
          | none => none
        else none) → PS X (.Expr e pos) (tSt X.K cl (ex (n + 1) c (.Expr e pos))) := fun e0 => by
    rw [e0]
    refine mkSt fun hkind P r s a0 o σ H Dn hf g q => ?_
    obtain ⟨gf, hfr⟩ := g.fr (gr n c e)
    have sf := Stp.fr (r := r) (σ := σ) hfr a0 H
    generalize hr1 : freeze r (gr n c e) = r1 at hf gf hfr sf
    by_cases hce : callE e = true
    · rw [if_pos hce] at hf
      cases h1 : ev n c e r1 s with
      | none => rw [h1] at hf; cases hf
      | some p1 =>
        obtain ⟨d, s1⟩ := p1
        rw [h1] at hf
        cases hf
        have hs : swapsWith e none pos.line X.env = pure false := by
          cases e with
          | Call f as kws p => rfl
          | _ => cases hce
        exact ⟨_, ps_expr ((ih n).e e hC) hs, P, r1, s, a0, d, s1, h1, gf, fun v H1 a1 g1 e1 l1 _ => q σ H1 a1 g1 (sf.trans (.of e1 fun a z => .inl z) l1) l1⟩
    · rw [if_neg hce] at hf; cases hf
  by_cases hpat : ∃ x px m ap a cp, e = .Call (.Attribute (.Name x px) m ap) [a] [] cp
  · obtain ⟨x, px, m, ap, a, cp, rfl⟩ := hpat
    refine mkSt fun hkind P r s a0 o σ H Dn hf g q => ?_
    replace hf : (if m = "append" ∧ (ap.endLine == cp.line) = true then match slotOf c x with
          | some i => match ev n c a (freeze r (gr n c a)) s with
            | some (d, s1) => match getS (freeze r (gr n c a)) i with
              | .own l => if l.length < line then some (.nx ((freeze r (gr n c a)).set i (.own (l ++ [d]))) s1) else none
              | _ => none
            | none => none
          | none => none
        else none) = some o := hf
    obtain ⟨gf, hfr⟩ := g.fr (gr n c a)
    have sf := Stp.fr (r := r) (σ := σ) hfr a0 H
    generalize hr1 : freeze r (gr n c a) = r1 at hf gf hfr sf
    split at hf
    · rename_i hm
      obtain ⟨hm, hln⟩ := hm
      subst hm
      split at hf
      · rename_i i h1
        split at hf
        · rename_i d s1 h2
          split at hf
          · rename_i l h3
            obtain ⟨hl, eo⟩ := ite_some hf
            subst eo
            obtain ⟨n1, n2, n3, n4⟩ := slot_at hC h1
            have hst := (ih n).star c a r1 s _ h2
            obtain ⟨p, xs, p1, p2, p3, p4⟩ := gf.own i l (get_own h3)
            have hfew : ((backTo cp (starEach [a] X.env)).all (fun x => !x.1) && (backToKw cp (keywordEach [] X.env)).all (fun x => x.1.isSome) && decide (([a] : List Expr).length + ([] : List Keyword).length + (if ([] : List Keyword).isEmpty then 0 else 1) < 30)) = true := by
              rw [hst [] X.env]; rfl
            refine ⟨_, ps_expr (pe_bm PySem.F.plainAttrs_list PySem.F.slot_list_append PySem.F.type_list_append mt_append (pe_var n1 n2 n3 n4) (pa_cons ((ih n).e a hC) pa_nil (hst _ _)) rfl hfew hln (hst _ _) rfl), V.ref p, p1, .inl ⟨rfl, xs, SqL.of p3⟩, P, r1, s, a0, d, s1, h2, gf, fun v H1 a1 g1 e1 l1 rv => ?_⟩
            obtain ⟨p', xs', q1, q2, q3, q4⟩ := g1.own i l (get_own h3)
            rw [p1] at q1
            cases q1
            have hline : line = sizeLine := line_eq
            refine ⟨p, xs', v, rfl, rfl, q3, by rw [q4.length]; omega, ?_⟩
            have g3 := g1.mut (l' := l ++ [d]) (get_own h3) p1 (q4.append (.cons rv .nil))
            have hO : OwS r1 σ p := ⟨i, l, get_own h3, p1⟩
            refine q σ _ a1 g3 (sf.trans ⟨⟨fun a o ha hd hn => ?_, fun a ha => ?_, fun a kvs ha hne => ?_⟩, fun a z => .inl (by rw [ow_mut (get_own h3)] at z; exact z)⟩ l1) l1
            · have na : a ≠ p := fun z => hn (by rw [z]; exact hO)
              rw [upd_ne na]
              exact e1.keep a o ha hd
            · by_cases z : a = p
              · rw [z, upd_same]; exact fun w => nomatch w
              · rw [upd_ne z]; exact e1.alc a ha
            · have h9 := e1.dk a kvs ha hne
              have na : a ≠ p := fun z => by rw [z, q3] at h9; cases h9
              rw [upd_ne na]
              exact h9
          · cases hf
        · cases hf
      · cases hf
    · cases hf
  · refine plain ?_
    funext r s
    unfold ex
    dsimp only
    split
    · rename_i x px m ap a cp
      exact absurd ⟨x, px, m, ap, a, cp, rfl⟩ hpat
    · rfl
theorem ret_any (ih : ∀ n, IH cl n) (hC : Ctx cl k X c) (e : Option Expr) (pos : Pos) : PS X (.Return e pos) (tSt X.K cl (ex (n + 1) c (.Return e pos))) := by
  cases e with
  | none =>
    refine mkSt fun hkind P r s a0 o σ H Dn hf g q => ?_
    cases hf
    exact ⟨_, ps_retN, q .non H a0 .non (g.st.same (same_minus (Same.refl H) fun a _ n _ z => n (.inl z))) (Stp.refl _ _ _ _).rst (Le.refl _)⟩
  | some e =>
    refine mkSt fun hkind P r s a0 o σ H Dn hf g q => ?_
    obtain ⟨p1, h1, eo⟩ := Option.map_eq_some_iff.mp hf
    obtain ⟨d, s1⟩ := p1
    subst eo
    obtain ⟨gf, hfr⟩ := g.fr (List.range r.length)
    have sf := Stp.fr (r := r) (σ := σ) hfr a0 H
    refine ⟨_, ps_ret ((ih n).e e hC), P, freezeAll r, s, a0, d, s1, h1, gf, fun v H1 a1 g1 e1 l1 rv => ?_⟩
    have up : Same (minus H1 (Ow P (freezeAll r) σ)) (minus H1 P) := same_minus (Same.refl H1) fun a _ n _ z => n (.inl z)
    exact q v H1 a1 (R.mono (fun a o h _ => up a o h) (Le.refl _) rv) (g1.st.same up) (sf.trans (.of (r1 := freezeAll r) (σ1 := σ) e1 fun a z => .inl z) l1).rst l1
theorem if_any (ih : ∀ n, IH cl n) (hC : Ctx cl k X c) (hs : ∀ st, PS X st (tSt X.K cl (ex n c st))) (t : Expr) (a b : List Stmt) (pos : Pos) : PS X (.If t a b pos) (tSt X.K cl (ex (n + 1) c (.If t a b pos))) := by
  refine mkSt fun hkind P r s a0 o σ H Dn hf g q => ?_
  have hf : (match evT n c t (freeze r (gr n c t)) s with
      | some (true, s1) => exs (ex n c) a (freeze r (gr n c t)) s1
      | some (false, s1) => exs (ex n c) b (freeze r (gr n c t)) s1
      | none => none) = some o := hf
  obtain ⟨gf, hfr⟩ := g.fr (gr n c t)
  have sf := Stp.fr (r := r) (σ := σ) hfr a0 H
  generalize hr1 : freeze r (gr n c t) = r1 at hf gf hfr sf
  cases h1 : evT n c t r1 s with
  | none => rw [h1] at hf; cases hf
  | some p1 =>
    obtain ⟨bb, s1⟩ := p1
    rw [h1] at hf
    refine ⟨_, ps_if ((ih n).t t hC) (pss_D hs a) (pss_D hs b), P, r1, s, a0, bb, s1, h1, gf, fun H1 a1 g1 e1 l1 => ?_⟩
    have q' := q.after (sf.trans (.of (r1 := r1) (σ1 := σ) e1 fun a z => .inl z) l1) l1
    cases bb with
    | true => exact iteT ⟨P, r1, s1, a1, o, hf, g1, q'⟩
    | false => exact iteF ⟨P, r1, s1, a1, o, hf, g1, q'⟩
theorem while_any (ih : ∀ n, IH cl n) (hC : Ctx cl k X c) (hs : ∀ st, PS X st (tSt X.K cl (ex n c st))) (t : Expr) (body els : List Stmt) (pos : Pos) : PS X (.While t body els pos) (tSt X.K cl (ex (n + 1) c (.While t body els pos))) := by
  cases els with
  | cons _ _ => exact no_S fun _ _ => rfl
  | nil =>
    refine mkSt fun hkind P r s a0 o σ H Dn hf g q => ?_
    have hf : whE (evT n c t) (exs (ex n c) body) whF r s = some o := hf
    have hpass : PassesOwn (model X.prog X.w) X.A X.env X.xe := by rw [hC.xe]; exact PassesOwn.never
    refine ⟨_, ps_while hpass ((ih n).t t hC) (pss_D hs body), fun m σ' H' => ∃ r' s' a', whE (evT n c t) (exs (ex n c) body) m r' s' = some o ∧ Good X.K cl P r' s' a' σ' H' ∧ Cont X.K cl P r' a' σ' H' Dn o, ⟨whF, r, s, a0, hf, g, q⟩, ?_⟩
    rintro m σ1 H1 ⟨r1, s1, a1, hw, g1, q1⟩
    cases m with
    | zero => cases hw
    | succ m =>
      have hw : (match evT n c t r1 s1 with
        | none => none
        | some (false, s1) => some (.nx r1 s1)
        | some (true, s1) => match exs (ex n c) body r1 s1 with
          | none => none
          | some (.rt d s2) => some (.rt d s2)
          | some (.nx r2 s2) => whE (evT n c t) (exs (ex n c) body) m r2 s2) = some o := hw
      cases h1 : evT n c t r1 s1 with
      | none => rw [h1] at hw; cases hw
      | some p1 =>
        obtain ⟨bb, s2⟩ := p1
        rw [h1] at hw
        refine ⟨P, r1, s1, a1, bb, s2, h1, g1, fun H2 a2 g2 e2 l2 => ?_⟩
        have q2 := q1.after (.of (r1 := r1) (σ1 := σ1) e2 fun a z => .inl z) l2
        cases bb with
        | false =>
          cases hw
          exact iteF (q2 σ1 H2 a2 g2 (Stp.refl _ _ _ _) (Le.refl _))
        | true =>
          dsimp only at hw
          cases h2 : exs (ex n c) body r1 s2 with
          | none => rw [h2] at hw; cases hw
          | some o1 =>
            rw [h2] at hw
            refine iteT ⟨fun σ' H' => ∃ m', m' < m + 1 ∧ ∃ r' s' a', whE (evT n c t) (exs (ex n c) body) m' r' s' = some o ∧ Good X.K cl P r' s' a' σ' H' ∧ Cont X.K cl P r' a' σ' H' Dn o, fun σ' H' z => z, P, r1, s2, a2, o1, h2, g2, ?_⟩
            cases o1 with
            | rt d s3 =>
              cases hw
              exact q2
            | nx r3 s3 => exact fun σ3 H3 a3 g3 x3 l3 => ⟨m, Nat.lt_succ_self m, r3, s3, a3, hw, g3, q2.after x3 l3⟩
theorem for_any (ih : ∀ n, IH cl n) (hC : Ctx cl k X c) (hs : ∀ st, PS X st (tSt X.K cl (ex n c st))) (tg it : Expr) (body els : List Stmt) (pos : Pos) : PS X (.For tg it body els pos) (tSt X.K cl (ex (n + 1) c (.For tg it body els pos))) := by
  cases els with
  | cons _ _ => exact no_S fun _ _ => rfl
  | nil =>
    refine mkSt fun hkind P r s a0 o σ H Dn hf g q => ?_
    have hf : (match srcE (ev n c) c tg it (freeze r (gr n c it)) s with
      | some (xs, s1) => forE (bindT c tg) (exs (ex n c) body) xs (freeze r (gr n c it)) s1
      | none => none) = some o := hf
    have hpass : PassesOwn (model X.prog X.w) X.A X.env X.xe := by rw [hC.xe]; exact PassesOwn.never
    obtain ⟨gf, hfr⟩ := g.fr (gr n c it)
    have sf := Stp.fr (r := r) (σ := σ) hfr a0 H
    generalize hr1 : freeze r (gr n c it) = r1 at hf gf hfr sf
    cases h1 : srcE (ev n c) c tg it r1 s with
    | none => rw [h1] at hf; cases hf
    | some p1 =>
      obtain ⟨xs, s1⟩ := p1
      rw [h1] at hf
      dsimp only at hf
      refine ⟨_, ps_for hpass hC.calm (src_D hC kok_v vext_v (fun e => (ih n).e e hC) ((ih n).star c)) (pg_D hC tg) (pss_D hs body) (folded_of (src_set ((ih n).set c) h1) _), P, r1, s, a0, xs, s1, h1, gf, fun J H1 a1 g1 e1 l1 yl => ?_⟩
      have q1 := q.after (sf.trans (.of (r1 := r1) (σ1 := σ) e1 fun a z => .inl z) l1) l1
      refine ⟨fun i m σ' H' => m = xs.length - i ∧ i ≤ xs.length ∧ ∃ r' s' a', forE (bindT c tg) (exs (ex n c) body) (xs.drop i) r' s' = some o ∧ Good X.K cl P r' s' a' σ' H' ∧ Cont X.K cl P r' a' σ' H' Dn o ∧ Stp a' r1 σ H1 r' σ' H' ∧ Le a1 a', ⟨xs.length, rfl, Nat.zero_le _, r1, s1, a1, hf, g1, q1, Stp.refl _ _ _ _, Le.refl _⟩, ?_⟩
      rintro i m σ2 H2 ⟨rfl, hi, r2, s2, a2, hw, g2, q2, x2, l2⟩
      have kp : KPv H1 (Ow P r1 σ) H2 := fun a oo ha hd => by
        obtain ⟨z1, z2⟩ := minus_some.mp ha
        exact x2.rst.keep a oo z2 hd fun z => z1 (.inr z)
      by_cases hlt : i < xs.length
      · have hx : xs[i]? = some xs[i] := List.getElem?_eq_getElem hlt
        rw [List.drop_eq_getElem_cons hlt] at hw
        have hw : (match bindT c tg xs[i] r2 with
          | none => none
          | some r1 => match exs (ex n c) body r1 s2 with
            | none => none
            | some (.rt d s1) => some (.rt d s1)
            | some (.nx r2 s1) => forE (bindT c tg) (exs (ex n c) body) (xs.drop (i + 1)) r2 s1) = some o := hw
        cases h2 : bindT c tg xs[i] r2 with
        | none => rw [h2] at hw; cases hw
        | some r3 =>
          rw [h2] at hw
          dsimp only at hw
          refine .inr ⟨yl.go i H2 hlt kp, fun σ' H' => ∃ m', m' < xs.length - i ∧ (m' = xs.length - (i + 1) ∧ i + 1 ≤ xs.length ∧ ∃ r' s' a', forE (bindT c tg) (exs (ex n c) body) (xs.drop (i + 1)) r' s' = some o ∧ Good X.K cl P r' s' a' σ' H' ∧ Cont X.K cl P r' a' σ' H' Dn o ∧ Stp a' r1 σ H1 r' σ' H' ∧ Le a1 a'), fun σ' H' z => z, fun x H' hy => ?_⟩
          obtain ⟨same, hR⟩ := yl.yld i H2 x H' _ hx kp hy
          have gS := g2.same same
          have sS : Stp a2 r2 σ2 H2 r2 σ2 H' := .of (Ext.same same) fun a z => .inl z
          have rx : R X.K cl a2 (minus H' (Ow P r2 σ2)) x xs[i] := by
            refine (hR (minus H' (Ow P r2 σ2)) (fun a oo ha hd => ?_) fun a oo ha hb => ?_).mono (Keep.refl _) l2
            · have h5 := kp a oo ha hd
              obtain ⟨z1, z2⟩ := minus_some.mp ha
              refine minus_some.mpr ⟨fun z => ?_, same _ _ h5⟩
              rcases z with z | z
              · exact z1 (.inl z)
              · rcases x2.own a z with z | z
                · exact z1 (.inr z)
                · rw [z2] at z; cases z
            · exact minus_some.mpr ⟨fun z => g2.owAlc a z ha, hb⟩
          refine ⟨P, r2, s2, a2, _, r3, h2, gS, rx, fun σ3 is _ g3 sub _ _ => ?_⟩
          have x3 : Stp a2 r2 σ2 H2 r3 σ3 H' := ⟨sS.rst, fun a z => .inl (sub a z)⟩
          have q3 := q2.after x3 (Le.refl _)
          cases h3 : exs (ex n c) body r3 s2 with
          | none => rw [h3] at hw; cases hw
          | some o1 =>
            rw [h3] at hw
            refine ⟨P, r3, s2, a2, o1, h3, g3, ?_⟩
            cases o1 with
            | rt d s4 =>
              cases hw
              exact q3
            | nx r4 s4 => exact fun σ4 H4 a4 g4 x4 l4 => ⟨_, by omega, rfl, hlt, r4, s4, a4, hw, g4, q3.after x4 l4, (x2.trans x3 (Le.refl _)).trans x4 l4, l2.trans l4⟩
      · have ei : i = xs.length := by omega
        subst ei
        rw [List.drop_length] at hw
        cases hw
        exact .inl ⟨yl.stop _ H2 (Nat.le_refl _) kp, q2 σ2 H2 a2 g2 (Stp.refl _ _ _ _) (Le.refl _)⟩
theorem stm_all (hC : Ctx cl k X c) : ∀ (n : Nat) (st : Stmt), PS X st (tSt X.K cl (ex n c st))
  | 0, st => no_S fun _ _ => rfl
  | n + 1, st => by
    have hs := stm_all hC n
    have ih := ih_all cl
    cases st with
    | Pass p =>
      refine mkSt fun hkind P r s a0 o σ H Dn hf g q => ?_
      cases hf
      exact ⟨_, ps_pass, q σ H a0 g (Stp.refl _ _ _ _) (Le.refl _)⟩
    | Return e p => exact ret_any ih hC e p
    | Expr e p => exact expr_any ih hC e p
    | Assign ts e p => exact asg_any ih hC ts e p
    | If t a b p => exact if_any ih hC hs t a b p
    | While t a b p => exact while_any ih hC hs t a b p
    | For t i a b p => exact for_any ih hC hs t i a b p
    | _ => exact no_S fun _ _ => rfl
end

/-! ### a def of the text -/
theorem startR_get {N : List Str} {ds : List D} {i : Nat} {x : Slot} (h : (startR N ds)[i]? = some x) (hx : x ≠ .un) : ∃ d, ds[i]? = some d ∧ x = .v d := by
  unfold startR at h
  by_cases hi : i < ds.length
  · rw [List.getElem?_append_left (by simpa using hi), List.getElem?_map] at h
    obtain ⟨d, h1, h2⟩ := Option.map_eq_some_iff.mp h
    exact ⟨d, h1, h2.symm⟩
  · rw [List.getElem?_append_right (by simpa using hi), List.getElem?_replicate] at h
    split at h
    · cases h; exact absurd rfl hx
    · cases h
/-- what of the module the defs need -/
structure Gd (P : Program) (w : World) (K : PySem.W.Frag) (mg : Str → Option Value) (base : Heap) (cl : Addr) (k : Nat) (c : C) : Prop where
  seer : base.NoSeer
  tree : P.given.tree = none
  deep : 33 ≤ k
  ks : ∀ x i, c.ks x = some i → ∃ u, mg x = some u ∧ RelV (.int i) u
  ob : c.ob = true → ObOk K cl
  cls : ∀ x, inB c.cls x = true → ∃ j, j + 1 ≤ k ∧ C8.Mak P w K mg base j x cl (spI cl) [] ∧ (x == ("__debug__" : Str)) = false
  mts : ∀ m, inB c.mts m = true → ∃ np, C8.Met P w K mg base k cl m (spD K cl np (c.Mt m)) [] ∧ (m ≠ ("dim" : Str) ∧ m ≠ ("rows" : Str) ∧ m ≠ ("corners" : Str) ∧ m ≠ ("rays" : Str)) ∧ ∀ ds s y, c.Mt m ds s = some y → ds.length = np
  bn : ∀ x, inB c.bn x = true → mg x = none
  tab : ∀ x, inB c.fns x = true → ∃ f fd ps, mg x = some (.ref f) ∧ PySem.W.keepIn K (.ref f) = true ∧ Binds K fd ps [] ∧ FnOk P w K mg base CX0 k f fd ps (spD K cl ps.length (c.F x)) ∧ (x == ("__debug__" : Str)) = false ∧ ∀ ds s y, c.F x ds s = some y → ds.length = ps.length
theorem def_ok {P : Program} {w : World} {K : PySem.W.Frag} {mg : Str → Option Value} {base : Heap} {x qual : Str} {st : Stmt} {f : Addr} {fd : FuncData} {ps : List Str} {k : Nat} {cl : Addr} {c : C} (F : Fun K x qual st f fd) (S0 : FnScope c.N ps (defScope st)) (hsc : c.sc = defScope st) (hfn : c.fn = fun _ => true)
    (G : Gd P w K mg base cl k c) :
    FnOk P w K mg base CX0 (k + 1) f fd ps (spD K cl ps.length (evDef c ps.length (defBody st))) := by
  refine F.ok S0 (fun vs H Q E h => h.1) fun cdv A outer s H vs Q E hr h => ?_
  obtain ⟨hl, P0, ds, s0, a0, d, s', hf, hrs, hst, halc, q⟩ := h
  have hC : Ctx cl k (cxOf CX0 P w K mg base c.N qual (defScope st) f cdv A outer s H E).nox c := {
    pl := ⟨G.seer, G.tree, ⟨_, _, rfl, S0.gen, S0.co, rfl, rfl⟩, by
      have h1 := hr.dp
      have h2 := G.deep
      show (A.deeper (envOfC qual (defScope st) s.heap.objs.size f cdv)).depth + 100 < recursionLimit
      omega⟩
    ks := G.ks
    ob := G.ob
    cls := G.cls
    mts := G.mts
    N := rfl
    nd := S0.nd
    calm := rfl
    xe := rfl
    sc := hsc.symm
    fn := hfn.symm
    rm := hr
    bn := G.bn
    tab := G.tab }
  refine ⟨_, pss_D (stm_all hC 60) (defBody st), ?_⟩
  unfold evDef at hf
  split at hf
  · rename_i hds
    have hpl : ps.length ≤ c.N.length := by
      have := congrArg List.length S0.pre
      rw [List.length_take] at this
      omega
    have el : (startR c.N ds).length = (L2.start c.N vs).length := by
      unfold startR L2.start
      rw [List.length_append, List.length_append, List.length_map, List.length_map, List.length_replicate, List.length_replicate, hrs.length]
    have noOwn : ∀ a, ¬ OwS (startR c.N ds) (L2.start c.N vs) a := fun a ⟨i, l, h1, _⟩ => by
      obtain ⟨d', _, h2⟩ := startR_get h1 (fun z => nomatch z)
      cases h2
    have eO : Ow P0 (startR c.N ds) (L2.start c.N vs) = P0 := by
      funext a
      exact propext ⟨fun z => z.elim id fun y => absurd y (noOwn a), .inl⟩
    have g : Good K cl P0 (startR c.N ds) s0 a0 (L2.start c.N vs) H := by
      refine ⟨el, fun i d' h1 => ?_, fun i l h1 => ?_, fun i j a l l' h1 => ?_, by rw [eO]; exact hst, halc⟩
      · obtain ⟨d2, h2, h3⟩ := startR_get h1 (fun z => nomatch z)
        cases h3
        obtain ⟨v, h4, h5⟩ := hrs.get h2
        refine ⟨v, ?_, by rw [eO]; exact h5⟩
        unfold L2.start
        have hi : i < vs.length := (List.getElem?_eq_some_iff.mp h4).1
        rw [List.getElem?_append_left (by simpa using hi), List.getElem?_map, h4]
        rfl
      · obtain ⟨d2, _, h3⟩ := startR_get h1 (fun z => nomatch z)
        cases h3
      · obtain ⟨d2, _, h3⟩ := startR_get h1 (fun z => nomatch z)
        cases h3
    cases h1 : exs (ex 60 c) (defBody st) (startR c.N ds) s0 with
    | none => rw [h1] at hf; cases hf
    | some o =>
      rw [h1] at hf
      refine ⟨P0, _, s0, a0, o, h1, g, ?_⟩
      cases o with
      | rt d1 s1 =>
        cases hf
        exact fun v H' a1 rv st rs l => q v H' a1 ⟨fun a o h d => rs.keep a o h d (noOwn a), rs.alc, rs.dk⟩ l rv st
      | nx r1 s1 =>
        cases hf
        exact fun σ' H' a1 g1 x l => q .non H' a1 ⟨fun a o h d => x.rst.keep a o h d (noOwn a), x.rst.alc, x.rst.dk⟩ l .non (g1.st.same (same_minus (Same.refl H') fun a _ n _ z => n (.inl z)))
  · cases hf
/-! ### Body's __init__ -/
def initS (x : Str) : Stmt → Prop
  | .Assign [.Attribute (.Name s _) f _] (.Name v _) _ => s = "self" ∧ f = x ∧ v = x
  | _ => False
theorem initS_of {x : Str} {st : Stmt} (h : initS x st) : ∃ p1 p2 p3 p4, st = .Assign [.Attribute (.Name "self" p1) x p2] (.Name x p3) p4 := by
  unfold initS at h
  split at h
  · obtain ⟨rfl, rfl, rfl⟩ := h
    exact ⟨_, _, _, _, rfl⟩
  · exact h.elim
theorem putF4 (v1 v2 v3 v4 : V) : putF "rays" v4 (putF "corners" v3 (putF "rows" v2 (putF "dim" v1 []))) = ([("dim", v1), ("rows", v2), ("corners", v3), ("rays", v4)] : List (Str × V)) := by
  have n1 : ¬ (("dim" : Str) = "rows") := by decide
  have n2 : ¬ (("dim" : Str) = "corners") := by decide
  have n3 : ¬ (("dim" : Str) = "rays") := by decide
  have n4 : ¬ (("rows" : Str) = "corners") := by decide
  have n5 : ¬ (("rows" : Str) = "rays") := by decide
  have n6 : ¬ (("corners" : Str) = "rays") := by decide
  simp only [putF, if_neg n1, if_neg n2, if_neg n3, if_neg n4, if_neg n5, if_neg n6]
theorem updupd {H : Hp} {p : Addr} {a b : HO} : upd (upd H p a) p b = upd H p b := by
  funext x
  by_cases h : x = p
  · rw [h, upd_same, upd_same]
  · rw [upd_ne h, upd_ne h, upd_ne h]
theorem init_ok {P : Program} {w : World} {K : PySem.W.Frag} {mg : Str → Option Value} {base : Heap} {qual : Str} {st : Stmt} {f : Addr} {fd : FuncData} {cl : Addr} (O : ObOk K cl) (F : Fun K "__init__" qual st f fd) (S0 : FnScope ["self", "dim", "rows", "corners", "rays"] ["self", "dim", "rows", "corners", "rays"] (defScope st))
    (hb : ∃ s1 s2 s3 s4, defBody st = [s1, s2, s3, s4] ∧ initS "dim" s1 ∧ initS "rows" s2 ∧ initS "corners" s3 ∧ initS "rays" s4) :
    FnOk P w K mg base CX0 1 f fd ["self", "dim", "rows", "corners", "rays"] (spI cl) := by
  refine F.ok S0 (fun vs H Q E h => ?_) (fun cdv A outer s H vs Q E hr h => ?_)
  · obtain ⟨p, dx, v1, v2, v3, v4, rfl, _⟩ := h
    rfl
  · obtain ⟨p, dx, v1, v2, v3, v4, rfl, hp, q⟩ := h
    obtain ⟨s1, s2, s3, s4, eb, i1, i2, i3, i4⟩ := hb
    obtain ⟨_, _, _, _, rfl⟩ := initS_of i1
    obtain ⟨_, _, _, _, rfl⟩ := initS_of i2
    obtain ⟨_, _, _, _, rfl⟩ := initS_of i3
    obtain ⟨_, _, _, _, rfl⟩ := initS_of i4
    have vis : ∀ x ∈ (["self", "dim", "rows", "corners", "rays"] : List Str), Vis (defScope st) x := fun x hx => (S0.par x hx).elim (fun z => .inl z) fun z => .inr (.inl z)
    rw [eb]
    have v0 : ∀ pos, PE (cxOf CX0 P w K mg base ["self", "dim", "rows", "corners", "rays"] qual (defScope st) f cdv A outer s H E).nox (.Name "self" pos) (tVar 0) := fun pos => pe_var rfl (vis _ (by decide)) (by decide) (by decide)
    refine ⟨_, pss_cons (ps_fld (v0 _) (pe_var (i := 1) rfl (vis _ (by decide)) (by decide) (by decide)) rfl) (pss_cons (ps_fld (v0 _) (pe_var (i := 2) rfl (vis _ (by decide)) (by decide) (by decide)) rfl)
      (pss_cons (ps_fld (v0 _) (pe_var (i := 3) rfl (vis _ (by decide)) (by decide) (by decide)) rfl) (pss_one (ps_fld (v0 _) (pe_var (i := 4) rfl (vis _ (by decide)) (by decide) (by decide)) rfl)))), ?_⟩
    refine ⟨_, rfl, _, rfl, p, cl, dx, _, rfl, hp, O.c, O.a, (by show 0 < 1000; decide), _, rfl, _, rfl, p, cl, dx, _, rfl, upd_same, O.c, O.b, (by show 1 < 1000; decide), _, rfl, _, rfl, p, cl, dx, _, rfl, upd_same, O.c, O.d, ?_, _, rfl, _, rfl, p, cl, dx, _, rfl, upd_same, O.c, O.e, ?_, ?_⟩
    · have h1 := length_putF "rows" v2 (putF "dim" v1 [])
      have h2 := length_putF "dim" v1 ([] : List (Str × V))
      simp only [List.length_nil] at h2
      omega
    · have h1 := length_putF "rows" v2 (putF "dim" v1 [])
      have h2 := length_putF "dim" v1 ([] : List (Str × V))
      have h3 := length_putF "corners" v3 (putF "rows" v2 (putF "dim" v1 []))
      simp only [List.length_nil] at h2
      omega
    · rw [updupd, updupd, updupd, putF4]
      exact q
end CH

set_option maxRecDepth 100000
/-! Words for a def's reading without its text: a program prints them, rfl shows that they are the evaluator's. -/
namespace CH
open PySem
abbrev Tm := Rho → S → Option (D × S)
abbrev Ts := Rho → S → Option (Bool × S)
abbrev St := Rho → S → Option Out
def mK (d : D) : Tm := fun _ s => some (d, s)
def mV (i : Nat) : Tm := fun r s => match getS r i with
  | .v d => some (d, s)
  | _ => none
/-- a look that borrows -/
def mB (i : Nat) : Tm := fun r s => match getS r i with
  | .own l => some (.lst l, s)
  | _ => mV i r s
def mBin (op : Operator) (A B : Tm) : Tm := fun r s => match A r s with
  | none => none
  | some (x, s1) => match B r s1 with
    | none => none
    | some (y, s2) => (opD op x y).map fun z => (z, s2)
def mNeg (A : Tm) : Tm := fun r s => match A r s with
  | some (.int i, s1) => some (.int (-i), s1)
  | _ => none
def mNot (A : Tm) : Tm := fun r s => match A r s with
  | some (.bl b, s1) => some (.bl (!b), s1)
  | _ => none
def mAnd : List Tm → Tm
  | [], _, _ => none
  | [f], r, s => f r s
  | f :: fs, r, s => match f r s with
    | some (.bl true, s1) => mAnd fs r s1
    | some (.bl false, s1) => some (.bl false, s1)
    | _ => none
def mOr : List Tm → Tm
  | [], _, _ => none
  | [f], r, s => f r s
  | f :: fs, r, s => match f r s with
    | some (.bl false, s1) => mOr fs r s1
    | some (.bl true, s1) => some (.bl true, s1)
    | _ => none
def mCmp (op : CmpOp) (A B : Tm) : Tm := fun r s => match A r s with
  | none => none
  | some (x, s1) => match B r s1 with
    | none => none
    | some (y, s2) => (cmpD op x y).map fun z => (.bl z, s2)
def mCmp2 (op op' : CmpOp) (A B B' : Tm) : Tm := fun r s => match A r s with
  | none => none
  | some (x, s1) => match B r s1 with
    | none => none
    | some (y, s2) => match cmpD op x y with
      | none => none
      | some false => some (.bl false, s2)
      | some true => match B' r s2 with
        | none => none
        | some (z, s3) => (cmpD op' y z).map fun w => (.bl w, s3)
def mIfE (t : Ts) (A B : Tm) : Tm := fun r s => match t r s with
  | some (true, s1) => A r s1
  | some (false, s1) => B r s1
  | none => none
def mSeq : List Tm → Rho → S → Option (List D × S)
  | [], _, s => some ([], s)
  | f :: fs, r, s => match f r s with
    | none => none
    | some (d, s1) => match mSeq fs r s1 with
      | none => none
      | some (ds, s2) => some (d :: ds, s2)
def mTup (fs : List Tm) : Tm := fun r s => match mSeq fs r s with
  | some (ds, s1) => if ds.length ≤ line then some (.tup ds, s1) else none
  | none => none
def mLst (fs : List Tm) : Tm := fun r s => match mSeq fs r s with
  | some (ds, s1) => if ds.length ≤ line then some (.lst ds, s1) else none
  | none => none
def mOpt (o : Option Tm) (r : Rho) (s : S) : Option (Option Int × S) := match o with
  | none => some (none, s)
  | some f => match f r s with
    | some (.int i, s2) => some (some i, s2)
    | _ => none
def mSl (A : Tm) (lo hi : Option Tm) : Tm := fun r s => match A r s with
  | none => none
  | some (x, s1) => match mOpt lo r s1 with
    | none => none
    | some (l, s2) => match mOpt hi r s2 with
      | none => none
      | some (h, s3) => match x with
        | .tup xs => some (.tup (cutD xs l h), s3)
        | .lst xs => some (.lst (cutD xs l h), s3)
        | _ => none
def mKey (A : Tm) (k : Str) : Tm := fun r s => match A r s with
  | some (.hnd, s1) => (getK s1 k).map fun d => (d, s1)
  | _ => none
def mIx (A B : Tm) : Tm := fun r s => match A r s with
  | none => none
  | some (x, s1) => match B r s1 with
    | some (.int i, s2) => match x with
      | .tup xs => (atD xs i).map fun d => (d, s2)
      | .lst xs => (atD xs i).map fun d => (d, s2)
      | .scr xs => (atD (xs.map .int) i).map fun d => (d, s2)
      | _ => none
    | _ => none
def mCall (F : Sm) (fs : List Tm) : Tm := fun r s => match fs with
  | [] => F [] s
  | _ :: _ => match mSeq fs r s with
    | some (ds, s1) => F ds s1
    | none => none
def mBlt (g : Str) (fs : List Tm) : Tm := fun r s => match mSeq fs r s with
  | some (ds, s1) => (bltD g ds).map fun d => (d, s1)
  | none => none
/-- an attribute of a body, a new body, a body's method -/
def mAt (f : Str) (A : Tm) : Tm := fun r s => match A r s with
  | some (.obj l, s1) => (fldD f l).map fun d => (d, s1)
  | _ => none
def mMk (fs : List Tm) : Tm := fun r s => match mSeq fs r s with
  | some (ds, s1) => if ds.length = 4 then some (.obj ds, s1) else none
  | none => none
def mMt (F : Sm) (A : Tm) (fs : List Tm) : Tm := fun r s => match A r s with
  | some (.obj l, s1) => match mSeq fs r s1 with
    | some (ds, s2) => F (.obj l :: ds) s2
    | none => none
  | _ => none
def mInst (k : String) (A : Tm) : Tm := fun r s => match A r s with
  | some (d, s1) => match tyD d with
    | some y => (L2.kitB y k).map fun b => (.bl b, s1)
    | none => none
  | none => none
def mDict (fs : List Tm) : Tm := fun r s => match s with
  | none => match mSeq fs r none with
    | some ([.scr l, .int a, .int b, .int d], none) => some (.hnd, some ⟨l, a, b, d⟩)
    | _ => none
  | _ => none
def mRng (A : Tm) (r : Rho) (s : S) : Option (List D × S) := match A r s with
  | some (.int n, s1) => (rangeD 0 n).map fun l => (l, s1)
  | _ => none
def mRng2 (A B : Tm) (r : Rho) (s : S) : Option (List D × S) := match A r s with
  | some (.int m, s1) => match B r s1 with
    | some (.int n, s2) => (rangeD m n).map fun l => (l, s2)
    | _ => none
  | _ => none
def mZip (A B : Tm) (r : Rho) (s : S) : Option (List D × S) := match A r s with
  | some (x, s1) => match B r s1 with
    | some (y, s2) => (zipD x y).map fun l => (l, s2)
    | none => none
  | none => none
def mIts (A : Tm) (r : Rho) (s : S) : Option (List D × S) := match A r s with
  | some (d, s1) => (itemsD d).map fun l => (l, s1)
  | none => none
def mBd (i : Nat) (d : D) (r : Rho) : Option Rho := some (r.set i (.v d))
def mBdT (is : List Nat) (d : D) (r : Rho) : Option Rho := match d with
  | .tup ds => setAll is ds r
  | _ => none
def mTrue : Ts := fun _ s => some (true, s)
def mComp (src : Rho → S → Option (List D × S)) (bd : D → Rho → Option Rho) (t : Ts) (elt : Tm) (own : List Nat) : Tm := fun r s => match src r s with
  | none => none
  | some (xs, s1) => if xs.length < line then
      match compE bd t elt (wipeR r own) xs s1 with
      | some (ys, s2) => some (.lst ys, s2)
      | none => none
    else none
/-! tests -/
def tNot (t : Ts) : Ts := fun r s => (t r s).map fun p => (!p.1, p.2)
def tAnd : List Ts → Ts
  | [], _, _ => none
  | [f], r, s => f r s
  | f :: fs, r, s => match f r s with
    | some (true, s1) => tAnd fs r s1
    | some (false, s1) => some (false, s1)
    | none => none
def tOr : List Ts → Ts
  | [], _, _ => none
  | [f], r, s => f r s
  | f :: fs, r, s => match f r s with
    | some (false, s1) => tOr fs r s1
    | some (true, s1) => some (true, s1)
    | none => none
def tE (A : Tm) : Ts := fun r s => match A r s with
  | some (.bl b, s1) => some (b, s1)
  | _ => none
/-! statements -/
/-- what never runs -/
def sNo : St := fun _ _ => none
def sPass : St := fun r s => some (.nx r s)
def sRetN : St := fun _ s => some (.rt .non s)
def sRet (A : Tm) : St := fun r s => (A (freezeAll r) s).map fun p => .rt p.1 p.2
def sApp (i : Nat) (fr : List Nat) (A : Tm) : St := fun r s => match A (freeze r fr) s with
  | some (d, s1) => match getS (freeze r fr) i with
    | .own l => if l.length < line then some (.nx ((freeze r fr).set i (.own (l ++ [d]))) s1) else none
    | _ => none
  | none => none
def sEx (fr : List Nat) (A : Tm) : St := fun r s => match A (freeze r fr) s with
  | some (_, s1) => some (.nx (freeze r fr) s1)
  | none => none
def sSet (i : Nat) (fr : List Nat) (A : Tm) : St := fun r s => match A (freeze r fr) s with
  | some (d, s1) => some (.nx ((freeze r fr).set i (.v d)) s1)
  | none => none
def ownD : D → Slot
  | .lst l => .own l
  | d => .v d
def sOwn (i : Nat) (fr : List Nat) (A : Tm) : St := fun r s => match A (freeze r fr) s with
  | some (d, s1) => some (.nx ((freeze r fr).set i (ownD d)) s1)
  | none => none
def sPar (i j : Nat) (fr : List Nat) (A B : Tm) : St := fun r s => match mSeq [A, B] (freeze r fr) s with
  | some ([d, d'], s1) => some (.nx (((freeze r fr).set i (.v d)).set j (.v d')) s1)
  | _ => none
def sTup (is : List Nat) (fr : List Nat) (A : Tm) : St := fun r s => match A (freeze r fr) s with
  | some (d, s1) => (mBdT is d (freeze r fr)).map fun r1 => .nx r1 s1
  | none => none
def sSt (j : Nat) (fr : List Nat) (k : Option Str) (I A : Tm) : St := fun r s => match A (freeze r fr) s with
  | none => none
  | some (d, s1) => match getS (freeze r fr) j with
    | .own l => match I (freeze r fr) s1 with
      | some (.int k, s2) => match ixN l.length k with
        | some q => some (.nx ((freeze r fr).set j (.own (l.set q d))) s2)
        | none => none
      | _ => none
    | .v .hnd => match k with
      | some k => (putK s1 k d).map fun s2 => .nx (freeze r fr) s2
      | none => none
    | _ => none
def sq : List St → St
  | [], r, s => some (.nx r s)
  | f :: fs, r, s => match f r s with
    | none => none
    | some (.rt d s1) => some (.rt d s1)
    | some (.nx r1 s1) => sq fs r1 s1
def sIf (fr : List Nat) (t : Ts) (a b : List St) : St := fun r s => match t (freeze r fr) s with
  | some (true, s1) => sq a (freeze r fr) s1
  | some (false, s1) => sq b (freeze r fr) s1
  | none => none
def sWh (t : Ts) (b : List St) : St := fun r s => whE t (sq b) whF r s
def sFor (fr : List Nat) (src : Rho → S → Option (List D × S)) (bd : D → Rho → Option Rho) (b : List St) : St := fun r s => match src (freeze r fr) s with
  | some (xs, s1) => forE bd (sq b) xs (freeze r fr) s1
  | none => none
def dfn (n np : Nat) (b : List St) : Sm := fun ds s =>
  if ds.length = np then match sq b (ds.map .v ++ List.replicate (n - ds.length) .un) s with
    | some (.rt d s1) => some (d, s1)
    | some (.nx _ s1) => some (.non, s1)
    | none => none
  else none
end CH

set_option maxRecDepth 100000
/-! Reckoning with the words; loops. -/
namespace CH
open PySem
theorem getS_zero (x : Slot) (r : Rho) : getS (x :: r) 0 = x := rfl
theorem getS_succ (x : Slot) (r : Rho) (i : Nat) : getS (x :: r) (i + 1) = getS r i := rfl
theorem freeze_len : ∀ (is : List Nat) (r : Rho), (freeze r is).length = r.length
  | [], _ => rfl
  | i :: is, r => by
    show ((freeze r is).set i _).length = _
    rw [List.length_set, freeze_len is r]
theorem freeze_get : ∀ (is : List Nat) (r : Rho) (j : Nat), (freeze r is)[j]? = if j ∈ is then r[j]?.map freeze1 else r[j]?
  | [], r, j => by simp [freeze]
  | i :: is, r, j => by
    have ih := freeze_get is r
    show ((freeze r is).set i (freeze1 (getS (freeze r is) i)))[j]? = _
    have hf : ∀ x : Slot, freeze1 (freeze1 x) = freeze1 x := fun x => by cases x <;> rfl
    rw [List.getElem?_set]
    by_cases e : i = j
    · subst e
      rw [if_pos rfl, freeze_len]
      unfold getS
      rw [List.getD_eq_getElem?_getD, ih]
      by_cases hl : i < r.length
      · rw [if_pos hl, List.getElem?_eq_getElem hl]
        by_cases hi : i ∈ is <;> simp [hi, hf]
      · rw [if_neg hl]
        have : r[i]? = none := List.getElem?_eq_none (by omega)
        rw [this]
        by_cases hi : i ∈ is <;> simp [hi]
    · rw [if_neg e, ih]
      by_cases hi : j ∈ is <;> simp [hi, Ne.symm e]
theorem freezeAll_eq (r : Rho) : freezeAll r = r.map freeze1 := by
  apply List.ext_getElem?
  intro j
  unfold freezeAll
  rw [freeze_get, List.getElem?_map]
  by_cases h : j < r.length
  · rw [if_pos (List.mem_range.mpr h)]
  · rw [if_neg (by simpa using h)]
    simp [List.getElem?_eq_none (Nat.le_of_not_lt h)]
theorem freeze1_v (d : D) : freeze1 (.v d) = .v d := rfl
theorem freeze1_un : freeze1 .un = .un := rfl
theorem freeze1_own (l : List D) : freeze1 (.own l) = .v (.lst l) := rfl
theorem set_zero (x y : Slot) (r : Rho) : List.set (x :: r) 0 y = y :: r := rfl
theorem set_succ (x y : Slot) (r : Rho) (i : Nat) : List.set (x :: r) (i + 1) y = x :: List.set r i y := rfl
theorem freeze_nil (r : Rho) : freeze r [] = r := rfl
theorem freeze_cons (r : Rho) (i : Nat) (is : List Nat) : freeze r (i :: is) = (freeze r is).set i (freeze1 (getS (freeze r is) i)) := rfl
theorem wipe_nil (r : Rho) : wipeR r [] = r := rfl
theorem wipe_cons (r : Rho) (i : Nat) (is : List Nat) : wipeR r (i :: is) = (wipeR r is).set i .un := rfl

/-! what simp may use -/
set_option smartUnfolding false
def cont (o : Option Out) (k : Rho → S → Option Out) : Option Out := match o with
  | none => none
  | some (.rt d s) => some (.rt d s)
  | some (.nx r s) => k r s
@[simp] theorem cont_nx (r : Rho) (s : S) (k : Rho → S → Option Out) : cont (some (.nx r s)) k = k r s := rfl
@[simp] theorem cont_rt (d : D) (s : S) (k : Rho → S → Option Out) : cont (some (.rt d s)) k = some (.rt d s) := rfl
def bnd {α β : Type} (o : Option (α × S)) (k : α → S → Option β) : Option β := match o with
  | none => none
  | some (x, s) => k x s
@[simp] theorem bnd_some {α β : Type} (x : α) (s : S) (k : α → S → Option β) : bnd (some (x, s)) k = k x s := rfl
@[simp] theorem gS0 (x : Slot) (r : Rho) : getS (x :: r) 0 = x := rfl
@[simp] theorem gS1 (a x : Slot) (r : Rho) : getS (a :: x :: r) 1 = x := rfl
@[simp] theorem gS2 (a b x : Slot) (r : Rho) : getS (a :: b :: x :: r) 2 = x := rfl
@[simp] theorem gS3 (a b c x : Slot) (r : Rho) : getS (a :: b :: c :: x :: r) 3 = x := rfl
@[simp] theorem gS4 (a b c d x : Slot) (r : Rho) : getS (a :: b :: c :: d :: x :: r) 4 = x := rfl
@[simp] theorem gS5 (a b c d e x : Slot) (r : Rho) : getS (a :: b :: c :: d :: e :: x :: r) 5 = x := rfl
@[simp] theorem gS6 (a b c d e f x : Slot) (r : Rho) : getS (a :: b :: c :: d :: e :: f :: x :: r) 6 = x := rfl
@[simp] theorem gS7 (a b c d e f g x : Slot) (r : Rho) : getS (a :: b :: c :: d :: e :: f :: g :: x :: r) 7 = x := rfl
@[simp] theorem gS8 (a b c d e f g h x : Slot) (r : Rho) : getS (a :: b :: c :: d :: e :: f :: g :: h :: x :: r) 8 = x := rfl
@[simp] theorem gS9 (a b c d e f g h i x : Slot) (r : Rho) : getS (a :: b :: c :: d :: e :: f :: g :: h :: i :: x :: r) 9 = x := rfl
@[simp] theorem fz_nil (r : Rho) : freeze r [] = r := rfl
@[simp] theorem fz_cons (r : Rho) (i : Nat) (is : List Nat) : freeze r (i :: is) = (freeze r is).set i (freeze1 (getS (freeze r is) i)) := rfl
@[simp] theorem fz_v (d : D) : freeze1 (.v d) = .v d := rfl
@[simp] theorem fz_un : freeze1 .un = .un := rfl
@[simp] theorem fz_own (l : List D) : freeze1 (.own l) = .v (.lst l) := rfl
@[simp] theorem fz_all (r : Rho) : freezeAll r = r.map freeze1 := freezeAll_eq r
@[simp] theorem wp_nil (r : Rho) : wipeR r [] = r := rfl
@[simp] theorem wp_cons (r : Rho) (i : Nat) (is : List Nat) : wipeR r (i :: is) = (wipeR r is).set i .un := rfl
section
variable {r : Rho} {s : S} {A B E : Tm} {i j : Nat} {fr is : List Nat} {fs : List Tm} {t u : Ts} {b e : List St} {op op' : CmpOp}
def vOf (x : Slot) (s : S) : Option (D × S) := match x with
  | .v d => some (d, s)
  | _ => none
def bOf (x : Slot) (s : S) : Option (D × S) := match x with
  | .own l => some (.lst l, s)
  | .v d => some (d, s)
  | .un => none
@[simp] theorem vOf_v (d : D) : vOf (.v d) s = some (d, s) := rfl
@[simp] theorem bOf_v (d : D) : bOf (.v d) s = some (d, s) := rfl
@[simp] theorem bOf_own (l : List D) : bOf (.own l) s = some (.lst l, s) := rfl
@[simp] theorem x_mK (d : D) : mK d r s = some (d, s) := rfl
@[simp] theorem x_v : mV i r s = vOf (getS r i) s := rfl
@[simp] theorem x_b : mB i r s = bOf (getS r i) s := by
  unfold mB mV bOf
  cases getS r i <;> rfl
@[simp] theorem x_bin {o : Operator} : mBin o A B r s = bnd (A r s) fun x s1 => bnd (B r s1) fun y s2 => (opD o x y).map fun z => (z, s2) := by
  unfold mBin bnd; rfl
def negD : D → Option D
  | .int i => some (.int (-i))
  | _ => none
@[simp] theorem negD_int (i : Int) : negD (.int i) = some (.int (-i)) := rfl
@[simp] theorem x_neg : mNeg A r s = bnd (A r s) fun x s1 => (negD x).map fun z => (z, s1) := by
  unfold mNeg bnd
  cases A r s with
  | none => rfl
  | some p => cases p with | mk d s1 => cases d <;> rfl
def notD : D → Option D
  | .bl i => some (.bl (!i))
  | _ => none
@[simp] theorem notD_bl (i : Bool) : notD (.bl i) = some (.bl (!i)) := rfl
@[simp] theorem x_not : mNot A r s = bnd (A r s) fun x s1 => (notD x).map fun z => (z, s1) := by
  unfold mNot bnd
  cases A r s with
  | none => rfl
  | some p => cases p with | mk d s1 => cases d <;> rfl
def andK (d : D) (s : S) (k : S → Option (D × S)) : Option (D × S) := match d with
  | .bl true => k s
  | .bl false => some (.bl false, s)
  | _ => none
@[simp] theorem andK_bl (x : Bool) (k : S → Option (D × S)) : andK (.bl x) s k = if x then k s else some (.bl false, s) := by cases x <;> rfl
@[simp] theorem x_and1 : mAnd [A] r s = A r s := rfl
@[simp] theorem x_and2 : mAnd (A :: B :: fs) r s = bnd (A r s) fun d s1 => andK d s1 fun s1 => mAnd (B :: fs) r s1 := by
  show (match A r s with
    | some (.bl true, s1) => mAnd (B :: fs) r s1
    | some (.bl false, s1) => some (.bl false, s1)
    | _ => none) = _
  cases A r s with
  | none => rfl
  | some p => cases p with | mk d s1 => cases d <;> first | rfl | (rename_i b; cases b <;> rfl)
def orK (d : D) (s : S) (k : S → Option (D × S)) : Option (D × S) := match d with
  | .bl false => k s
  | .bl true => some (.bl true, s)
  | _ => none
@[simp] theorem orK_bl (x : Bool) (k : S → Option (D × S)) : orK (.bl x) s k = if x then some (.bl true, s) else k s := by cases x <;> rfl
@[simp] theorem x_or1 : mOr [A] r s = A r s := rfl
@[simp] theorem x_or2 : mOr (A :: B :: fs) r s = bnd (A r s) fun d s1 => orK d s1 fun s1 => mOr (B :: fs) r s1 := by
  show (match A r s with
    | some (.bl false, s1) => mOr (B :: fs) r s1
    | some (.bl true, s1) => some (.bl true, s1)
    | _ => none) = _
  cases A r s with
  | none => rfl
  | some p => cases p with | mk d s1 => cases d <;> first | rfl | (rename_i b; cases b <;> rfl)
@[simp] theorem x_cmp : mCmp op A B r s = bnd (A r s) fun x s1 => bnd (B r s1) fun y s2 => (cmpD op x y).map fun z => (.bl z, s2) := by
  unfold mCmp bnd; rfl
def cmpK (c : Option Bool) (s : S) (k : S → Option (D × S)) : Option (D × S) := match c with
  | none => none
  | some false => some (.bl false, s)
  | some true => k s
@[simp] theorem cmpK_some (x : Bool) (k : S → Option (D × S)) : cmpK (some x) s k = if x then k s else some (.bl false, s) := by cases x <;> rfl
@[simp] theorem x_cmp2 : mCmp2 op op' A B E r s = bnd (A r s) fun x s1 => bnd (B r s1) fun y s2 => cmpK (cmpD op x y) s2 fun s2 => bnd (E r s2) fun z s3 => (cmpD op' y z).map fun w => (.bl w, s3) := by
  unfold mCmp2 bnd cmpK; rfl
@[simp] theorem x_ife : mIfE t A B r s = bnd (t r s) fun x s1 => if x then A r s1 else B r s1 := by
  unfold mIfE bnd
  cases t r s with
  | none => rfl
  | some p => cases p with | mk x s1 => cases x <;> rfl
@[simp] theorem x_seq0 : mSeq [] r s = some ([], s) := rfl
@[simp] theorem x_seq : mSeq (A :: fs) r s = bnd (A r s) fun d s1 => bnd (mSeq fs r s1) fun ds s2 => some (d :: ds, s2) := rfl
@[simp] theorem x_tup : mTup fs r s = bnd (mSeq fs r s) fun ds s1 => if ds.length ≤ line then some (.tup ds, s1) else none := rfl
@[simp] theorem x_lst : mLst fs r s = bnd (mSeq fs r s) fun ds s1 => if ds.length ≤ line then some (.lst ds, s1) else none := rfl
def intK {β : Type} (d : D) (k : Int → Option β) : Option β := match d with
  | .int i => k i
  | _ => none
@[simp] theorem intK_int {β : Type} (i : Int) (k : Int → Option β) : intK (.int i) k = k i := rfl
@[simp] theorem x_opt0 : mOpt none r s = some (none, s) := rfl
@[simp] theorem x_opt : mOpt (some A) r s = bnd (A r s) fun d s1 => intK d fun i => some (some i, s1) := by
  show (match A r s with
    | some (.int i, s2) => some (some i, s2)
    | _ => none : Option (Option Int × S)) = _
  cases A r s with
  | none => rfl
  | some p => cases p with | mk d s1 => cases d <;> rfl
def slD (x : D) (l h : Option Int) : Option D := match x with
  | .tup xs => some (.tup (cutD xs l h))
  | .lst xs => some (.lst (cutD xs l h))
  | _ => none
@[simp] theorem slD_tup (xs : List D) (l h : Option Int) : slD (.tup xs) l h = some (.tup (cutD xs l h)) := rfl
@[simp] theorem slD_lst (xs : List D) (l h : Option Int) : slD (.lst xs) l h = some (.lst (cutD xs l h)) := rfl
@[simp] theorem x_sl {lo hi : Option Tm} : mSl A lo hi r s = bnd (A r s) fun x s1 => bnd (mOpt lo r s1) fun l s2 => bnd (mOpt hi r s2) fun h s3 => (slD x l h).map fun d => (d, s3) := by
  unfold mSl bnd
  cases A r s with
  | none => rfl
  | some p =>
    dsimp only
    cases mOpt lo r p.2 with
    | none => rfl
    | some q =>
      dsimp only
      cases mOpt hi r q.2 with
      | none => rfl
      | some w =>
        dsimp only
        cases p.1 <;> rfl
def hndK {β : Type} (d : D) (k : Option β) : Option β := match d with
  | .hnd => k
  | _ => none
@[simp] theorem hndK_hnd {β : Type} (k : Option β) : hndK .hnd k = k := rfl
@[simp] theorem x_key {k : Str} : mKey A k r s = bnd (A r s) fun d s1 => hndK d ((getK s1 k).map fun d => (d, s1)) := by
  unfold mKey
  cases A r s with
  | none => rfl
  | some p => cases p with | mk d s1 => cases d <;> rfl
def ixD (x : D) (i : Int) : Option D := match x with
  | .tup xs => atD xs i
  | .lst xs => atD xs i
  | .scr xs => atD (xs.map .int) i
  | _ => none
@[simp] theorem ixD_tup (xs : List D) (i : Int) : ixD (.tup xs) i = atD xs i := rfl
@[simp] theorem ixD_lst (xs : List D) (i : Int) : ixD (.lst xs) i = atD xs i := rfl
@[simp] theorem ixD_scr (xs : List Int) (i : Int) : ixD (.scr xs) i = atD (xs.map .int) i := rfl
@[simp] theorem x_ix : mIx A B r s = bnd (A r s) fun x s1 => bnd (B r s1) fun y s2 => intK y fun i => (ixD x i).map fun d => (d, s2) := by
  unfold mIx
  cases A r s with
  | none => rfl
  | some p =>
    dsimp only [bnd]
    cases B r p.2 with
    | none => rfl
    | some q =>
      cases q with
      | mk d s1 => cases d <;> first | rfl | (dsimp only [intK]; cases p.1 <;> rfl)
@[simp] theorem x_call0 {F : Sm} : mCall F [] r s = F [] s := rfl
@[simp] theorem x_call {F : Sm} : mCall F (A :: fs) r s = bnd (mSeq (A :: fs) r s) fun ds s1 => F ds s1 := rfl
@[simp] theorem x_blt {g : Str} : mBlt g fs r s = bnd (mSeq fs r s) fun ds s1 => (bltD g ds).map fun d => (d, s1) := rfl
def fldK (f : Str) (d : D) : Option D := match d with
  | .obj l => fldD f l
  | _ => none
@[simp] theorem fldK_dim (a b c d : D) : fldK "dim" (.obj [a, b, c, d]) = some a := rfl
@[simp] theorem fldK_rows (a b c d : D) : fldK "rows" (.obj [a, b, c, d]) = some b := rfl
@[simp] theorem fldK_corners (a b c d : D) : fldK "corners" (.obj [a, b, c, d]) = some c := rfl
@[simp] theorem fldK_rays (a b c d : D) : fldK "rays" (.obj [a, b, c, d]) = some d := rfl
@[simp] theorem x_at {f : Str} : mAt f A r s = bnd (A r s) fun d s1 => (fldK f d).map fun z => (z, s1) := by
  unfold mAt bnd fldK
  cases A r s with
  | none => rfl
  | some p => cases p with | mk d s1 => cases d <;> rfl
@[simp] theorem x_mk {fs : List Tm} : mMk fs r s = bnd (mSeq fs r s) fun ds s1 => if ds.length = 4 then some (.obj ds, s1) else none := rfl
def objK {β : Type} (d : D) (k : List D → Option β) : Option β := match d with
  | .obj l => k l
  | _ => none
@[simp] theorem objK_obj {β : Type} (l : List D) (k : List D → Option β) : objK (.obj l) k = k l := rfl
@[simp] theorem x_mt {F : Sm} {fs : List Tm} : mMt F A fs r s = bnd (A r s) fun d s1 => objK d fun l => bnd (mSeq fs r s1) fun ds s2 => F (.obj l :: ds) s2 := by
  unfold mMt bnd objK
  cases A r s with
  | none => rfl
  | some p => cases p with | mk d s1 => cases d <;> rfl
@[simp] theorem x_inst {k : String} : mInst k A r s = bnd (A r s) fun d s1 => match tyD d with
    | some y => (L2.kitB y k).map fun b => (.bl b, s1)
    | none => none := rfl
@[simp] theorem x_rng : mRng A r s = bnd (A r s) fun d s1 => intK d fun n => (rangeD 0 n).map fun l => (l, s1) := by
  unfold mRng
  cases A r s with
  | none => rfl
  | some p => cases p with | mk d s1 => cases d <;> rfl
@[simp] theorem x_rng2 : mRng2 A B r s = bnd (A r s) fun d s1 => intK d fun m => bnd (B r s1) fun e s2 => intK e fun n => (rangeD m n).map fun l => (l, s2) := by
  unfold mRng2
  cases A r s with
  | none => rfl
  | some p =>
    cases p with
    | mk d s1 =>
      cases d <;> first | rfl | skip
      dsimp only [bnd, intK]
      cases B r s1 with
      | none => rfl
      | some q => cases q with | mk e s2 => cases e <;> rfl
@[simp] theorem x_zip : mZip A B r s = bnd (A r s) fun x s1 => bnd (B r s1) fun y s2 => (zipD x y).map fun l => (l, s2) := rfl
@[simp] theorem x_its : mIts A r s = bnd (A r s) fun d s1 => (itemsD d).map fun l => (l, s1) := rfl
@[simp] theorem x_bd {d : D} : mBd i d r = some (r.set i (.v d)) := rfl
@[simp] theorem x_bdt {ds : List D} : mBdT is (.tup ds) r = setAll is ds r := rfl
@[simp] theorem x_sa0 : setAll [] [] r = some r := rfl
@[simp] theorem x_sa {d : D} {ds : List D} : setAll (i :: is) (d :: ds) r = setAll is ds (r.set i (.v d)) := rfl
@[simp] theorem x_tr : mTrue r s = some (true, s) := rfl
@[simp] theorem x_comp {src : Rho → S → Option (List D × S)} {bd : D → Rho → Option Rho} : mComp src bd t E is r s = bnd (src r s) fun xs s1 => if xs.length < line then (bnd (compE bd t E (wipeR r is) xs s1) fun ys s2 => some (.lst ys, s2)) else none := rfl
@[simp] theorem y_not : tNot t r s = (t r s).map fun p => (!p.1, p.2) := rfl
@[simp] theorem y_and1 : tAnd [t] r s = t r s := rfl
@[simp] theorem y_and {ts : List Ts} : tAnd (t :: u :: ts) r s = bnd (t r s) fun x s1 => if x then tAnd (u :: ts) r s1 else some (false, s1) := by
  show (match t r s with
    | some (true, s1) => tAnd (u :: ts) r s1
    | some (false, s1) => some (false, s1)
    | none => none) = _
  cases t r s with
  | none => rfl
  | some p => cases p with | mk x s1 => cases x <;> rfl
@[simp] theorem y_or1 : tOr [t] r s = t r s := rfl
@[simp] theorem y_or {ts : List Ts} : tOr (t :: u :: ts) r s = bnd (t r s) fun x s1 => if x then some (true, s1) else tOr (u :: ts) r s1 := by
  show (match t r s with
    | some (false, s1) => tOr (u :: ts) r s1
    | some (true, s1) => some (true, s1)
    | none => none) = _
  cases t r s with
  | none => rfl
  | some p => cases p with | mk x s1 => cases x <;> rfl
def blK {β : Type} (d : D) (k : Bool → Option β) : Option β := match d with
  | .bl i => k i
  | _ => none
@[simp] theorem blK_bl {β : Type} (i : Bool) (k : Bool → Option β) : blK (.bl i) k = k i := rfl
@[simp] theorem y_e : tE A r s = bnd (A r s) fun d s1 => blK d fun b => some (b, s1) := by
  unfold tE
  cases A r s with
  | none => rfl
  | some p => cases p with | mk d s1 => cases d <;> rfl
@[simp] theorem z_no : sNo r s = none := rfl
@[simp] theorem z_pass : sPass r s = some (.nx r s) := rfl
@[simp] theorem z_retN : sRetN r s = some (.rt .non s) := rfl
@[simp] theorem z_ret : sRet A r s = bnd (A (freezeAll r) s) fun d s1 => some (Out.rt d s1) := by
  unfold sRet bnd
  cases A (freezeAll r) s <;> rfl
def ownK {β : Type} (x : Slot) (k : List D → Option β) : Option β := match x with
  | .own l => k l
  | _ => none
@[simp] theorem ownK_own {β : Type} (l : List D) (k : List D → Option β) : ownK (.own l) k = k l := rfl
@[simp] theorem z_app : sApp i fr A r s = bnd (A (freeze r fr) s) fun d s1 => ownK (getS (freeze r fr) i) fun l => if l.length < line then some (.nx ((freeze r fr).set i (.own (l ++ [d]))) s1) else none := by
  unfold sApp
  cases A (freeze r fr) s <;> rfl
@[simp] theorem z_ex : sEx fr A r s = bnd (A (freeze r fr) s) fun _ s1 => some (.nx (freeze r fr) s1) := by
  unfold sEx
  cases A (freeze r fr) s <;> rfl
@[simp] theorem z_set : sSet i fr A r s = bnd (A (freeze r fr) s) fun d s1 => some (.nx ((freeze r fr).set i (.v d)) s1) := by
  unfold sSet
  cases A (freeze r fr) s <;> rfl
@[simp] theorem ownD_lst (l : List D) : ownD (.lst l) = .own l := rfl
@[simp] theorem z_own : sOwn i fr A r s = bnd (A (freeze r fr) s) fun d s1 => some (.nx ((freeze r fr).set i (ownD d)) s1) := by
  unfold sOwn
  cases A (freeze r fr) s <;> rfl
@[simp] theorem z_par : sPar i j fr A B r s = bnd (A (freeze r fr) s) fun d s1 => bnd (B (freeze r fr) s1) fun d' s2 => some (.nx (((freeze r fr).set i (.v d)).set j (.v d')) s2) := by
  unfold sPar
  rw [x_seq]
  cases A (freeze r fr) s with
  | none => rfl
  | some p =>
    dsimp only [bnd]
    rw [x_seq]
    cases B (freeze r fr) p.2 <;> rfl
@[simp] theorem z_tup : sTup is fr A r s = bnd (A (freeze r fr) s) fun d s1 => (mBdT is d (freeze r fr)).map fun r1 => .nx r1 s1 := by
  unfold sTup
  cases A (freeze r fr) s <;> rfl
def stK (x : Slot) (o : Option Out) (p : List D → Option Out) : Option Out := match x with
  | .own l => p l
  | .v .hnd => o
  | _ => none
@[simp] theorem stK_hnd (o : Option Out) (p : List D → Option Out) : stK (.v .hnd) o p = o := rfl
@[simp] theorem stK_own (l : List D) (o : Option Out) (p : List D → Option Out) : stK (.own l) o p = p l := rfl
@[simp] theorem z_st {k : Option Str} {I : Tm} : sSt j fr k I A r s = bnd (A (freeze r fr) s) fun d s1 => stK (getS (freeze r fr) j) (match k with
      | some k => (putK s1 k d).map fun s2 => Out.nx (freeze r fr) s2
      | none => none) fun l => bnd (I (freeze r fr) s1) fun x s2 => intK x fun k => (ixN l.length k).map fun q => Out.nx ((freeze r fr).set j (.own (l.set q d))) s2 := by
  unfold sSt
  cases A (freeze r fr) s with
  | none => rfl
  | some p =>
    dsimp only [bnd]
    cases getS (freeze r fr) j with
    | un => rfl
    | v d => cases d <;> rfl
    | own l =>
      dsimp only [stK]
      cases I (freeze r fr) p.2 with
      | none => rfl
      | some q =>
        cases q with
        | mk d s1 => cases d <;> rfl
@[simp] theorem q_nil : sq [] r s = some (Out.nx r s) := rfl
@[simp] theorem q_cons {f : CH.St} {fs : List CH.St} : sq (f :: fs) r s = cont (f r s) (sq fs) := by
  unfold cont
  rfl
theorem sq_append : ∀ (a b : List CH.St) (r : Rho) (s : S), sq (a ++ b) r s = cont (sq a r s) (sq b)
  | [], _, _, _ => rfl
  | f :: a, b, r, s => by
    rw [List.cons_append, q_cons, q_cons]
    cases f r s with
    | none => rfl
    | some o =>
      cases o with
      | rt d s1 => rfl
      | nx r1 s1 => exact sq_append a b r1 s1
@[simp] theorem z_if : sIf fr t b e r s = bnd (t (freeze r fr) s) fun x s1 => if x then sq b (freeze r fr) s1 else sq e (freeze r fr) s1 := by
  unfold sIf bnd
  cases t (freeze r fr) s with
  | none => rfl
  | some p => cases p with | mk x s1 => cases x <;> rfl
@[simp] theorem z_wh : sWh t b r s = whE t (sq b) whF r s := rfl
@[simp] theorem z_for {src : Rho → S → Option (List D × S)} {bd : D → Rho → Option Rho} : sFor fr src bd b r s = bnd (src (freeze r fr) s) fun xs s1 => forE bd (sq b) xs (freeze r fr) s1 := by
  unfold sFor
  cases src (freeze r fr) s <;> rfl
theorem dfn_eq {n np : Nat} {ds : List D} (h : ds.length = np) : dfn n np b ds s = (match sq b (ds.map .v ++ List.replicate (n - ds.length) .un) s with
    | some (.rt d s1) => some (d, s1)
    | some (.nx _ s1) => some (.non, s1)
    | none => none) := by
  unfold dfn
  rw [if_pos h]
  all_goals rfl
theorem dfn_rt {n np : Nat} {ds : List D} {d : D} {s1 : S} (h : ds.length = np) (e : sq b (ds.map .v ++ List.replicate (n - ds.length) .un) s = some (.rt d s1)) : dfn n np b ds s = some (d, s1) := by
  rw [dfn_eq h, e]
theorem dfn_nx {n np : Nat} {ds : List D} {r1 : Rho} {s1 : S} (h : ds.length = np) (e : sq b (ds.map .v ++ List.replicate (n - ds.length) .un) s = some (.nx r1 s1)) : dfn n np b ds s = some (.non, s1) := by
  rw [dfn_eq h, e]
end
set_option smartUnfolding true
/-! operations -/
@[simp] theorem o_add (a b : Int) : opD .Add (.int a) (.int b) = some (.int (a + b)) := rfl
@[simp] theorem o_sub (a b : Int) : opD .Sub (.int a) (.int b) = some (.int (a - b)) := rfl
theorem o_mul {a b : Int} (ha : fits a = true) (hb : fits b = true) : opD .Mult (.int a) (.int b) = some (.int (a * b)) := by
  show (if fits a && fits b then _ else _) = _
  rw [ha, hb]; rfl
theorem o_div {a b : Int} (h : b ≠ 0) (h2 : b.natAbs.log2 < 60000000) : opD .FloorDiv (.int a) (.int b) = some (.int (a.fdiv b)) := if_pos ⟨h, h2⟩
theorem o_mod {a b : Int} (h : b ≠ 0) : opD .Mod (.int a) (.int b) = some (.int (a.fmod b)) := if_pos h
theorem o_pow {a b : Int} (h : 0 ≤ b ∧ b ≤ 1000000 ∧ a.natAbs < 2 ^ 64) : opD .Pow (.int a) (.int b) = some (.int (a ^ b.toNat)) := if_pos h
@[simp] theorem c_lt (a b : Int) : cmpD .Lt (.int a) (.int b) = some (decide (a < b)) := rfl
@[simp] theorem c_le (a b : Int) : cmpD .LtE (.int a) (.int b) = some (decide (a ≤ b)) := rfl
@[simp] theorem c_gt (a b : Int) : cmpD .Gt (.int a) (.int b) = some (decide (b < a)) := rfl
@[simp] theorem c_ge (a b : Int) : cmpD .GtE (.int a) (.int b) = some (decide (b ≤ a)) := rfl
@[simp] theorem c_eq (a b : Int) : cmpD .Eq (.int a) (.int b) = some (decide (a = b)) := by
  show (if SeqAt.shaped (.int a) && SeqAt.shaped (.int b) then some (PyData.eqv (.int a) (.int b)) else none) = _
  rfl
@[simp] theorem c_ne (a b : Int) : cmpD .NotEq (.int a) (.int b) = some (!decide (a = b)) := by
  show (eqD (.int a) (.int b)).map (!·) = _
  rw [show eqD (.int a) (.int b) = some (decide (a = b)) from c_eq a b]
  rfl
/-! ### divisor -/
theorem gcd_step (a b : Int) : Int.gcd b (a % b) = Int.gcd b a := Int.gcd_right_eq_iff.mpr fun c hc => by
  have h : c ∣ b * (a / b) := Int.dvd_trans hc (Int.dvd_mul_right b _)
  rw [Int.emod_def]
  constructor
  · intro x
    have y := Int.dvd_add x h
    rwa [Int.sub_add_cancel] at y
  · intro x
    exact Int.dvd_sub x h
def gcdI (a b : Int) : Int := (Int.gcd a b : Nat)
theorem gcd_loop {T : Ts} {B : List St} {s : S} (mk : Int → Int → Rho) (hT : ∀ a b s, T (mk a b) s = some (decide (b ≠ 0), s)) (hB : ∀ a b s, b ≠ 0 → sq B (mk a b) s = some (.nx (mk b (a.fmod b)) s)) :
    ∀ (n : Nat) (a b : Int), 0 ≤ a → 0 ≤ b → b < 2 ^ n → ∀ k, 2 * n + 2 ≤ k → whE T (sq B) k (mk a b) s = some (.nx (mk (gcdI a b) 0) s)
  | n, a, b, ha, hb, hn, 0, hk => by omega
  | n, a, b, ha, hb, hn, k + 1, hk => by
    unfold whE
    rw [hT]
    by_cases h0 : b = 0
    · subst h0
      rw [decide_eq_false (by simp)]
      dsimp only
      have : gcdI a 0 = a := by unfold gcdI; rw [Int.gcd_zero_right]; omega
      rw [this]
    · rw [decide_eq_true h0]
      dsimp only
      rw [hB a b s h0]
      dsimp only
      have hb1 : 0 < b := by omega
      have m1 : 0 ≤ a.fmod b := Int.fmod_nonneg_of_pos a hb1
      have m2 : a.fmod b < b := Int.fmod_lt_of_pos a hb1
      have g1 : gcdI b (a.fmod b) = gcdI a b := by
        unfold gcdI
        rw [Int.fmod_eq_emod_of_nonneg a hb]
        rw [Int.gcd_comm a b]
        rw [gcd_step]
      -- one turn more
      match k, hk with
      | 0, hk => omega
      | k + 1, hk =>
        unfold whE
        rw [hT]
        by_cases h1 : a.fmod b = 0
        · rw [decide_eq_false (by simp [h1])]
          dsimp only
          rw [← g1, h1]
          have : gcdI b 0 = b := by unfold gcdI; rw [Int.gcd_zero_right]; omega
          rw [this]
        · rw [decide_eq_true h1]
          dsimp only
          rw [hB b _ s h1]
          dsimp only
          have hm : 0 < a.fmod b := by omega
          have m3 : 0 ≤ b.fmod (a.fmod b) := Int.fmod_nonneg_of_pos b hm
          have m4 : b.fmod (a.fmod b) < a.fmod b := Int.fmod_lt_of_pos b hm
          have g2 : gcdI (a.fmod b) (b.fmod (a.fmod b)) = gcdI b (a.fmod b) := by
            unfold gcdI
            rw [Int.fmod_eq_emod_of_nonneg b m1]
            rw [Int.gcd_comm b (a.fmod b)]
            rw [gcd_step]
          have half : b.fmod (a.fmod b) * 2 < b := by
            have e := Int.mul_fdiv_add_fmod b (a.fmod b)
            have q1 : 1 ≤ b.fdiv (a.fmod b) := by
              rw [Int.fdiv_eq_ediv_of_nonneg _ m1]
              exact Int.le_ediv_of_mul_le hm (by omega)
            have := Int.mul_le_mul_of_nonneg_left q1 m1
            omega
          cases n with
          | zero => omega
          | succ n =>
            rw [← g1, ← g2]
            exact gcd_loop mk hT hB n _ _ m1 m3 (by rw [Int.pow_succ] at hn; omega) k (by omega)
end CH

set_option maxRecDepth 100000
/-! One lemma a construct: the evaluator at a term is the word over what it is at the parts. -/
namespace CH
open PySem
set_option smartUnfolding false
section
variable {n : Nat} {c : C} {f : Expr → Tm} {A B E : Tm} {As : List Tm} {a b e : Expr} {es : List Expr} {p q u w : Pos} {k : Nat} {i j : Nat} {x : Str}
def isNm : Expr → Bool
  | .Name _ _ => true
  | _ => false
theorem t_int {z : Int} : ev (n + 1) c (.Constant (.int z) k p) = mK (.int z) := rfl
theorem t_str {z : Str} : ev (n + 1) c (.Constant (.str z) k p) = mK (.str z) := rfl
theorem t_bl {z : Bool} : ev (n + 1) c (.Constant (.bool z) k p) = mK (.bl z) := rfl
theorem t_non : ev (n + 1) c (.Constant .none k p) = mK .non := rfl
theorem t_v (h : slotOf c x = some i) : ev (n + 1) c (.Name x p) = mV i := by
  funext r s
  show (match slotOf c x with
    | some i => match getS r i with
      | .v d => some (d, s)
      | _ => none
    | none => if glB c x && !decide (x = ("__debug__" : Str)) then (c.ks x).map fun i => (.int i, s) else none) = _
  rw [h]
  rfl
theorem t_con {z : Int} (h : slotOf c x = none ∧ (glB c x && !decide (x = ("__debug__" : Str))) = true) (hk : c.ks x = some z) : ev (n + 1) c (.Name x p) = mK (.int z) := by
  funext r s
  show (match slotOf c x with
    | some i => match getS r i with
      | .v d => some (d, s)
      | _ => none
    | none => if glB c x && !decide (x = ("__debug__" : Str)) then (c.ks x).map fun i => (.int i, s) else none) = _
  rw [h.1]
  refine (if_pos h.2).trans ?_
  rw [hk]
  rfl
theorem t_bcon {z : Int} (h : slotOf c x = none ∧ (glB c x && !decide (x = ("__debug__" : Str))) = true) (hk : c.ks x = some z) : bor (ev (n + 1) c) c (.Name x p) = mK (.int z) := by
  rw [← t_con (n := n) (p := p) h hk]
  funext r s
  show (match slotOf c x with
    | some i => match getS r i with
      | .own l => some (.lst l, s)
      | _ => ev (n + 1) c (.Name x p) r s
    | none => ev (n + 1) c (.Name x p) r s : Option (D × S)) = _
  rw [h.1]
theorem t_at (hob : c.ob = true) (h : ev n c (.Name x q) = A) {f : Str} : ev (n + 1) c (.Attribute (.Name x q) f p) = mAt f A := by
  rw [← h]
  funext r s
  exact (if_pos hob).trans rfl
theorem t_b (h : slotOf c x = some i) : bor (ev (n + 1) c) c (.Name x p) = mB i := by
  funext r s
  show (match slotOf c x with
    | some i => match getS r i with
      | .own l => some (.lst l, s)
      | _ => ev (n + 1) c (.Name x p) r s
    | none => ev (n + 1) c (.Name x p) r s : Option (D × S)) = _
  rw [h, t_v h]
  rfl
theorem t_bo (h : isNm e = false) (t : ev n c e = A) : bor (ev n c) c e = A := by
  rw [← t]
  cases e with
  | Name _ _ => cases h
  | _ => rfl
theorem t_nil {α β : Type} {f : α → β} : List.map f [] = [] := rfl
theorem t_cons {α β : Type} {f : α → β} {x : α} {xs : List α} {y : β} {ys : List β} (h : f x = y) (t : List.map f xs = ys) : List.map f (x :: xs) = y :: ys := by
  rw [List.map_cons, h, t]
theorem t_bin {op : Operator} (h1 : bor (ev n c) c a = A) (h2 : bor (ev n c) c b = B) : ev (n + 1) c (.BinOp a op b p) = mBin op A B := by
  rw [← h1, ← h2]; rfl
theorem t_neg (h : ev n c a = A) : ev (n + 1) c (.UnaryOp .USub a p) = mNeg A := by rw [← h]; rfl
theorem t_not (h : ev n c a = A) : ev (n + 1) c (.UnaryOp .Not a p) = mNot A := by rw [← h]; rfl
theorem andE_map (f : Expr → Tm) : ∀ (vs : List Expr) (r : Rho) (s : S), andE f vs r s = mAnd (vs.map f) r s
  | [], _, _ => rfl
  | [_], _, _ => rfl
  | e :: e' :: es, r, s => by
    have ih := andE_map f (e' :: es) r
    show (match f e r s with
      | some (.bl true, s1) => andE f (e' :: es) r s1
      | some (.bl false, s1) => some (.bl false, s1)
      | _ => none) = (match f e r s with
      | some (.bl true, s1) => mAnd ((e' :: es).map f) r s1
      | some (.bl false, s1) => some (.bl false, s1)
      | _ => none)
    simp only [ih]
theorem orE_map (f : Expr → Tm) : ∀ (vs : List Expr) (r : Rho) (s : S), orE f vs r s = mOr (vs.map f) r s
  | [], _, _ => rfl
  | [_], _, _ => rfl
  | e :: e' :: es, r, s => by
    have ih := orE_map f (e' :: es) r
    show (match f e r s with
      | some (.bl false, s1) => orE f (e' :: es) r s1
      | some (.bl true, s1) => some (.bl true, s1)
      | _ => none) = (match f e r s with
      | some (.bl false, s1) => mOr ((e' :: es).map f) r s1
      | some (.bl true, s1) => some (.bl true, s1)
      | _ => none)
    simp only [ih]
theorem andT_map (f : Expr → Ts) : ∀ (vs : List Expr) (r : Rho) (s : S), andT f vs r s = tAnd (vs.map f) r s
  | [], _, _ => rfl
  | [_], _, _ => rfl
  | e :: e' :: es, r, s => by
    have ih := andT_map f (e' :: es) r
    show (match f e r s with
      | some (true, s1) => andT f (e' :: es) r s1
      | some (false, s1) => some (false, s1)
      | none => none) = (match f e r s with
      | some (true, s1) => tAnd ((e' :: es).map f) r s1
      | some (false, s1) => some (false, s1)
      | none => none)
    simp only [ih]
theorem orT_map (f : Expr → Ts) : ∀ (vs : List Expr) (r : Rho) (s : S), orT f vs r s = tOr (vs.map f) r s
  | [], _, _ => rfl
  | [_], _, _ => rfl
  | e :: e' :: es, r, s => by
    have ih := orT_map f (e' :: es) r
    show (match f e r s with
      | some (false, s1) => orT f (e' :: es) r s1
      | some (true, s1) => some (true, s1)
      | none => none) = (match f e r s with
      | some (false, s1) => tOr ((e' :: es).map f) r s1
      | some (true, s1) => some (true, s1)
      | none => none)
    simp only [ih]
theorem seqE_map (f : Expr → Tm) : ∀ (vs : List Expr) (r : Rho) (s : S), seqE f vs r s = mSeq (vs.map f) r s
  | [], _, _ => rfl
  | e :: es, r, s => by
    have ih := seqE_map f es r
    show (match f e r s with
      | none => none
      | some (d, s1) => match seqE f es r s1 with
        | none => none
        | some (ds, s2) => some (d :: ds, s2)) = (match f e r s with
      | none => none
      | some (d, s1) => match mSeq (es.map f) r s1 with
        | none => none
        | some (ds, s2) => some (d :: ds, s2))
    simp only [ih]
theorem t_and (h : es.map (ev n c) = As) : ev (n + 1) c (.BoolOp .And es p) = mAnd As := by
  funext r s; rw [← h, ← andE_map]; rfl
theorem t_or (h : es.map (ev n c) = As) : ev (n + 1) c (.BoolOp .Or es p) = mOr As := by
  funext r s; rw [← h, ← orE_map]; rfl
theorem t_cmp {op : CmpOp} (h1 : bor (ev n c) c a = A) (h2 : bor (ev n c) c b = B) : ev (n + 1) c (.Compare a [op] [b] p) = mCmp op A B := by
  rw [← h1, ← h2]; rfl
theorem t_cmp2 {op op' : CmpOp} (hs : setE e = false) (h1 : ev n c a = A) (h2 : ev n c b = B) (h3 : ev n c e = E) : ev (n + 1) c (.Compare a [op, op'] [b, e] p) = mCmp2 op op' A B E := by
  rw [← h1, ← h2, ← h3]
  funext r s
  refine (if_neg ?_).trans rfl
  rw [hs]; exact Bool.false_ne_true
theorem t_ife {t : Ts} (h1 : evT n c e = t) (h2 : ev n c a = A) (h3 : ev n c b = B) : ev (n + 1) c (.IfExp e a b p) = mIfE t A B := by
  rw [← h1, ← h2, ← h3]; rfl
theorem t_tup (h : es.map (ev n c) = As) : ev (n + 1) c (.Tuple es k p) = mTup As := by
  funext r s
  show (match seqE (ev n c) es r s with
      | some (ds, s1) => if ds.length ≤ line then some (.tup ds, s1) else none
      | none => none : Option (D × S)) = _
  rw [← h, seqE_map]; rfl
theorem t_lst (h : es.map (ev n c) = As) : ev (n + 1) c (.List es p) = mLst As := by
  funext r s
  show (match seqE (ev n c) es r s with
      | some (ds, s1) => if ds.length ≤ line then some (.lst ds, s1) else none
      | none => none : Option (D × S)) = _
  rw [← h, seqE_map]; rfl
theorem t_sl {lo hi : Option Expr} {Lo Hi : Option Tm} (h : bor (ev n c) c a = A) (h1 : lo.map (ev n c) = Lo) (h2 : hi.map (ev n c) = Hi) : ev (n + 1) c (.Subscript a (.Slice lo hi none p) q) = mSl A Lo Hi := by
  rw [← h, ← h1, ← h2]
  cases lo <;> cases hi <;> rfl
theorem t_o0 {f : Expr → Tm} : Option.map f none = none := rfl
theorem t_o1 {f : Expr → Tm} (h : f e = A) : Option.map f (some e) = some A := by rw [← h]; rfl
theorem t_key {z : Str} (h : ev n c a = A) : ev (n + 1) c (.Subscript a (.Constant (.str z) k p) q) = mKey A z := by
  rw [← h]; rfl
def isIx : Expr → Bool
  | .Slice _ _ _ _ => false
  | .Constant (.str _) _ _ => false
  | _ => true
theorem t_ix (hi : isIx b = true) (h1 : bor (ev n c) c a = A) (h2 : ev n c b = B) : ev (n + 1) c (.Subscript a b p) = mIx A B := by
  rw [← h1, ← h2]
  cases b with
  | Slice _ _ _ _ => cases hi
  | Constant z _ _ => cases z <;> first | rfl | cases hi
  | _ => rfl
theorem t_call {g : Str} {F : Sm} (hf : fnB c g = true) (h : es.map (ev n c) = As) (hF : c.F g = F) : ev (n + 1) c (.Call (.Name g p) es [] q) = mCall F As := by
  funext r s
  refine (if_pos hf).trans ?_
  rw [← h, hF]
  cases es with
  | nil => rfl
  | cons a es =>
    show (match seqE (ev n c) (a :: es) r s with
          | some (ds, s1) => F ds s1
          | none => none) = _
    rw [seqE_map]; rfl
theorem t_blt {g : Str} (hf : fnB c g = false ∧ clsB c g = false) (hb : bltB c g = true) (hc : callB g = true) (he : es.isEmpty = false) (h : es.map (bor (ev n c) c) = As) : ev (n + 1) c (.Call (.Name g p) es [] q) = mBlt g As := by
  funext r s
  refine (if_neg (by rw [hf.1]; exact Bool.false_ne_true)).trans ((if_neg (by rw [hf.2]; exact Bool.false_ne_true)).trans ((if_pos hb).trans ((if_pos hc).trans ?_)))
  rw [← h]
  cases es with
  | nil => cases he
  | cons a es =>
    show (match seqE (bor (ev n c) c) (a :: es) r s with
            | some (ds, s1) => (bltD g ds).map fun d => (d, s1)
            | none => none) = _
    rw [seqE_map]; rfl
def instK (t : Str) : Option String := if t = "int" then some "int" else if t = "bool" then some "bool" else if t = "tuple" then some "tuple" else if t = "list" then some "list" else none
theorem t_mk {g : Str} (hf : fnB c g = false ∧ clsB c g = true) (he : es.isEmpty = false) (h : es.map (ev n c) = As) : ev (n + 1) c (.Call (.Name g p) es [] q) = mMk As := by
  funext r s
  refine (if_neg (by rw [hf.1]; exact Bool.false_ne_true)).trans ((if_pos hf.2).trans ?_)
  rw [← h]
  cases es with
  | nil => cases he
  | cons a es =>
    show (match seqE (ev n c) (a :: es) r s with
            | some (ds, s1) => if ds.length = 4 then some (.obj ds, s1) else none
            | none => none : Option (D × S)) = _
    rw [seqE_map]; rfl
theorem t_mt {m : Str} {F : Sm} (hm : (mtB c m && (decide (es.length < 30) && (u.endLine == q.line))) = true) (h : ev n c (.Name x w) = A) (h2 : es.map (ev n c) = As) (hF : c.Mt m = F) : ev (n + 1) c (.Call (.Attribute (.Name x w) m u) es [] q) = mMt F A As := by
  funext r s
  refine (if_pos hm).trans ?_
  rw [← h, ← h2, hF]
  cases es with
  | nil => 
    show (match ev n c (.Name x w) r s with
        | some (.obj l, s1) => F [.obj l] s1
        | _ => none : Option (D × S)) = _
    unfold mMt
    cases ev n c (.Name x w) r s with
    | none => rfl
    | some y => cases y with | mk d s1 => cases d <;> rfl
  | cons a es =>
    show (match ev n c (.Name x w) r s with
        | some (.obj l, s1) => match seqE (ev n c) (a :: es) r s1 with
            | some (ds, s2) => F (.obj l :: ds) s2
            | none => none
        | _ => none : Option (D × S)) = _
    unfold mMt
    cases ev n c (.Name x w) r s with
    | none => rfl
    | some y =>
      cases y with
      | mk d s1 =>
        cases d with
        | obj l =>
          dsimp only
          rw [seqE_map]
          try rfl
        | _ => rfl
theorem t_inst {t : Str} {z : String} (hf : fnB c "isinstance" = false ∧ clsB c "isinstance" = false) (hb : bltB c "isinstance" = true) (ht : bltB c t = true) (hz : instK t = some z) (h : ev n c a = A) : ev (n + 1) c (.Call (.Name "isinstance" p) [a, .Name t w] [] q) = mInst z A := by
  funext r s
  refine (if_neg (by rw [hf.1]; exact Bool.false_ne_true)).trans ((if_neg (by rw [hf.2]; exact Bool.false_ne_true)).trans <| (if_pos hb).trans ((if_neg (by decide)).trans ((if_pos rfl).trans ((if_pos ht).trans ?_))))
  rw [← h]
  show (match ev n c a r s with
      | some (d, s1) => match tyD d with
        | some y => if t = "int" then (L2.kitB y "int").map fun b => (.bl b, s1)
          else if t = "bool" then (L2.kitB y "bool").map fun b => (.bl b, s1)
          else if t = "tuple" then (L2.kitB y "tuple").map fun b => (.bl b, s1)
          else if t = "list" then (L2.kitB y "list").map fun b => (.bl b, s1)
          else none
        | none => none
      | none => none : Option (D × S)) = (match ev n c a r s with
      | some (d, s1) => match tyD d with
        | some y => (L2.kitB y z).map fun b => (.bl b, s1)
        | none => none
      | none => none : Option (D × S))
  generalize ev n c a r s = o
  cases o with
  | none => rfl
  | some q =>
    cases q with
    | mk d s1 =>
      dsimp only
      cases tyD d with
      | none => rfl
      | some y =>
        dsimp only
        unfold instK at hz
        split at hz
        · rename_i e; cases hz; rw [if_pos e]
        · rename_i e1
          rw [if_neg e1]
          split at hz
          · rename_i e; cases hz; rw [if_pos e]
          · rename_i e2
            rw [if_neg e2]
            split at hz
            · rename_i e; cases hz; rw [if_pos e]
            · rename_i e3
              rw [if_neg e3]
              split at hz
              · rename_i e; cases hz; rw [if_pos e]
              · cases hz
theorem t_dict {k1 k2 k3 k4 : Str} {a1 a2 a3 a4 : Nat} {p1 p2 p3 p4 : Pos} {e1 e2 e3 e4 : Expr} {A1 A2 A3 A4 : Tm} (h : k1 = "numbers" ∧ k2 = "at" ∧ k3 = "rest" ∧ k4 = "seed") (h1 : ev n c e1 = A1) (h2 : ev n c e2 = A2) (h3 : ev n c e3 = A3) (h4 : ev n c e4 = A4) :
    ev (n + 1) c (.Dict [some (.Constant (.str k1) a1 p1), some (.Constant (.str k2) a2 p2), some (.Constant (.str k3) a3 p3), some (.Constant (.str k4) a4 p4)] [e1, e2, e3, e4] p) = mDict [A1, A2, A3, A4] := by
  rw [← h1, ← h2, ← h3, ← h4]
  funext r s
  cases s with
  | none => exact (if_pos h).trans rfl
  | some t => rfl
/-! sources, targets, tests -/
variable {tg : Expr}
theorem s_rng (hb : bltB c "range" = true) (h : f a = A) : srcE f c tg (.Call (.Name "range" p) [a] [] q) = mRng A := by
  funext r s
  rw [← h]
  unfold srcE
  dsimp only
  rw [if_pos rfl, if_pos hb]
  rfl
theorem s_rng2 (hb : bltB c "range" = true) (h : f a = A) (h2 : f b = B) : srcE f c tg (.Call (.Name "range" p) [a, b] [] q) = mRng2 A B := by
  funext r s
  rw [← h, ← h2]
  unfold srcE
  dsimp only
  rw [if_pos rfl, if_pos hb]
  rfl
theorem s_zip (hb : (bltB c "zip" && tupE tg) = true) (h : f a = A) (h2 : f b = B) : srcE f c tg (.Call (.Name "zip" p) [a, b] [] q) = mZip A B := by
  funext r s
  rw [← h, ← h2]
  unfold srcE
  dsimp only
  rw [if_neg (by decide), if_pos rfl, if_pos hb]
  rfl
def isIt : Expr → Bool
  | .Call (.Name g _) _ [] _ => !decide (g = ("range" : Str)) && !decide (g = ("zip" : Str))
  | _ => true
theorem s_its (hi : isIt e = true) (h : f e = A) : srcE f c tg e = mIts A := by
  funext r s
  rw [← h]
  show srcE f c tg e r s = genE f e r s
  unfold srcE
  split
  · rename_i g p as q
    have hi : (!decide (g = ("range" : Str)) && !decide (g = ("zip" : Str))) = true := hi
    rw [Bool.and_eq_true, Bool.not_eq_true', Bool.not_eq_true', decide_eq_false_iff_not, decide_eq_false_iff_not] at hi
    rw [if_neg hi.1, if_neg hi.2]
  · rfl
theorem d_nm (h : dstOf c x = some i) : bindT c (.Name x p) = mBd i := by
  funext d r
  show (dstOf c x).map (fun i => r.set i (.v d)) = _
  rw [h]; rfl
theorem d_tup {is : List Nat} (h : tgtL c es = some is) : bindT c (.Tuple es k p) = mBdT is := by
  funext d r
  show (match tgtL c es, d with
    | some is, .tup ds => setAll is ds r
    | _, _ => none) = _
  rw [h]
  cases d <;> rfl
theorem i_0 {f : Expr → Ts} : ifsT f [] = mTrue := rfl
theorem i_1 {f : Expr → Ts} {t : Ts} (h : f e = t) : ifsT f [e] = t := by rw [← h]; rfl
theorem t_comp {it : Expr} {ifs : List Expr} {sc : Scope} {src : Rho → S → Option (List D × S)} {bd : D → Rho → Option Rho} {t : Ts} {own : List Nat} (hb : L2.blkC c.N c.sc sc (ownOf c tg) = true) (ho : (ownOf c tg).map (·.2) = own)
    (h1 : srcE (bor (ev n c) c) c tg it = src) (h2 : bindT (c.blk sc) tg = bd) (h3 : ifsT (evT n (c.blk sc)) ifs = t) (h4 : ev n (c.blk sc) e = E) : ev (n + 1) c (.ListComp e [⟨tg, it, ifs, 0⟩] sc p) = mComp src bd t E own := by
  rw [← h1, ← h2, ← h3, ← h4, ← ho]
  funext r s
  exact (if_pos hb).trans rfl
/-! tests -/
variable {ts : List Ts} {t : Ts}
theorem e_not (h : evT n c a = t) : evT (n + 1) c (.UnaryOp .Not a p) = tNot t := by rw [← h]; rfl
theorem e_and (h : es.map (evT n c) = ts) : evT (n + 1) c (.BoolOp .And es p) = tAnd ts := by
  funext r s; rw [← h, ← andT_map]; rfl
theorem e_or (h : es.map (evT n c) = ts) : evT (n + 1) c (.BoolOp .Or es p) = tOr ts := by
  funext r s; rw [← h, ← orT_map]; rfl
def isTE : Expr → Bool
  | .UnaryOp .Not _ _ => false
  | .BoolOp _ _ _ => false
  | .IfExp _ _ _ _ => false
  | .NamedExpr _ _ _ => false
  | _ => true
theorem e_e (hi : isTE e = true) (h : ev n c e = A) : evT (n + 1) c e = tE A := by
  rw [← h]
  cases e with
  | UnaryOp op a p => cases op <;> first | rfl | cases hi
  | BoolOp _ _ _ => cases hi
  | IfExp _ _ _ _ => cases hi
  | NamedExpr _ _ _ => cases hi
  | _ => rfl
/-! statements -/
variable {fr : List Nat} {st : Stmt} {sts : List Stmt} {ms : List CH.St}
theorem exs_map (f : Stmt → CH.St) : ∀ (sts : List Stmt) (r : Rho) (s : S), exs f sts r s = sq (sts.map f) r s
  | [], _, _ => rfl
  | st :: sts, r, s => by
    have ih := exs_map f sts
    show (match f st r s with
      | none => none
      | some (.rt d s1) => some (.rt d s1)
      | some (.nx r1 s1) => exs f sts r1 s1 : Option Out) = (match f st r s with
      | none => none
      | some (.rt d s1) => some (.rt d s1)
      | some (.nx r1 s1) => sq (sts.map f) r1 s1 : Option Out)
    simp only [ih]
theorem exs_sq (h : sts.map (ex n c) = ms) : exs (ex n c) sts = sq ms := by
  funext r s; rw [exs_map, h]
theorem a_no {e1 e2 : Option Expr} : ex (n + 1) c (.Raise e1 e2 p) = sNo := rfl
theorem a_pass : ex (n + 1) c (.Pass p) = sPass := rfl
theorem a_retN : ex (n + 1) c (.Return none p) = sRetN := rfl
theorem a_ret (h : ev n c e = A) : ex (n + 1) c (.Return (some e) p) = sRet A := by rw [← h]; rfl
def isAp : Expr → Bool
  | .Call (.Attribute (.Name _ _) _ _) [_] [] _ => true
  | _ => false
theorem a_ex (hi : isAp e = false) (hc : callE e = true) (hg : gr n c e = fr) (h : ev n c e = A) : ex (n + 1) c (.Expr e p) = sEx fr A := by
  rw [← h, ← hg]
  funext r s
  unfold ex
  dsimp only
  split
  · cases hi
  · exact (if_pos hc).trans rfl
theorem a_app {m : Str} (hm : m = "append" ∧ (u.endLine == q.line) = true) (hx : slotOf c x = some i) (hg : gr n c a = fr) (h : ev n c a = A) : ex (n + 1) c (.Expr (.Call (.Attribute (.Name x w) m u) [a] [] q) p) = sApp i fr A := by
  rw [← h, ← hg]
  funext r s
  refine (if_pos hm).trans ?_
  rw [hx]; rfl
theorem a_set (hx : dstOf c x = some i) (hn : (c.M.contains i && fresh c e) = false) (hg : gr n c e = fr) (h : ev n c e = A) : ex (n + 1) c (.Assign [.Name x p] e q) = sSet i fr A := by
  rw [← h, ← hg]
  funext r s
  show (match dstOf c x with
      | some i => match ev n c e (freeze r (gr n c e)) s with
        | some (d, s1) => some (.nx ((freeze r (gr n c e)).set i (mkS c i e d)) s1)
        | none => none
      | none => none : Option Out) = _
  rw [hx]
  have : ∀ d, mkS c i e d = .v d := fun d => by unfold mkS; rw [if_neg (by rw [hn]; exact Bool.false_ne_true)]
  simp only [this]
  rfl
theorem a_own (hx : dstOf c x = some i) (hn : (c.M.contains i && fresh c e) = true) (hg : gr n c e = fr) (h : ev n c e = A) : ex (n + 1) c (.Assign [.Name x p] e q) = sOwn i fr A := by
  rw [← h, ← hg]
  funext r s
  show (match dstOf c x with
      | some i => match ev n c e (freeze r (gr n c e)) s with
        | some (d, s1) => some (.nx ((freeze r (gr n c e)).set i (mkS c i e d)) s1)
        | none => none
      | none => none : Option Out) = _
  rw [hx]
  have : ∀ d, mkS c i e d = ownD d := fun d => by unfold mkS; rw [if_pos hn]; rfl
  simp only [this]
  rfl
theorem a_par {y : Str} {k2 : Nat} (ht : (tupE (.Tuple [a, b] k2 w) && !celB c [.Name x p, .Name y q]) = true) (hp : parOk c x y p q a b = true) (hi : idx c.N x = some i) (hj : idx c.N y = some j) (hij : i ≠ j) (hg : gr n c (.Tuple [a, b] k2 w) = fr) (h1 : ev n c a = A) (h2 : ev n c b = B) {u' : Pos} :
    ex (n + 1) c (.Assign [.Tuple [.Name x p, .Name y q] k u] (.Tuple [a, b] k2 w) u') = sPar i j fr A B := by
  rw [← h1, ← h2, ← hg]
  funext r s
  refine (if_pos ht).trans ((if_pos hp).trans ?_)
  rw [hi, hj]
  refine (if_neg hij).trans ?_
  rw [seqE_map]; rfl
theorem a_tup {is : List Nat} (ht : (tupE e && !celB c es) = false) (hi : tgtL c es = some is) (hg : gr n c e = fr) (h : ev n c e = A) : ex (n + 1) c (.Assign [.Tuple es k p] e q) = sTup is fr A := by
  rw [← h, ← hg]
  funext r s
  refine (if_neg (by rw [ht]; exact Bool.false_ne_true)).trans ?_
  rw [d_tup hi]; rfl
theorem a_st {iE : Expr} {I : Tm} (hx : slotOf c x = some j) (hi : isIx iE = true) (hg : gr n c e = fr) (h : ev n c e = A) (h2 : ev n c iE = I) : ex (n + 1) c (.Assign [.Subscript (.Name x p) iE u] e q) = sSt j fr none I A := by
  rw [← h, ← hg, ← h2]
  funext r s
  show (match slotOf c x with
      | none => none
      | some j => _) = _
  rw [hx]
  cases iE with
  | Slice _ _ _ _ => cases hi
  | Constant z _ _ => cases z <;> first | rfl | cases hi
  | _ => rfl
theorem a_dk {z : Str} {I : Tm} (hx : slotOf c x = some j) (hg : gr n c e = fr) (h : ev n c e = A) (h2 : ev n c (.Constant (.str z) k w) = I) : ex (n + 1) c (.Assign [.Subscript (.Name x p) (.Constant (.str z) k w) u] e q) = sSt j fr (some z) I A := by
  rw [← h, ← hg, ← h2]
  funext r s
  show (match slotOf c x with
      | none => none
      | some j => _) = _
  rw [hx]
  rfl
theorem a_if {a' b' : List Stmt} {ms' : List CH.St} (hg : gr n c e = fr) (h : evT n c e = t) (h1 : a'.map (ex n c) = ms) (h2 : b'.map (ex n c) = ms') : ex (n + 1) c (.If e a' b' p) = sIf fr t ms ms' := by
  unfold sIf
  rw [← exs_sq h1, ← exs_sq h2, ← h, ← hg]; rfl
theorem a_wh {b' : List Stmt} (h : evT n c e = t) (h1 : b'.map (ex n c) = ms) : ex (n + 1) c (.While e b' [] p) = sWh t ms := by
  unfold sWh
  rw [← exs_sq h1, ← h]; rfl
theorem a_for {b' : List Stmt} {src : Rho → S → Option (List D × S)} {bd : D → Rho → Option Rho} (hg : gr n c e = fr) (h : srcE (ev n c) c tg e = src) (h2 : bindT c tg = bd) (h1 : b'.map (ex n c) = ms) : ex (n + 1) c (.For tg e b' [] p) = sFor fr src bd ms := by
  unfold sFor
  rw [← exs_sq h1, ← h, ← h2, ← hg]; rfl
theorem a_def {m np : Nat} (h : sts.map (ex 60 c) = ms) (hn : c.N.length = m) : evDef c np sts = dfn m np ms := by
  unfold evDef dfn
  rw [exs_sq h, ← hn]
  rfl
end
end CH

namespace CH
open PySem
@[simp] def mdivisor : List St :=
  [sSet 0 [] (mBlt "abs" [(mB 0)]),
   sSet 1 [] (mBlt "abs" [(mB 1)]),
   sWh (tE (mCmp .NotEq (mB 1) (mK (.int 0))))
     [sPar 0 1 [1] (mV 1) (mBin .Mod (mB 0) (mB 1))],
   sRet (mV 0)]
def fdivisor : Sm := dfn 2 2 mdivisor
@[simp] def mlowest : List St :=
  [sSet 1 [] (mK (.int 0)),
   sFor [0] (mIts (mV 0)) (mBd 2)
     [sSet 1 [1, 2] (mCall fdivisor [(mV 1), (mV 2)])],
   sIf [] (tE (mCmp .Lt (mB 1) (mK (.int 2))))
     [sRet (mBlt "tuple" [(mB 0)])]
     [],
   sRet (mBlt "tuple" [(mComp (mIts (mB 0)) (mBd 2) mTrue (mBin .FloorDiv (mB 2) (mB 1)) [2])])]
def flowest : Sm := dfn 3 1 mlowest
@[simp] def m_law_begun : List St :=
  [sSet 1 [] (mK (.int 0)),
   sFor [0] (mIts (mV 0)) (mBd 2)
     [sSet 1 [] (mBin .Mod (mBin .Add (mBin .Add (mBin .Mult (mB 1) (mK (.int 48271))) (mBin .Mult (mB 2) (mK (.int 69621)))) (mK (.int 11))) (mK (.int 2147483647)))],
   sRet (mDict [(mV 0), (mK (.int 0)), (mK (.int 0)), (mBin .Mult (mB 1) (mBlt "int" [(mCmp .Gt (mBlt "len" [(mB 0)]) (mK (.int 2)))]))])]
def f_law_begun : Sm := dfn 3 1 m_law_begun
@[simp] def m_law_taken : List St :=
  [sIf [] (tE (mCmp .Gt (mKey (mV 0) "rest") (mK (.int 0))))
     [sSet 2 [] (mBin .Mod (mKey (mV 0) "rest") (mB 1)),
      sSt 0 [] (some "rest") (mK (.str "rest")) (mBin .FloorDiv (mKey (mV 0) "rest") (mB 1)),
      sRet (mV 2)]
     [],
   sSt 0 [] (some "at") (mK (.str "at")) (mBin .Add (mKey (mV 0) "at") (mK (.int 1))),
   sIf [] (tE (mCmp .LtE (mKey (mV 0) "at") (mBlt "len" [(mKey (mV 0) "numbers")])))
     [sSet 3 [] (mIx (mKey (mV 0) "numbers") (mBin .Sub (mKey (mV 0) "at") (mK (.int 1)))),
      sSt 0 [] (some "rest") (mK (.str "rest")) (mBin .Mult (mBin .FloorDiv (mB 3) (mB 1)) (mBlt "int" [(mCmp .GtE (mB 3) (mBin .Pow (mK (.int 10)) (mK (.int 18))))])),
      sRet (mBin .Mod (mB 3) (mB 1))]
     [],
   sSt 0 [] (some "seed") (mK (.str "seed")) (mBin .Mod (mBin .Mult (mKey (mV 0) "seed") (mK (.int 48271))) (mK (.int 2147483647))),
   sRet (mIfE (tE (mCmp .Gt (mB 1) (mBin .Pow (mK (.int 10)) (mK (.int 8))))) (mBin .Mod (mBin .Pow (mBin .FloorDiv (mKey (mV 0) "seed") (mK (.int 7))) (mK (.int 3))) (mB 1)) (mBin .Mod (mBin .FloorDiv (mKey (mV 0) "seed") (mK (.int 7))) (mB 1)))]
def f_law_taken : Sm := dfn 4 2 m_law_taken
@[simp] def m_law_number : List St :=
  [sSet 2 [0] (mBin .Sub (mCall f_law_taken [(mV 0), (mBin .Add (mBin .Mult (mK (.int 2)) (mB 1)) (mK (.int 1)))]) (mB 1)),
   sIf [0] (tAnd [(tE (mCmp .Eq (mB 2) (mB 1))), (tE (mCmp .Eq (mCall f_law_taken [(mV 0), (mK (.int 4))]) (mK (.int 3))))])
     [sRet (mBin .Add (mBin .Sub (mCall f_law_taken [(mV 0), (mBin .Sub (mBin .Mult (mK (.int 2)) (mBin .Pow (mK (.int 10)) (mK (.int 12)))) (mK (.int 1)))]) (mBin .Pow (mK (.int 10)) (mK (.int 12)))) (mK (.int 1)))]
     [],
   sRet (mV 2)]
def f_law_number : Sm := dfn 3 2 m_law_number
@[simp] def m_law_numbers : List St :=
  [sRet (mBlt "tuple" [(mComp (mRng (mB 1)) (mBd 3) mTrue (mCall f_law_number [(mV 0), (mV 2)]) [3])])]
def f_law_numbers : Sm := dfn 4 3 m_law_numbers
@[simp] def m_law_whole : List St :=
  [sRet (mAnd [(mInst "int" (mV 0)), (mNot (mInst "bool" (mV 0)))])]
def f_law_whole : Sm := dfn 1 1 m_law_whole
@[simp] def m_law_is_numbers : List St :=
  [sRet (mAnd [(mInst "tuple" (mV 0)), (mCmp .Eq (mBlt "len" [(mB 0)]) (mB 1)), (mBlt "all" [(mComp (mIts (mB 0)) (mBd 2) mTrue (mCall f_law_whole [(mV 2)]) [2])])])]
def f_law_is_numbers : Sm := dfn 3 2 m_law_is_numbers
@[simp] def mblend : List St :=
  [sRet (mCall flowest [(mComp (mZip (mB 0) (mB 2)) (mBdT [4, 5]) mTrue (mBin .Add (mBin .Mult (mB 1) (mB 4)) (mBin .Mult (mB 3) (mB 5))) [4, 5])])]
def fblend : Sm := dfn 6 4 mblend
@[simp] def mrank : List St :=
  [sSet 1 [] (mComp (mIts (mB 0)) (mBd 6) (tE (mBlt "any" [(mComp (mIts (mB 6)) (mBd 8) mTrue (mCmp .NotEq (mB 8) (mK (.int 0))) [8])])) (mV 6) [6]),
   sSet 2 [] (mK (.int 0)),
   sWh (tE (mCmp .Gt (mBlt "len" [(mB 1)]) (mK (.int 0))))
     [sSet 2 [] (mBin .Add (mB 2) (mK (.int 1))),
      sSet 3 [] (mIx (mB 1) (mK (.int 0))),
      sSet 4 [] (mIx (mComp (mRng (mBlt "len" [(mB 3)])) (mBd 7) (tE (mCmp .NotEq (mIx (mB 3) (mV 7)) (mK (.int 0)))) (mV 7) [7]) (mK (.int 0))),
      sSet 5 [4, 3, 4] (mComp (mIts (mSl (mB 1) (some (mK (.int 1))) none)) (mBd 6) mTrue (mCall fblend [(mV 6), (mIx (mB 3) (mV 4)), (mV 3), (mBin .Sub (mK (.int 0)) (mIx (mB 6) (mV 4)))]) [6]),
      sSet 1 [] (mComp (mIts (mB 5)) (mBd 6) (tE (mBlt "any" [(mComp (mIts (mB 6)) (mBd 8) mTrue (mCmp .NotEq (mB 8) (mK (.int 0))) [8])])) (mV 6) [6])],
   sRet (mV 2)]
def frank : Sm := dfn 9 1 mrank
@[simp] def m_law_rank : List St :=
  [sSet 1 [6] (mComp (mIts (mB 0)) (mBd 6) (tE (mCmp .NotEq (mComp (mIts (mB 6)) (mBd 9) (tE (mCmp .NotEq (mB 9) (mK (.int 0)))) (mV 9) [9]) (mLst []))) (mBlt "list" [(mB 6)]) [6]),
   sSet 2 [] (mK (.int 0)),
   sWh (tE (mCmp .NotEq (mB 1) (mLst [])))
     [sSet 2 [] (mBin .Add (mB 2) (mK (.int 1))),
      sSet 3 [] (mIx (mB 1) (mK (.int 0))),
      sSet 4 [] (mIx (mComp (mRng (mBlt "len" [(mB 3)])) (mBd 8) (tE (mCmp .NotEq (mIx (mB 3) (mV 8)) (mK (.int 0)))) (mV 8) [8]) (mK (.int 0))),
      sOwn 5 [] (mLst []),
      sFor [] (mIts (mSl (mB 1) (some (mK (.int 1))) none)) (mBd 6)
        [sSet 7 [4, 4] (mComp (mRng (mBlt "len" [(mB 6)])) (mBd 8) mTrue (mBin .Sub (mBin .Mult (mIx (mB 3) (mV 4)) (mIx (mB 6) (mV 8))) (mBin .Mult (mIx (mB 6) (mV 4)) (mIx (mB 3) (mV 8)))) [8]),
         sIf [] (tE (mCmp .NotEq (mComp (mIts (mB 7)) (mBd 9) (tE (mCmp .NotEq (mB 9) (mK (.int 0)))) (mV 9) [9]) (mLst [])))
           [sApp 5 [7] (mV 7)]
           []],
      sSet 1 [5] (mV 5)],
   sRet (mV 2)]
def f_law_rank : Sm := dfn 10 1 m_law_rank
@[simp] def mdot : List St :=
  [sRet (mBlt "sum" [(mComp (mZip (mB 0) (mB 1)) (mBdT [2, 3]) mTrue (mBin .Mult (mB 2) (mB 3)) [2, 3])])]
def fdot : Sm := dfn 4 2 mdot
@[simp] def mopposite : List St :=
  [sRet (mBlt "tuple" [(mComp (mIts (mB 0)) (mBd 1) mTrue (mBin .Sub (mK (.int 0)) (mB 1)) [1])])]
def fopposite : Sm := dfn 2 1 mopposite
@[simp] def munit : List St :=
  [sRet (mBlt "tuple" [(mComp (mRng (mB 0)) (mBd 2) mTrue (mBlt "int" [(mCmp .Eq (mB 2) (mB 1))]) [2])])]
def funit : Sm := dfn 3 2 munit
@[simp] def mtight_of : List St :=
  [sRet (mComp (mRng (mBlt "len" [(mB 0)])) (mBd 2) (tE (mCmp .Eq (mCall fdot [(mIx (mB 0) (mV 2)), (mV 1)]) (mK (.int 0)))) (mV 2) [2])]
def ftight_of : Sm := dfn 3 2 mtight_of
@[simp] def mhas_all : List St :=
  [sFor [1] (mIts (mV 1)) (mBd 2)
     [sIf [] (tE (mCmp .NotIn (mB 2) (mB 0)))
        [sRet (mK (.bl false))]
        []],
   sRet (mK (.bl true))]
def fhas_all : Sm := dfn 3 2 mhas_all
@[simp] def mside_by_side : List St :=
  [sSet 4 [1, 2] (mComp (mIts (mIx (mB 0) (mV 1))) (mBd 6) (tE (mCmp .In (mB 6) (mIx (mB 0) (mV 2)))) (mV 6) [6]),
   sIf [] (tE (mCmp .Lt (mBlt "len" [(mB 4)]) (mB 3)))
     [sRet (mK (.bl false))]
     [],
   sFor [] (mRng (mBlt "len" [(mB 0)])) (mBd 5)
     [sIf [5, 4] (tAnd [(tE (mCmp .NotEq (mB 5) (mB 1))), (tE (mCmp .NotEq (mB 5) (mB 2))), (tE (mCall fhas_all [(mIx (mB 0) (mV 5)), (mV 4)]))])
        [sRet (mK (.bl false))]
        []],
   sRet (mK (.bl true))]
def fside_by_side : Sm := dfn 7 4 mside_by_side
@[simp] def mturned_line : List St :=
  [sIf [2, 3] (tE (mCmp .Lt (mCall fdot [(mV 2), (mV 3)]) (mK (.int 0))))
     [sSet 3 [3] (mCall fopposite [(mV 3)])]
     [],
   sSet 4 [2, 3] (mCall fdot [(mV 2), (mV 3)]),
   sOwn 5 [] (mLst []),
   sFor [0] (mIts (mV 0)) (mBd 6)
     [sIf [3] (tAnd [(tE (mCmp .NotEq (mB 6) (mB 3))), (tE (mCmp .NotEq (mB 6) (mCall fopposite [(mV 3)])))])
        [sApp 5 [6, 4, 3, 2, 6] (mCall fblend [(mV 6), (mV 4), (mV 3), (mBin .Sub (mK (.int 0)) (mCall fdot [(mV 2), (mV 6)]))])]
        []],
   sSet 7 [4, 3, 2] (mComp (mIts (mB 1)) (mBd 8) mTrue (mCall fblend [(mV 8), (mV 4), (mV 3), (mBin .Sub (mK (.int 0)) (mCall fdot [(mV 2), (mV 8)]))]) [8]),
   sRet (mTup [(mV 5), (mBin .Add (mB 7) (mLst [(mV 3)]))])]
def fturned_line : Sm := dfn 9 4 mturned_line
@[simp] def mcut_rays : List St :=
  [sSet 4 [1] (mComp (mIts (mB 0)) (mBd 8) mTrue (mCall fdot [(mV 1), (mV 8)]) [8]),
   sOwn 5 [] (mComp (mRng (mBlt "len" [(mB 0)])) (mBd 9) (tE (mCmp .GtE (mIx (mB 4) (mV 9)) (mK (.int 0)))) (mIx (mB 0) (mV 9)) [9]),
   sFor [] (mRng (mBlt "len" [(mB 0)])) (mBd 6)
     [sFor [] (mRng (mBlt "len" [(mB 0)])) (mBd 7)
        [sIf [6, 7, 2, 6, 7, 3] (tAnd [(tE (mCmp .Gt (mIx (mB 4) (mV 6)) (mK (.int 0)))), (tE (mCmp .Lt (mIx (mB 4) (mV 7)) (mK (.int 0)))), (tE (mCall fside_by_side [(mV 2), (mV 6), (mV 7), (mV 3)]))])
           [sApp 5 [6, 7, 7, 6] (mCall fblend [(mIx (mB 0) (mV 6)), (mBin .Sub (mK (.int 0)) (mIx (mB 4) (mV 7))), (mIx (mB 0) (mV 7)), (mIx (mB 4) (mV 6))])]
           []]],
   sRet (mV 5)]
def fcut_rays : Sm := dfn 10 4 mcut_rays
@[simp] def mcone : List St :=
  [sSet 2 [1, 1, 4] (mComp (mRng (mB 1)) (mBd 4) mTrue (mCall funit [(mV 1), (mV 4)]) [4]),
   sSet 3 [] (mLst []),
   sFor [] (mRng (mBlt "len" [(mB 0)])) (mBd 4)
     [sSet 5 [4] (mComp (mIts (mB 2)) (mBd 7) (tE (mCmp .NotEq (mCall fdot [(mIx (mB 0) (mV 4)), (mV 7)]) (mK (.int 0)))) (mV 7) [7]),
      sIf [] (tE (mCmp .Gt (mBlt "len" [(mB 5)]) (mK (.int 0))))
        [sTup [2, 3] [2, 3, 4] (mCall fturned_line [(mV 2), (mV 3), (mIx (mB 0) (mV 4)), (mIx (mB 5) (mK (.int 0)))])]
        [sSet 6 [4] (mComp (mIts (mB 3)) (mBd 8) mTrue (mCall ftight_of [(mSl (mB 0) none (some (mV 4))), (mV 8)]) [8]),
         sSet 3 [3, 4, 6] (mCall fcut_rays [(mV 3), (mIx (mB 0) (mV 4)), (mV 6), (mBin .Sub (mBin .Sub (mB 1) (mBlt "len" [(mB 2)])) (mK (.int 2)))])]],
   sRet (mTup [(mV 2), (mV 3)])]
def fcone : Sm := dfn 9 2 mcone
@[simp] def m_law_dot : List St :=
  [sSet 2 [] (mK (.int 0)),
   sFor [] (mRng (mBlt "len" [(mB 0)])) (mBd 3)
     [sSet 2 [3, 3] (mBin .Add (mB 2) (mBin .Mult (mIx (mB 0) (mV 3)) (mIx (mB 1) (mV 3))))],
   sRet (mV 2)]
def f_law_dot : Sm := dfn 4 2 m_law_dot
@[simp] def m_law_is_low : List St :=
  [sSet 1 [] (mK (.int 0)),
   sFor [0] (mIts (mV 0)) (mBd 2)
     [sSet 3 [] (mBlt "abs" [(mB 2)]),
      sWh (tE (mCmp .NotEq (mB 3) (mK (.int 0))))
        [sPar 1 3 [3] (mV 3) (mBin .Mod (mB 1) (mB 3))]],
   sRet (mCmp .Eq (mB 1) (mK (.int 1)))]
def f_law_is_low : Sm := dfn 4 1 m_law_is_low
@[simp] def m_law_cone_rows : List St :=
  [sOwn 2 [] (mLst []),
   sSet 3 [0, 0, 0] (mIx (mLst [(mCall f_law_taken [(mV 0), (mK (.int 7))]), (mBin .Add (mK (.int 9)) (mCall f_law_taken [(mV 0), (mK (.int 4))]))]) (mBlt "int" [(mAnd [(mCmp .Lt (mB 1) (mK (.int 5))), (mCmp .Eq (mCall f_law_taken [(mV 0), (mK (.int 6))]) (mK (.int 5)))])])),
   sFor [3] (mRng (mV 3)) (mBd 4)
     [sSet 5 [0, 1] (mCall f_law_numbers [(mV 0), (mV 1), (mK (.int 3))]),
      sIf [0] (tAnd [(tE (mCmp .Gt (mBlt "len" [(mB 2)]) (mK (.int 0)))), (tE (mCmp .Eq (mCall f_law_taken [(mV 0), (mK (.int 5))]) (mK (.int 4))))])
        [sSet 5 [] (mBlt "tuple" [(mComp (mIts (mIx (mB 2) (mNeg (mK (.int 1))))) (mBd 6) mTrue (mBin .Sub (mK (.int 0)) (mB 6)) [6])])]
        [],
      sApp 2 [5] (mV 5)],
   sRet (mV 2)]
def f_law_cone_rows : Sm := dfn 7 2 m_law_cone_rows
end CH

set_option maxRecDepth 100000
namespace CH
open PySem
@[simp] theorem b_abs (i : Int) : bltD "abs" [.int i] = some (.int (if i < 0 then -i else i)) := rfl
@[simp] theorem b_len1 (l : List D) : bltD "len" [.tup l] = some (.int l.length) := rfl
@[simp] theorem b_len2 (l : List D) : bltD "len" [.lst l] = some (.int l.length) := rfl
@[simp] theorem b_len3 (l : List Int) : bltD "len" [.scr l] = some (.int l.length) := rfl
@[simp] theorem b_tup1 (l : List D) : bltD "tuple" [.tup l] = some (.tup l) := rfl
@[simp] theorem b_tup2 (l : List D) : bltD "tuple" [.lst l] = some (.tup l) := rfl
@[simp] theorem b_lst1 (l : List D) : bltD "list" [.tup l] = some (.lst l) := rfl
@[simp] theorem b_lst2 (l : List D) : bltD "list" [.lst l] = some (.lst l) := rfl
@[simp] theorem b_int1 (i : Int) : bltD "int" [.int i] = some (.int i) := rfl
@[simp] theorem b_int2 (b : Bool) : bltD "int" [.bl b] = some (.int (if b then 1 else 0)) := rfl
theorem b_sum {l : List D} {q : List Int} (h : asInts l = some q) : bltD "sum" [.lst l] = some (.int q.sum) := by
  show (asInts l).map _ = _
  rw [h]; rfl
theorem b_all {l : List D} {q : List Bool} (h : asBls l = some q) : bltD "all" [.lst l] = some (.bl (q.all id)) := by
  show (asBls l).map _ = _
  rw [h]; rfl
theorem b_any {l : List D} {q : List Bool} (h : asBls l = some q) : bltD "any" [.lst l] = some (.bl (q.any id)) := by
  show (asBls l).map _ = _
  rw [h]; rfl
@[simp] theorem b_max (i j : Int) : bltD "max" [.int i, .int j] = some (.int (if j > i then j else i)) := rfl
theorem asInts_map {α : Type} (f : α → Int) : ∀ l : List α, asInts (l.map fun x => D.int (f x)) = some (l.map f)
  | [] => rfl
  | x :: l => by
    show (asInts (l.map fun x => D.int (f x))).map (f x :: ·) = _
    rw [asInts_map f l]; rfl
theorem asBls_map {α : Type} (f : α → Bool) : ∀ l : List α, asBls (l.map fun x => D.bl (f x)) = some (l.map f)
  | [] => rfl
  | x :: l => by
    show (asBls (l.map fun x => D.bl (f x))).map (f x :: ·) = _
    rw [asBls_map f l]; rfl
@[simp] theorem i_tup (l : List D) : itemsD (.tup l) = some l := rfl
@[simp] theorem i_lst (l : List D) : itemsD (.lst l) = some l := rfl
@[simp] theorem i_scr (l : List Int) : itemsD (.scr l) = some (l.map .int) := rfl
theorem fits_lt {a : Int} (h : fits a = true) : ∃ n, n ≤ 60000000 ∧ (a.natAbs : Int) < 2 ^ n := by
  refine ⟨a.natAbs.log2 + 1, ?_, ?_⟩
  · have := of_decide_eq_true h
    omega
  · have := Nat.lt_log2_self (n := a.natAbs)
    have h2 : ((a.natAbs : Nat) : Int) < ((2 ^ (a.natAbs.log2 + 1) : Nat) : Int) := Int.ofNat_lt.mpr this
    rwa [Int.natCast_pow] at h2
theorem abs_if (a : Int) : (if a < 0 then -a else a) = (a.natAbs : Int) := by
  split <;> omega
theorem gcdI_abs (a b : Int) : gcdI (a.natAbs : Int) (b.natAbs : Int) = gcdI a b := by
  unfold gcdI
  rw [Int.gcd_eq_natAbs_gcd_natAbs, Int.gcd_eq_natAbs_gcd_natAbs, Int.natAbs_natCast, Int.natAbs_natCast]
theorem divisor_ok (a b : Int) (s : S) (h : fits b = true) : fdivisor [.int a, .int b] s = some (.int (gcdI a b), s) := by
  refine dfn_rt rfl ?_
  simp
  obtain ⟨n, h1, h2⟩ := fits_lt h
  rw [abs_if, abs_if, gcd_loop (fun a b => [.v (.int a), .v (.int b)]) ?_ ?_ n _ _ (by omega) (by omega) h2 whF (by unfold whF; omega)]
  · simp [gcdI_abs]
  · intro a b s; simp
  · intro a b s h; simp [o_mod h]
/-! loops over lists -/
theorem forE_inv {bd : D → Rho → Option Rho} {body : Rho → S → Option Out} (I : List D → Rho → S → Prop)
    (h : ∀ x xs r s, I (x :: xs) r s → ∃ r1 r2 s2, bd x r = some r1 ∧ body r1 s = some (.nx r2 s2) ∧ I xs r2 s2) :
    ∀ (xs : List D) (r : Rho) (s : S), I xs r s → ∃ r' s', forE bd body xs r s = some (.nx r' s') ∧ I [] r' s'
  | [], r, s, i => ⟨r, s, rfl, i⟩
  | x :: xs, r, s, i => by
    obtain ⟨r1, r2, s2, h1, h2, h3⟩ := h x xs r s i
    obtain ⟨r', s', h4, h5⟩ := forE_inv I h xs r2 s2 h3
    refine ⟨r', s', ?_, h5⟩
    unfold forE
    rw [h1]
    dsimp only
    rw [h2]
    exact h4
theorem forE_out {bd : D → Rho → Option Rho} {body : Rho → S → Option Out} (I : List D → Rho → S → Prop) (R : D → S → Prop)
    (h : ∀ x xs r s, I (x :: xs) r s → ∃ r1, bd x r = some r1 ∧ ((∃ r2 s2, body r1 s = some (.nx r2 s2) ∧ I xs r2 s2) ∨ ∃ d s2, body r1 s = some (.rt d s2) ∧ R d s2)) :
    ∀ (xs : List D) (r : Rho) (s : S), I xs r s → (∃ r' s', forE bd body xs r s = some (.nx r' s') ∧ I [] r' s') ∨ ∃ d s', forE bd body xs r s = some (.rt d s') ∧ R d s'
  | [], r, s, i => .inl ⟨r, s, rfl, i⟩
  | x :: xs, r, s, i => by
    obtain ⟨r1, h1, h2⟩ := h x xs r s i
    rcases h2 with ⟨r2, s2, h2, h3⟩ | ⟨d, s2, h2, h3⟩
    · have ee : forE bd body (x :: xs) r s = forE bd body xs r2 s2 := by
        rw [forE, h1]
        dsimp only
        rw [h2]
      rw [ee]
      exact forE_out I R h xs r2 s2 h3
    · refine .inr ⟨d, s2, ?_, h3⟩
      rw [forE, h1]
      dsimp only
      rw [h2]
theorem compE_map {α : Type} {bd : D → Rho → Option Rho} {t : Ts} {e : Tm} {r : Rho} {s : S} (f : α → D) (g : α → D) :
    ∀ (l : List α), (∀ x ∈ l, ∃ r1, bd (f x) r = some r1 ∧ t r1 s = some (true, s) ∧ e r1 s = some (g x, s)) → compE bd t e r (l.map f) s = some (l.map g, s)
  | [], _ => rfl
  | x :: l, h => by
    obtain ⟨r1, h1, h2, h3⟩ := h x List.mem_cons_self
    have ih := compE_map f g l fun y hy => h y (List.mem_cons_of_mem _ hy)
    rw [List.map_cons, compE, h1]
    dsimp only
    rw [h2]
    dsimp only
    rw [h3]
    dsimp only
    rw [ih]
    rfl
theorem compE_filter {α : Type} {bd : D → Rho → Option Rho} {t : Ts} {e : Tm} {r : Rho} {s : S} (f : α → D) (p : α → Bool) (g : α → D) :
    ∀ (l : List α), (∀ x ∈ l, ∃ r1, bd (f x) r = some r1 ∧ t r1 s = some (p x, s) ∧ (p x = true → e r1 s = some (g x, s))) → compE bd t e r (l.map f) s = some ((l.filter p).map g, s)
  | [], _ => rfl
  | x :: l, h => by
    obtain ⟨r1, h1, h2, h3⟩ := h x List.mem_cons_self
    have ih := compE_filter f p g l fun y hy => h y (List.mem_cons_of_mem _ hy)
    rw [List.map_cons, compE, h1]
    dsimp only
    rw [h2]
    cases hp : p x with
    | false =>
      dsimp only
      rw [ih, List.filter_cons_of_neg (by simp [hp])]
    | true =>
      dsimp only
      rw [h3 hp]
      dsimp only
      rw [ih, List.filter_cons_of_pos hp]
      rfl
/-- a comprehension that draws -/
theorem compE_draw {bd : D → Rho → Option Rho} {t : Ts} {e : Tm} {r : Rho} (J : S → Prop) (G : D → Prop) :
    ∀ (l : List D) (s : S), J s → (∀ x ∈ l, ∀ s, J s → ∃ r1 y s1, bd x r = some r1 ∧ t r1 s = some (true, s) ∧ e r1 s = some (y, s1) ∧ G y ∧ J s1) → ∃ ys s1, compE bd t e r l s = some (ys, s1) ∧ ys.length = l.length ∧ (∀ y ∈ ys, G y) ∧ J s1
  | [], s, j, _ => ⟨[], s, rfl, rfl, (fun _ h => nomatch h), j⟩
  | x :: l, s, j, h => by
    obtain ⟨r1, y, s1, h1, h2, h3, h4, h5⟩ := h x List.mem_cons_self s j
    obtain ⟨ys, s2, i1, i2, i3, i4⟩ := compE_draw J G l s1 h5 fun z hz => h z (List.mem_cons_of_mem _ hz)
    refine ⟨y :: ys, s2, ?_, by simp [i2], fun z hz => ?_, i4⟩
    · rw [compE, h1]
      dsimp only
      rw [h2]
      dsimp only
      rw [h3]
      dsimp only
      rw [i1]
    · rcases List.mem_cons.mp hz with e | e
      · rw [e]; exact h4
      · exact i3 z e
end CH

set_option maxRecDepth 100000
namespace CH
open PySem
def zs (l : List Int) : List D := l.map .int
def gcdL (l : List Int) : Int := l.foldl gcdI 0
def lowL (l : List Int) : List Int := if gcdL l < 2 then l else l.map fun x => x.fdiv (gcdL l)
theorem lowest_in (l : List Int) (s : S) (q : D) (hq : q = .tup (zs l) ∨ q = .lst (zs l)) (hf : ∀ z ∈ l, fits z = true) (hg : (gcdL l).natAbs.log2 < 60000000) (hl : l.length < line) : flowest [q] s = some (.tup (zs (lowL l)), s) := by
  refine dfn_rt rfl ?_
  have hi : itemsD q = some (zs l) := by rcases hq with e | e <;> rw [e] <;> rfl
  have ht : bltD "tuple" [q] = some (.tup (zs l)) := by rcases hq with e | e <;> rw [e] <;> rfl
  simp [hi]
  obtain ⟨r', s', h1, h2⟩ := forE_inv (bd := mBd 2) (body := sq [sSet 1 [1, 2] (mCall fdivisor [mV 1, mV 2])])
    (fun xs r s' => ∃ (m : List Int) (a : Int) (t : Slot), xs = zs m ∧ (∀ z ∈ m, z ∈ l) ∧ r = [.v q, .v (.int a), t] ∧ s' = s ∧ m.foldl gcdI a = gcdL l) (by
      rintro x xs r s1 ⟨m, a, t, e1, e2, e3, e4, e5⟩
      cases m with
      | nil => cases e1
      | cons y m =>
        cases e1
        subst e3 e4
        refine ⟨_, _, _, rfl, ?_, m, gcdI a y, .v (.int y), rfl, fun z hz => e2 z (List.mem_cons_of_mem _ hz), rfl, rfl, e5⟩
        simp [divisor_ok a y s1 (hf y (e2 y List.mem_cons_self))]) (zs l) [.v q, .v (.int 0), .un] s ⟨l, 0, .un, rfl, fun _ h => h, rfl, rfl, rfl⟩
  obtain ⟨m, a, t, e1, e2, e3, e4, e5⟩ := h2
  cases m with
  | cons y m => cases e1
  | nil =>
    subst e3 e4
    have ea : a = gcdL l := e5
    subst ea
    rw [h1]
    simp [ht, hi]
    by_cases h2 : gcdL l < 2
    · simp [h2, lowL]
    · have hlen : (zs l).length < line := by simpa [zs] using hl
      simp [h2, lowL, hlen]
      have : compE (mBd 2) mTrue (mBin .FloorDiv (mB 2) (mB 1)) [.v q, .v (.int (gcdL l)), .un] (zs l) s' = some (zs (l.map fun x => x.fdiv (gcdL l)), s') := by
        rw [zs, compE_map D.int (fun x => D.int (x.fdiv (gcdL l))) l]
        · simp [zs, Function.comp_def]
        · intro x hx
          refine ⟨_, rfl, rfl, ?_⟩
          simp [o_div (show gcdL l ≠ 0 by omega) hg]
      rw [hi]
      simp [hlen, this]
end CH

set_option maxRecDepth 100000
namespace CH
open PySem
structure OkS (t : LS) : Prop where
  num : ∀ z ∈ t.numbers, fits z = true
  at0 : 0 ≤ t.at_
  sd0 : 0 ≤ t.seed
  sd1 : t.seed < 2147483647
theorem fits_of {z : Int} {n : Nat} (h : z.natAbs < 2 ^ n) (hn : n ≤ 60000000) (h0 : 0 < n) : fits z = true := by
  unfold fits
  rw [decide_eq_true_eq]
  by_cases e : z.natAbs = 0
  · rw [e]; decide
  · have := (Nat.log2_lt e).mpr h
    omega
theorem fits_small {z : Int} (h1 : -18446744073709551616 < z) (h2 : z < 18446744073709551616) : fits z = true := fits_of (n := 64) (by omega) (by decide) (by decide)
theorem fits_bits {z : Int} (h : Builtin.Int.intBits z ≤ 1048576) : fits z = true := by
  unfold Builtin.Int.intBits at h
  unfold fits
  rw [decide_eq_true_eq]
  split at h
  · rename_i e
    have : z = 0 := by simpa using e
    rw [this]; decide
  · omega
theorem fits_le {a b : Int} (h : fits b = true) (hab : a.natAbs ≤ b.natAbs) : fits a = true := by
  have h1 := of_decide_eq_true h
  refine decide_eq_true (Nat.lt_of_le_of_lt ?_ h1)
  by_cases e : a.natAbs = 0
  · rw [e]; exact Nat.zero_le _
  · by_cases e2 : b.natAbs = 0
    · omega
    · have h3 := (Nat.le_log2 e2 (k := a.natAbs.log2)).mpr (Nat.le_trans (Nat.log2_self_le e) hab)
      exact h3
theorem log_small {z : Int} (h1 : -18446744073709551616 < z) (h2 : z < 18446744073709551616) : z.natAbs.log2 < 60000000 := by
  by_cases e : z.natAbs = 0
  · rw [e]; decide
  · have := (Nat.log2_lt (k := 64) e).mpr (by omega)
    omega
@[simp] theorem k_num (t : LS) : getK (some t) "numbers" = some (.scr t.numbers) := rfl
@[simp] theorem k_at (t : LS) : getK (some t) "at" = some (.int t.at_) := rfl
@[simp] theorem k_rest (t : LS) : getK (some t) "rest" = some (.int t.rest) := rfl
@[simp] theorem k_seed (t : LS) : getK (some t) "seed" = some (.int t.seed) := rfl
@[simp] theorem p_at (t : LS) (i : Int) : putK (some t) "at" (.int i) = some (some { t with at_ := i }) := rfl
@[simp] theorem p_rest (t : LS) (i : Int) : putK (some t) "rest" (.int i) = some (some { t with rest := i }) := rfl
@[simp] theorem p_seed (t : LS) (i : Int) : putK (some t) "seed" (.int i) = some (some { t with seed := i }) := rfl
theorem x_dict {A B E F : Tm} {r : Rho} {l : List Int} {a b d : Int} (h1 : A r none = some (.scr l, none)) (h2 : B r none = some (.int a, none)) (h3 : E r none = some (.int b, none)) (h4 : F r none = some (.int d, none)) : mDict [A, B, E, F] r none = some (.hnd, some ⟨l, a, b, d⟩) := by
  show (match mSeq [A, B, E, F] r none with
    | some ([.scr l, .int a, .int b, .int d], none) => some (D.hnd, some (LS.mk l a b d))
    | _ => none) = _
  rw [x_seq, h1, bnd_some, x_seq, h2, bnd_some, x_seq, h3, bnd_some, x_seq, h4, bnd_some, x_seq0, bnd_some, bnd_some, bnd_some, bnd_some]
theorem o_mulb {a : Int} (ha : fits a = true) {p : Prop} [Decidable p] : opD .Mult (.int a) (.int (if p then 1 else 0)) = some (.int (a * (if p then 1 else 0))) := by
  split <;> exact o_mul ha (fits_small (by decide) (by decide))
theorem begun_ok (ns : List Int) (h : ∀ z ∈ ns, fits z = true) : ∃ t, f_law_begun [.scr ns] none = some (.hnd, some t) ∧ OkS t := by
  obtain ⟨r', s', h1, h2⟩ := forE_inv (bd := mBd 2) (body := sq [sSet 1 [] (mBin .Mod (mBin .Add (mBin .Add (mBin .Mult (mB 1) (mK (.int 48271))) (mBin .Mult (mB 2) (mK (.int 69621)))) (mK (.int 11))) (mK (.int 2147483647)))])
    (fun xs r s' => ∃ (m : List Int) (a : Int) (t : Slot), xs = zs m ∧ (∀ z ∈ m, z ∈ ns) ∧ r = [.v (.scr ns), .v (.int a), t] ∧ s' = none ∧ 0 ≤ a ∧ a < 2147483647) (by
      rintro x xs r s1 ⟨m, a, t, e1, e2, e3, e4, e5, e6⟩
      cases m with
      | nil => cases e1
      | cons y m =>
        cases e1
        subst e3 e4
        refine ⟨_, _, _, rfl, ?_, m, (a * 48271 + y * 69621 + 11).fmod 2147483647, .v (.int y), rfl, fun z hz => e2 z (List.mem_cons_of_mem _ hz), rfl, rfl, Int.fmod_nonneg_of_pos _ (by decide), Int.fmod_lt_of_pos _ (by decide)⟩
        simp [o_mul (fits_small (z := a) (by omega) (by omega)) (show fits 48271 = true from fits_small (by decide) (by decide)), o_mul (h y (e2 y List.mem_cons_self)) (show fits 69621 = true from fits_small (by decide) (by decide)), o_mod]) (zs ns) [.v (.scr ns), .v (.int 0), .un] none ⟨ns, 0, .un, rfl, fun _ h => h, rfl, rfl, by decide, by decide⟩
  obtain ⟨m, a, t, e1, e2, e3, e4, e5, e6⟩ := h2
  cases m with
  | cons y m => cases e1
  | nil =>
    subst e3 e4
    refine ⟨⟨ns, 0, 0, a * (if (2 : Int) < (ns.length : Int) then 1 else 0)⟩, ?_, ⟨h, Int.le_refl 0, ?_, ?_⟩⟩
    · refine dfn_rt rfl ?_
      simp
      rw [show ns.map D.int = zs ns from rfl, h1]
      simp
      rw [x_dict (l := ns) (a := 0) (b := 0) (d := a * (if (2 : Int) < (ns.length : Int) then 1 else 0)) (by simp) (by simp) (by simp)]
      · simp
      · simp
        rw [o_mulb (fits_small (z := a) (by omega) (by omega))]
    · dsimp only; split <;> omega
    · dsimp only; split <;> omega
theorem taken_ok {t : LS} (h : OkS t) {m : Int} (hm : 0 < m) (hl : m.natAbs.log2 < 60000000) : ∃ z t', f_law_taken [.hnd, .int m] (some t) = some (.int z, some t') ∧ 0 ≤ z ∧ z < m ∧ OkS t' := by
  have m0 : m ≠ 0 := by omega
  by_cases h0 : 0 < t.rest
  · refine ⟨t.rest.fmod m, { t with rest := t.rest.fdiv m }, ?_, Int.fmod_nonneg_of_pos _ hm, Int.fmod_lt_of_pos _ hm, ⟨h.num, h.at0, h.sd0, h.sd1⟩⟩
    refine dfn_rt rfl ?_
    simp [h0, o_mod m0, o_div m0 hl]
  · by_cases h1 : t.at_ + 1 ≤ (t.numbers.length : Int)
    · have hi : t.at_.toNat < t.numbers.length := by have := h.at0; omega
      have hat : atD (t.numbers.map D.int) t.at_ = some (.int t.numbers[t.at_.toNat]) := by
        unfold atD ixN
        have a0 := h.at0
        rw [if_pos (by omega), if_pos (by rw [List.length_map]; omega)]
        show (List.map D.int t.numbers)[t.at_.toNat]? = _
        rw [List.getElem?_map, List.getElem?_eq_getElem hi]
        rfl
      have hf := h.num _ (List.getElem_mem hi)
      generalize t.numbers[t.at_.toNat] = y at hat hf
      have hd : fits (y.fdiv m) = true := by
        refine fits_le (b := if y.natAbs = 0 then 1 else y) ?_ ?_
        · split
          · exact fits_small (by decide) (by decide)
          · exact hf
        · split
          · have : y = 0 := by omega
            rw [this, Int.zero_fdiv]; decide
          · rename_i hy
            have := Int.mul_fdiv_add_fmod y m
            have f0 := Int.fmod_nonneg_of_pos y hm
            have f1 := Int.fmod_lt_of_pos y hm
            rw [Int.fdiv_eq_ediv_of_nonneg _ (by omega)]
            by_cases y0 : 0 ≤ y
            · have q0 := Int.ediv_nonneg y0 (by omega : 0 ≤ m)
              have q1 := Int.ediv_le_self m y0
              omega
            · have q0 : y ≤ y / m := by
                rw [Int.le_ediv_iff_mul_le hm]
                have : y * m ≤ y * 1 := Int.mul_le_mul_of_nonpos_left (by omega) (by omega)
                omega
              have q1 : y / m < 0 := Int.ediv_neg_of_neg_of_pos (by omega) hm
              omega
      refine ⟨y.fmod m, { t with at_ := t.at_ + 1, rest := y.fdiv m * (if 1000000000000000000 ≤ y then 1 else 0) }, ?_, Int.fmod_nonneg_of_pos _ hm, Int.fmod_lt_of_pos _ hm, ⟨h.num, ?_, h.sd0, h.sd1⟩⟩
      · refine dfn_rt rfl ?_
        simp [h0, h1, hat, o_div m0 hl, o_mod m0, o_pow (a := 10) (b := 18) (by decide)]
        rw [o_mulb hd]
        simp [o_mod m0]
      · have := h.at0
        show 0 ≤ t.at_ + 1
        omega
    · have s0 := h.sd0
      have s1 := h.sd1
      have f0 := Int.fmod_nonneg_of_pos (t.seed * 48271) (show (0 : Int) < 2147483647 by decide)
      have f1 := Int.fmod_lt_of_pos (t.seed * 48271) (show (0 : Int) < 2147483647 by decide)
      generalize hw : (t.seed * 48271).fmod 2147483647 = w at f0 f1
      have q0 : 0 ≤ w.fdiv 7 := by rw [Int.fdiv_eq_ediv_of_nonneg _ (by decide)]; omega
      have q1 : w.fdiv 7 < 2147483647 := by rw [Int.fdiv_eq_ediv_of_nonneg _ (by decide)]; omega
      refine ⟨if 100000000 < m then (w.fdiv 7 ^ 3).fmod m else (w.fdiv 7).fmod m, { t with at_ := t.at_ + 1, seed := w }, ?_, ?_, ?_, ⟨h.num, ?_, f0, f1⟩⟩
      · refine dfn_rt rfl ?_
        simp [h0, h1, o_mul (fits_small (z := t.seed) (by omega) (by omega)) (show fits 48271 = true from fits_small (by decide) (by decide)), o_mod, hw, o_pow (a := 10) (b := 8) (by decide), o_div (a := w) (b := 7) (by decide) (by decide), o_pow (a := w.fdiv 7) (b := 3) ⟨by decide, by decide, by omega⟩, m0]
        by_cases hb : 100000000 < m <;> simp [hb]
      · split <;> exact Int.fmod_nonneg_of_pos _ hm
      · split <;> exact Int.fmod_lt_of_pos _ hm
      · have := h.at0
        show 0 ≤ t.at_ + 1
        omega
end CH

set_option maxRecDepth 100000
namespace CH
open PySem
theorem number_ok {t : LS} (h : OkS t) {w : Int} (hw : 0 ≤ w) (hw2 : w ≤ 1000000) : ∃ z t', f_law_number [.hnd, .int w] (some t) = some (.int z, some t') ∧ -1000000000000 ≤ z ∧ z ≤ 1000000000000 ∧ OkS t' := by
  obtain ⟨z, t1, e1, z0, z1, k1⟩ := taken_ok h (m := 2 * w + 1) (by omega) (log_small (by omega) (by omega))
  by_cases hz : z - w = w
  · obtain ⟨z2, t2, e2, z3, z4, k2⟩ := taken_ok k1 (m := 4) (by decide) (by decide)
    by_cases h3 : z2 = 3
    · obtain ⟨z5, t3, e3, z6, z7, k3⟩ := taken_ok k2 (m := 1999999999999) (by decide) (by decide)
      refine ⟨z5 - 1000000000000 + 1, t3, ?_, by omega, by omega, k3⟩
      refine dfn_rt rfl ?_
      simp [o_mul (show fits 2 = true from fits_small (by decide) (by decide)) (fits_small (z := w) (by omega) (by omega)), e1, hz, e2, h3, o_pow (a := 10) (b := 12) (by decide), o_mul (show fits 2 = true from fits_small (by decide) (by decide)) (show fits 1000000000000 = true from fits_small (by decide) (by decide)), e3]
    · refine ⟨z - w, t2, ?_, by omega, by omega, k2⟩
      refine dfn_rt rfl ?_
      simp [o_mul (show fits 2 = true from fits_small (by decide) (by decide)) (fits_small (z := w) (by omega) (by omega)), e1, hz, e2, h3]
  · refine ⟨z - w, t1, ?_, by omega, by omega, k1⟩
    refine dfn_rt rfl ?_
    simp [o_mul (show fits 2 = true from fits_small (by decide) (by decide)) (fits_small (z := w) (by omega) (by omega)), e1, hz]
theorem r_dom {n : Int} (h0 : 0 ≤ n) (h : n ≤ 1000000) : rangeD 0 n = some ((List.range n.toNat).map fun (k : Nat) => D.int (k : Int)) := by
  unfold rangeD
  rw [if_pos ⟨by decide, by
    by_cases e : n.natAbs = 0
    · rw [e]; decide
    · exact (Nat.log2_lt e).mpr (by omega)⟩]
  simp
theorem line_val : line = 16777216 := rfl
def Big (z : Int) : Prop := -1000000000000 ≤ z ∧ z ≤ 1000000000000
theorem ys_ints : ∀ {ys : List D}, (∀ y ∈ ys, ∃ z, y = D.int z ∧ Big z) → ∃ l : List Int, ys = zs l ∧ ∀ z ∈ l, Big z
  | [], _ => ⟨[], rfl, fun _ h => nomatch h⟩
  | y :: ys, h => by
    obtain ⟨z, e, b⟩ := h y List.mem_cons_self
    obtain ⟨l, e2, b2⟩ := ys_ints fun y hy => h y (List.mem_cons_of_mem _ hy)
    refine ⟨z :: l, by rw [e, e2]; rfl, fun u hu => ?_⟩
    rcases List.mem_cons.mp hu with q | q
    · rw [q]; exact b
    · exact b2 u q
theorem numbers_ok {t : LS} (h : OkS t) {n w : Int} (hn : 0 ≤ n) (hn2 : n ≤ 1000000) (hw : 0 ≤ w) (hw2 : w ≤ 1000000) : ∃ (l : List Int) (t' : LS), f_law_numbers [.hnd, .int n, .int w] (some t) = some (.tup (zs l), some t') ∧ l.length = n.toNat ∧ (∀ z ∈ l, Big z) ∧ OkS t' := by
  obtain ⟨ys, s1, e1, e2, e3, t', e4, e5⟩ := compE_draw (bd := mBd 3) (t := mTrue) (e := mCall f_law_number [mV 0, mV 2]) (r := [.v .hnd, .v (.int n), .v (.int w), .un]) (fun s => ∃ t, s = some t ∧ OkS t) (fun y => ∃ z, y = .int z ∧ Big z)
    ((List.range n.toNat).map fun (k : Nat) => D.int (k : Int)) (some t) ⟨t, rfl, h⟩ (by
      rintro x _ s ⟨t, rfl, k⟩
      obtain ⟨z, t', e1, z0, z1, k1⟩ := number_ok k hw hw2
      exact ⟨_, .int z, some t', rfl, rfl, by simp [e1], ⟨z, rfl, z0, z1⟩, t', rfl, k1⟩)
  obtain ⟨l, rfl, h3⟩ := ys_ints e3
  subst e4
  refine ⟨l, t', dfn_rt rfl ?_, by simpa [zs] using e2, h3, e5⟩
  have hl : n.toNat < line := by rw [line_val]; omega
  simp [r_dom hn hn2, hl, e1]
end CH

set_option maxRecDepth 100000
namespace CH
open PySem
/-! ### data of ints, tuples and lists: equality -/
mutual
def D.pl : D → Bool
  | .int _ => true
  | .tup l => D.pls l
  | .lst l => D.pls l
  | _ => false
def D.pls : List D → Bool
  | [] => true
  | d :: l => d.pl && D.pls l
end
mutual
def D.dp : D → Nat
  | .tup l => D.dps l + 1
  | .lst l => D.dps l + 1
  | _ => 0
def D.dps : List D → Nat
  | [] => 0
  | d :: l => max d.dp (D.dps l)
end
mutual
theorem D.pl_py : ∀ (d : D), d.pl = true → ∃ p, d.toPy = some p ∧ p.canLay0 = true ∧ p.depth = d.dp
  | .int i, _ => ⟨.int i, rfl, rfl, rfl⟩
  | .tup l, h => by
    obtain ⟨p, h1, h2, h3⟩ := D.pls_py l h
    refine ⟨.tuple p, ?_, h2, ?_⟩
    · show (D.toPys l).map PyData.tuple = _
      rw [h1]; rfl
    · show PyData.depthAll p + 1 = D.dps l + 1
      rw [h3]
  | .lst l, h => by
    obtain ⟨p, h1, h2, h3⟩ := D.pls_py l h
    refine ⟨.list p, ?_, h2, ?_⟩
    · show (D.toPys l).map PyData.list = _
      rw [h1]; rfl
    · show PyData.depthAll p + 1 = D.dps l + 1
      rw [h3]
  | .non, h => by cases h
  | .bl _, h => by cases h
  | .str _, h => by cases h
  | .scr _, h => by cases h
  | .obj _, h => by cases h
  | .hnd, h => by cases h
theorem D.pls_py : ∀ (l : List D), D.pls l = true → ∃ p, D.toPys l = some p ∧ PyData.canLayAll0 p = true ∧ PyData.depthAll p = D.dps l
  | [], _ => ⟨[], rfl, rfl, rfl⟩
  | d :: l, h => by
    have h : (d.pl && D.pls l) = true := h
    rw [Bool.and_eq_true] at h
    obtain ⟨p, h1, h2, h3⟩ := D.pl_py d h.1
    obtain ⟨q, g1, g2, g3⟩ := D.pls_py l h.2
    refine ⟨p :: q, ?_, ?_, ?_⟩
    · unfold D.toPys
      rw [h1, g1]
    · show (p.canLay0 && PyData.canLayAll0 q) = true
      rw [h2, g2]; rfl
    · show max p.depth (PyData.depthAll q) = max d.dp (D.dps l)
      rw [h3, g3]
end
mutual
theorem D.pl_eqv : ∀ (a b : D) (p q : PyData), a.pl = true → b.pl = true → a.toPy = some p → b.toPy = some q → (PyData.eqv p q = true ↔ a = b)
  | .int i, b, p, q, ha, hb, h1, h2 => by
    cases h1
    cases b with
    | int j =>
      cases h2
      show (decide (i = j)) = true ↔ _
      rw [decide_eq_true_eq]
      exact ⟨fun e => by rw [e], fun e => by cases e; rfl⟩
    | tup l =>
      obtain ⟨q', h3, h4⟩ := Option.map_eq_some_iff.mp h2
      subst h4
      exact ⟨fun e => (nomatch e), fun e => (nomatch e)⟩
    | lst l =>
      obtain ⟨q', h3, h4⟩ := Option.map_eq_some_iff.mp h2
      subst h4
      exact ⟨fun e => (nomatch e), fun e => (nomatch e)⟩
    | _ => cases hb
  | .tup l, b, p, q, ha, hb, h1, h2 => by
    obtain ⟨p', h5, h6⟩ := Option.map_eq_some_iff.mp h1
    subst h6
    cases b with
    | int j => cases h2; exact ⟨fun e => (nomatch e), fun e => (nomatch e)⟩
    | tup m =>
      obtain ⟨q', h3, h4⟩ := Option.map_eq_some_iff.mp h2
      subst h4
      show PyData.eqvAll p' q' = true ↔ _
      rw [D.pls_eqv l m p' q' ha hb h5 h3]
      exact ⟨fun e => by rw [e], fun e => by cases e; rfl⟩
    | lst m =>
      obtain ⟨q', h3, h4⟩ := Option.map_eq_some_iff.mp h2
      subst h4
      exact ⟨fun e => (nomatch e), fun e => (nomatch e)⟩
    | _ => cases hb
  | .lst l, b, p, q, ha, hb, h1, h2 => by
    obtain ⟨p', h5, h6⟩ := Option.map_eq_some_iff.mp h1
    subst h6
    cases b with
    | int j => cases h2; exact ⟨fun e => (nomatch e), fun e => (nomatch e)⟩
    | lst m =>
      obtain ⟨q', h3, h4⟩ := Option.map_eq_some_iff.mp h2
      subst h4
      show PyData.eqvAll p' q' = true ↔ _
      rw [D.pls_eqv l m p' q' ha hb h5 h3]
      exact ⟨fun e => by rw [e], fun e => by cases e; rfl⟩
    | tup m =>
      obtain ⟨q', h3, h4⟩ := Option.map_eq_some_iff.mp h2
      subst h4
      exact ⟨fun e => (nomatch e), fun e => (nomatch e)⟩
    | _ => cases hb
  | .non, _, _, _, h, _, _, _ => by cases h
  | .bl _, _, _, _, h, _, _, _ => by cases h
  | .str _, _, _, _, h, _, _, _ => by cases h
  | .scr _, _, _, _, h, _, _, _ => by cases h
  | .obj _, _, _, _, h, _, _, _ => by cases h
  | .hnd, _, _, _, h, _, _, _ => by cases h
theorem D.pls_eqv : ∀ (a b : List D) (p q : List PyData), D.pls a = true → D.pls b = true → D.toPys a = some p → D.toPys b = some q → (PyData.eqvAll p q = true ↔ a = b)
  | [], [], p, q, _, _, h1, h2 => by cases h1; cases h2; exact ⟨fun _ => rfl, fun _ => rfl⟩
  | [], y :: b, p, q, _, hb, h1, h2 => by
    cases h1
    obtain ⟨q', g1, _, _⟩ := D.pls_py (y :: b) hb
    rw [h2] at g1
    cases g1
    unfold D.toPys at h2
    split at h2
    · cases h2; exact ⟨fun e => (nomatch e), fun e => (nomatch e)⟩
    · cases h2
  | x :: a, [], p, q, _, _, h1, h2 => by
    cases h2
    unfold D.toPys at h1
    split at h1
    · cases h1; exact ⟨fun e => (nomatch e), fun e => (nomatch e)⟩
    · cases h1
  | x :: a, y :: b, p, q, ha, hb, h1, h2 => by
    have ha : (x.pl && D.pls a) = true := ha
    have hb : (y.pl && D.pls b) = true := hb
    rw [Bool.and_eq_true] at ha hb
    unfold D.toPys at h1 h2
    split at h1
    · rename_i p1 p2 e1 e2
      cases h1
      split at h2
      · rename_i q1 q2 e3 e4
        cases h2
        show (PyData.eqv p1 q1 && PyData.eqvAll p2 q2) = true ↔ _
        rw [Bool.and_eq_true, D.pl_eqv x y p1 q1 ha.1 hb.1 e1 e3, D.pls_eqv a b p2 q2 ha.2 hb.2 e2 e4]
        exact ⟨fun e => by rw [e.1, e.2], fun e => by cases e; exact ⟨rfl, rfl⟩⟩
      · cases h2
    · cases h1
end
/-- plain and not deep -/
def Pl (d : D) : Prop := d.pl = true ∧ d.dp ≤ 60
theorem eqD_pl {a b : D} (ha : Pl a) (hb : Pl b) : ∃ x, eqD a b = some x ∧ (x = true ↔ a = b) := by
  obtain ⟨p, h1, h2, h3⟩ := D.pl_py a ha.1
  obtain ⟨q, g1, g2, g3⟩ := D.pl_py b hb.1
  refine ⟨PyData.eqv p q, ?_, D.pl_eqv a b p q ha.1 hb.1 h1 g1⟩
  unfold eqD
  rw [h1, g1]
  dsimp only
  rw [if_pos]
  unfold SeqAt.shaped
  rw [h2, g2, h3, g3, decide_eq_true (show a.dp ≤ 64 by have := ha.2; omega), decide_eq_true (show b.dp ≤ 64 by have := hb.2; omega)]
  rfl
theorem eqD_yes {a : D} (ha : Pl a) : eqD a a = some true := by
  obtain ⟨x, h1, h2⟩ := eqD_pl ha ha
  rw [h1, h2.mpr rfl]
theorem pls_zs : ∀ l : List Int, D.pls (zs l) = true
  | [] => rfl
  | x :: l => by show (true && D.pls (zs l)) = true; rw [pls_zs l]; rfl
theorem dps_zs : ∀ l : List Int, D.dps (zs l) = 0
  | [] => rfl
  | x :: l => by show max 0 (D.dps (zs l)) = 0; rw [dps_zs l]; rfl
theorem pl_vec (l : List Int) : Pl (.tup (zs l)) := ⟨pls_zs l, by show D.dps (zs l) + 1 ≤ 60; rw [dps_zs]; decide⟩
theorem zs_inj : ∀ {a b : List Int}, zs a = zs b → a = b
  | [], [], _ => rfl
  | [], _ :: _, h => by cases h
  | _ :: _, [], h => by cases h
  | x :: a, y :: b, h => by
    have h1 : D.int x :: zs a = D.int y :: zs b := h
    injection h1 with h2 h3
    injection h2 with h4
    rw [h4, zs_inj h3]
theorem eqD_vec (a b : List Int) : eqD (.tup (zs a)) (.tup (zs b)) = some (decide (a = b)) := by
  obtain ⟨x, h1, h2⟩ := eqD_pl (pl_vec a) (pl_vec b)
  rw [h1]
  congr 1
  by_cases e : a = b
  · rw [decide_eq_true e, h2.mpr (by rw [e])]
  · rw [decide_eq_false e, Bool.eq_false_iff]
    intro z
    have := h2.mp z
    injection this with h3
    exact e (zs_inj h3)
@[simp] theorem c_eqv (a b : List Int) : cmpD .Eq (.tup (zs a)) (.tup (zs b)) = some (decide (a = b)) := eqD_vec a b
@[simp] theorem c_nev (a b : List Int) : cmpD .NotEq (.tup (zs a)) (.tup (zs b)) = some (!decide (a = b)) := by
  show (eqD _ _).map (!·) = _
  rw [eqD_vec]; rfl
end CH

set_option maxRecDepth 100000
namespace CH
open PySem
theorem kit1 : L2.kitB "int" "int" = some true := by decide +kernel
theorem kit2 : L2.kitB "int" "bool" = some false := by decide +kernel
theorem kit3 : L2.kitB "tuple" "tuple" = some true := by decide +kernel
theorem kit4 : L2.kitB "list" "list" = some true := by decide +kernel
theorem kit5 : L2.kitB "list" "tuple" = some false := by decide +kernel
theorem kit6 : L2.kitB "tuple" "list" = some false := by decide +kernel
@[simp] theorem ty1 (i : Int) : tyD (.int i) = some "int" := rfl
@[simp] theorem ty2 (l : List D) : tyD (.tup l) = some "tuple" := rfl
@[simp] theorem ty3 (l : List D) : tyD (.lst l) = some "list" := rfl
theorem lwhole_ok (z : Int) (s : S) : f_law_whole [.int z] s = some (.bl true, s) := by
  refine dfn_rt rfl ?_
  simp [kit1, kit2]
theorem lisnum_ok (l : List Int) (n : Int) (s : S) (hl : l.length < line) : f_law_is_numbers [.tup (zs l), .int n] s = some (.bl (decide ((l.length : Int) = n)), s) := by
  refine dfn_rt rfl ?_
  have h1 : (zs l).length = l.length := by simp [zs]
  simp [kit3, h1]
  by_cases h : (l.length : Int) = n
  · simp [h, hl, h1]
    have : compE (mBd 2) mTrue (mCall f_law_whole [mV 2]) [.v (.tup (zs l)), .v (.int n), .un] (zs l) s = some (l.map fun _ => D.bl true, s) := compE_map D.int (fun _ => D.bl true) l fun x _ => ⟨_, rfl, rfl, by simp [lwhole_ok]⟩
    simp [this, b_all (asBls_map (fun _ : Int => true) l)]
  · simp [h]
theorem gcdI_nn (a b : Int) : 0 ≤ gcdI a b := by unfold gcdI; omega
theorem gcdI_le {a b : Int} {n : Nat} (ha : a.natAbs ≤ n) (hb : b.natAbs ≤ n) : (gcdI a b).natAbs ≤ n := by
  unfold gcdI
  rw [Int.natAbs_natCast, Int.gcd_eq_natAbs_gcd_natAbs]
  by_cases h : a.natAbs = 0
  · rw [h, Nat.gcd_zero_left]; exact hb
  · exact Nat.le_trans (Nat.gcd_le_left _ (by omega)) ha
theorem gcdL_aux {n : Nat} : ∀ (l : List Int) (a : Int), 0 ≤ a → a.natAbs ≤ n → (∀ z ∈ l, z.natAbs ≤ n) → 0 ≤ l.foldl gcdI a ∧ (l.foldl gcdI a).natAbs ≤ n
  | [], a, h0, h, _ => ⟨h0, h⟩
  | x :: l, a, h0, h, hl => gcdL_aux l (gcdI a x) (gcdI_nn _ _) (gcdI_le h (hl x List.mem_cons_self)) fun z hz => hl z (List.mem_cons_of_mem _ hz)
theorem gcdL_nn (l : List Int) : 0 ≤ gcdL l := (gcdL_aux (n := l.foldl (fun m z => max m z.natAbs) 0) l 0 (by decide) (by simp) (by
  have : ∀ (l : List Int) (m : Nat), m ≤ l.foldl (fun m z => max m z.natAbs) m ∧ ∀ z ∈ l, z.natAbs ≤ l.foldl (fun m z => max m z.natAbs) m := by
    intro l
    induction l with
    | nil => intro m; exact ⟨Nat.le_refl _, fun _ h => nomatch h⟩
    | cons x l ih =>
      intro m
      obtain ⟨h1, h2⟩ := ih (max m x.natAbs)
      refine ⟨Nat.le_trans (Nat.le_max_left _ _) h1, fun z hz => ?_⟩
      rcases List.mem_cons.mp hz with e | e
      · rw [e]; exact Nat.le_trans (Nat.le_max_right _ _) h1
      · exact h2 z e
  exact (this l 0).2)).1
theorem gcdL_le {n : Nat} {l : List Int} (h : ∀ z ∈ l, z.natAbs ≤ n) : (gcdL l).natAbs ≤ n := (gcdL_aux l 0 (by decide) (by simp) h).2
theorem lowest_ok (l : List Int) (s : S) (hb : ∀ z ∈ l, z.natAbs ≤ 1000000000000000000) (hl : l.length < line) : flowest [.tup (zs l)] s = some (.tup (zs (lowL l)), s) :=
  lowest_in l s _ (.inl rfl) (fun z hz => fits_small (by have := hb z hz; omega) (by have := hb z hz; omega)) (log_small (by have := gcdL_le hb; omega) (by have := gcdL_le hb; omega)) hl
end CH

set_option maxRecDepth 100000
namespace CH
open PySem
/-! ### vectors -/
abbrev vec (v : List Int) : D := .tup (zs v)
def vecs (L : List (List Int)) : List D := L.map vec
abbrev lvec (v : List Int) : D := .lst (zs v)
def lvecs (L : List (List Int)) : List D := L.map lvec
theorem zs_len (l : List Int) : (zs l).length = l.length := by simp [zs]
theorem at_zs {v : List Int} {j : Nat} (h : j < v.length) : atD (zs v) (j : Int) = some (.int (v.getD j 0)) := by
  unfold atD ixN
  rw [zs_len, if_pos (by omega), if_pos (by omega)]
  show (zs v)[(j : Int).toNat]? = _
  rw [Int.toNat_natCast, zs, List.getElem?_map, List.getElem?_eq_getElem h, List.getD_eq_getElem?_getD, List.getElem?_eq_getElem h]
  rfl
theorem at_nat {l : List D} {j : Nat} (h : j < l.length) : atD l (j : Int) = some l[j] := by
  unfold atD ixN
  rw [if_pos (by omega), if_pos (by omega)]
  show l[(j : Int).toNat]? = _
  rw [Int.toNat_natCast, List.getElem?_eq_getElem h]
theorem cut_tail (x : D) (l : List D) : cutD (x :: l) (some 1) none = l := by
  have h1 : sIx (x :: l).length 0 (some 1) = 1 := by
    show min (1 : Int).toNat (l.length + 1) = 1
    simp
  have h2 : sIx (x :: l).length (x :: l).length none = (x :: l).length := rfl
  unfold cutD
  rw [h1, h2]
  simp
theorem zip_zs : ∀ a b : List Int, List.zipWith (fun x y => D.tup [x, y]) (zs a) (zs b) = (a.zip b).map fun p => D.tup [.int p.1, .int p.2]
  | [], _ => by simp [zs]
  | _ :: _, [] => by simp [zs]
  | x :: a, y :: b => by
    have ih := zip_zs a b
    show D.tup [.int x, .int y] :: List.zipWith (fun x y => D.tup [x, y]) (zs a) (zs b) = _
    rw [ih]
    rfl
/-- entries below 2^k -/
def Bd (k : Nat) (v : List Int) : Prop := ∀ z ∈ v, z.natAbs < 2 ^ k
theorem pow_le {a b : Nat} (h : a ≤ b) : 2 ^ a ≤ 2 ^ b := Nat.pow_le_pow_right (by decide) h
theorem fits_k {z : Int} {k : Nat} (h : z.natAbs < 2 ^ k) (hk : k ≤ 60000000) : fits z = true := by
  unfold fits
  rw [decide_eq_true_eq]
  by_cases e : z.natAbs = 0
  · rw [e]; decide
  · have := (Nat.log2_lt e).mpr h
    omega
theorem log_k {z : Int} {k : Nat} (h : z.natAbs < 2 ^ k) (hk : k ≤ 60000000) : z.natAbs.log2 < 60000000 := by
  by_cases e : z.natAbs = 0
  · rw [e]; decide
  · have := (Nat.log2_lt e).mpr h
    omega
theorem gcdL_lt {k : Nat} {v : List Int} (h : Bd k v) : (gcdL v).natAbs < 2 ^ k := by
  have h0 : 0 < 2 ^ k := Nat.pow_pos (by decide)
  have := gcdL_le (n := 2 ^ k - 1) (l := v) fun z hz => by have := h z hz; omega
  omega
theorem low_k (v : List Int) (s : S) (q : D) (hq : q = .tup (zs v) ∨ q = .lst (zs v)) {k : Nat} (h : Bd k v) (hk : k ≤ 60000000) (hl : v.length < line) : flowest [q] s = some (vec (lowL v), s) :=
  lowest_in v s q hq (fun z hz => fits_k (h z hz) (by omega)) (log_k (gcdL_lt h) hk) hl
/-! ### blend -/
def bl (a : List Int) (m : Int) (b : List Int) (n : Int) : List Int := (a.zip b).map fun p => m * p.1 + n * p.2
theorem bl_len {a b : List Int} {m n : Int} : (bl a m b n).length = min a.length b.length := by simp [bl]
theorem mul_lt {x y : Int} {i j : Nat} (hx : x.natAbs < 2 ^ i) (hy : y.natAbs < 2 ^ j) : (x * y).natAbs < 2 ^ (i + j) := by
  rw [Int.natAbs_mul, Nat.pow_add]
  have h0 : 0 < 2 ^ j := Nat.pow_pos (by decide)
  by_cases e : y.natAbs = 0
  · rw [e, Nat.mul_zero]
    exact Nat.mul_pos (Nat.pow_pos (by decide)) h0
  · exact Nat.lt_of_le_of_lt (Nat.mul_le_mul_right _ (Nat.le_of_lt_succ (Nat.lt_succ_of_lt hx))) (Nat.mul_lt_mul_of_pos_left hy (Nat.pow_pos (by decide)))
theorem add_lt {x y : Int} {i : Nat} (hx : x.natAbs < 2 ^ i) (hy : y.natAbs < 2 ^ i) : (x + y).natAbs < 2 ^ (i + 1) := by
  rw [Nat.pow_succ]
  omega
theorem bl_bd {a b : List Int} {m n : Int} {i j k : Nat} (ha : Bd i a) (hb : Bd j b) (hm : m.natAbs < 2 ^ (k - i)) (hn : n.natAbs < 2 ^ (k - j)) (hi : i ≤ k) (hj : j ≤ k) : Bd (k + 1) (bl a m b n) := by
  intro z hz
  obtain ⟨p, hp, rfl⟩ := List.mem_map.mp hz
  have h1 := ha _ (List.of_mem_zip hp).1
  have h2 := hb _ (List.of_mem_zip hp).2
  have e1 := mul_lt hm h1
  have e2 := mul_lt hn h2
  rw [show k - i + i = k by omega] at e1
  rw [show k - j + j = k by omega] at e2
  exact add_lt e1 e2
theorem blend_ok {a b : List Int} {m n : Int} (s : S) {i j k : Nat} (ha : Bd i a) (hb : Bd j b) (hm : m.natAbs < 2 ^ (k - i)) (hn : n.natAbs < 2 ^ (k - j)) (hi : i ≤ k) (hj : j ≤ k) (hk : k ≤ 59999999) (hl : a.length ≤ 1000) :
    fblend [vec a, .int m, vec b, .int n] s = some (vec (lowL (bl a m b n)), s) := by
  have hle : ((a.zip b).map fun p => D.tup [.int p.1, .int p.2]).length < line := by
    rw [line_val, List.length_map, List.length_zip]; omega
  have hc : ∀ x4 x5, compE (mBdT [4, 5]) mTrue (mBin .Add (mBin .Mult (mB 1) (mB 4)) (mBin .Mult (mB 3) (mB 5))) [.v (vec a), .v (.int m), .v (vec b), .v (.int n), x4, x5] ((a.zip b).map fun p => D.tup [.int p.1, .int p.2]) s = some (zs (bl a m b n), s) := by
    intro x4 x5
    rw [compE_map (fun p : Int × Int => D.tup [.int p.1, .int p.2]) (fun p => D.int (m * p.1 + n * p.2)) (a.zip b)]
    · simp [zs, bl, Function.comp_def]
    · intro p hp
      refine ⟨_, rfl, rfl, ?_⟩
      have h1 := ha _ (List.of_mem_zip hp).1
      have h2 := hb _ (List.of_mem_zip hp).2
      simp [o_mul (fits_k hm (by omega)) (fits_k h1 (by omega)), o_mul (fits_k hn (by omega)) (fits_k h2 (by omega))]
  have hlo := low_k (bl a m b n) s (.lst (zs (bl a m b n))) (.inr rfl) (bl_bd ha hb hm hn hi hj) (by omega) (by rw [bl_len, line_val]; omega)
  refine dfn_rt rfl ?_
  have hz : zipD (vec a) (vec b) = some ((a.zip b).map fun p => D.tup [.int p.1, .int p.2]) := by
    show some (List.zipWith _ (zs a) (zs b)) = _
    rw [zip_zs]
  simp [hz]
  rw [if_pos (by simpa using hle)]
  simp [hc, hlo]
end CH

set_option maxRecDepth 100000
namespace CH
open PySem
/-! ### elimination -/
def nz (v : List Int) : Bool := v.any fun x => !decide (x = 0)
def nzs (v : List Int) : List Nat := (List.range v.length).filter fun j => !decide (v.getD j 0 = 0)
def piv (v : List Int) : Nat := (nzs v).headD 0
theorem piv_ok {v : List Int} (h : nz v = true) : (nzs v)[0]? = some (piv v) ∧ piv v < v.length ∧ v.getD (piv v) 0 ≠ 0 := by
  obtain ⟨x, hx, h1⟩ := List.any_eq_true.mp h
  obtain ⟨j, hj, e⟩ := List.getElem_of_mem hx
  have hm : j ∈ nzs v := by
    refine List.mem_filter.mpr ⟨List.mem_range.mpr hj, ?_⟩
    rw [List.getD_eq_getElem?_getD, List.getElem?_eq_getElem hj, Option.getD_some, e]
    exact h1
  unfold piv
  cases hn : nzs v with
  | nil => rw [hn] at hm; cases hm
  | cons k t =>
    have hk : k ∈ nzs v := by rw [hn]; exact List.mem_cons_self
    obtain ⟨h2, h3⟩ := List.mem_filter.mp hk
    refine ⟨rfl, List.mem_range.mp h2, ?_⟩
    show v.getD k 0 ≠ 0
    simpa using h3
def el (f v : List Int) : List Int := bl v (f.getD (piv f) 0) f (0 - v.getD (piv f) 0)
def stepN (norm : List Int → List Int) (f : List Int) (L : List (List Int)) : List (List Int) := (L.map fun v => norm (el f v)).filter nz
def rkN (norm : List Int → List Int) : Nat → List (List Int) → Nat
  | 0, _ => 0
  | _ + 1, [] => 0
  | m + 1, f :: L => rkN norm m (stepN norm f L) + 1
def cols (w : Nat) (L : List (List Int)) : Nat := ((List.range w).filter fun j => L.any fun v => !decide (v.getD j 0 = 0)).length
/-- rows of one width, no noughts, entries below 2^b -/
structure Rows (w b : Nat) (L : List (List Int)) : Prop where
  w : ∀ v ∈ L, v.length = w
  z : ∀ v ∈ L, nz v = true
  b : ∀ v ∈ L, Bd b v
theorem getD_bd {b : Nat} {v : List Int} (h : Bd b v) (j : Nat) : (v.getD j 0).natAbs < 2 ^ b := by
  rw [List.getD_eq_getElem?_getD]
  by_cases hj : j < v.length
  · rw [List.getElem?_eq_getElem hj]
    exact h _ (List.getElem_mem hj)
  · rw [List.getElem?_eq_none (by omega)]
    exact Nat.pow_pos (by decide)
theorem neg_bd {z : Int} {b : Nat} (h : z.natAbs < 2 ^ b) : (0 - z).natAbs < 2 ^ b := by omega
theorem el_bd {f v : List Int} {b : Nat} (hf : Bd b f) (hv : Bd b v) : Bd (2 * b + 1) (el f v) :=
  bl_bd (k := 2 * b) hv hf (by rw [show 2 * b - b = b by omega]; exact getD_bd hf _) (by rw [show 2 * b - b = b by omega]; exact neg_bd (getD_bd hv _)) (by omega) (by omega)
theorem fdiv_abs (x : Int) {g : Int} (hg : 0 < g) (hd : g ∣ x) : (x.fdiv g).natAbs ≤ x.natAbs := by
  obtain ⟨q, rfl⟩ := hd
  rw [Int.mul_fdiv_cancel_left _ (by omega), Int.natAbs_mul]
  exact Nat.le_mul_of_pos_left _ (by omega)
theorem gcd_dvd_aux : ∀ (l : List Int) (a : Int), l.foldl gcdI a ∣ a ∧ ∀ z ∈ l, l.foldl gcdI a ∣ z
  | [], a => ⟨Int.dvd_refl a, fun _ h => nomatch h⟩
  | x :: l, a => by
    obtain ⟨h1, h2⟩ := gcd_dvd_aux l (gcdI a x)
    have g1 : gcdI a x ∣ a := Int.gcd_dvd_left ..
    have g2 : gcdI a x ∣ x := Int.gcd_dvd_right ..
    refine ⟨Int.dvd_trans h1 g1, fun z hz => ?_⟩
    rcases List.mem_cons.mp hz with e | e
    · rw [e]; exact Int.dvd_trans h1 g2
    · exact h2 z e
theorem gcdL_dvd {l : List Int} {z : Int} (h : z ∈ l) : gcdL l ∣ z := (gcd_dvd_aux l 0).2 z h
/-- lowest as a multiple -/
theorem lowL_mul (l : List Int) : ∃ g : Int, 0 < g ∧ l = (lowL l).map fun x => g * x := by
  unfold lowL
  by_cases h : gcdL l < 2
  · rw [if_pos h]
    exact ⟨1, by decide, by simp⟩
  · rw [if_neg h]
    refine ⟨gcdL l, by omega, ?_⟩
    rw [List.map_map]
    conv => lhs; rw [← List.map_id l]
    refine List.map_congr_left fun x hx => ?_
    exact (Int.mul_fdiv_cancel' (gcdL_dvd hx)).symm
theorem lowL_len (l : List Int) : (lowL l).length = l.length := by unfold lowL; split <;> simp
theorem lowL_bd {l : List Int} {k : Nat} (h : Bd k l) : Bd k (lowL l) := by
  unfold lowL
  split
  · exact h
  · rename_i h2
    intro z hz
    obtain ⟨x, hx, rfl⟩ := List.mem_map.mp hz
    exact Nat.lt_of_le_of_lt (fdiv_abs x (by omega) (gcdL_dvd hx)) (h x hx)
theorem filter_lt {α : Type} {p p' : α → Bool} : ∀ {l : List α}, (∀ x ∈ l, p' x = true → p x = true) → (∃ x ∈ l, p x = true ∧ p' x = false) → (l.filter p').length < (l.filter p).length
  | [], _, h => by obtain ⟨_, h, _⟩ := h; cases h
  | a :: l, h1, h2 => by
    have h1' : ∀ x ∈ l, p' x = true → p x = true := fun x hx => h1 x (List.mem_cons_of_mem _ hx)
    have le : (l.filter p').length ≤ (l.filter p).length := by
      clear h2 h1
      induction l with
      | nil => exact Nat.le_refl _
      | cons b l ih =>
        have ih := ih fun x hx => h1' x (List.mem_cons_of_mem _ hx)
        by_cases e : p' b = true
        · rw [List.filter_cons_of_pos e, List.filter_cons_of_pos (h1' b List.mem_cons_self e)]
          exact Nat.succ_le_succ ih
        · rw [List.filter_cons_of_neg e]
          by_cases e2 : p b = true
          · rw [List.filter_cons_of_pos e2]; exact Nat.le_succ_of_le ih
          · rw [List.filter_cons_of_neg e2]; exact ih
    obtain ⟨x, hx, p1, p2⟩ := h2
    by_cases e : p' a = true
    · rw [List.filter_cons_of_pos e, List.filter_cons_of_pos (h1 a List.mem_cons_self e)]
      rcases List.mem_cons.mp hx with z | z
      · rw [z, e] at p2; cases p2
      · exact Nat.succ_lt_succ (filter_lt h1' ⟨x, z, p1, p2⟩)
    · rw [List.filter_cons_of_neg e]
      by_cases e2 : p a = true
      · rw [List.filter_cons_of_pos e2]; exact Nat.lt_succ_of_le le
      · rw [List.filter_cons_of_neg e2]
        rcases List.mem_cons.mp hx with z | z
        · rw [z] at p1; exact absurd p1 e2
        · exact filter_lt h1' ⟨x, z, p1, p2⟩
theorem getD_bl {a b : List Int} {m n : Int} (h : a.length = b.length) (j : Nat) : (bl a m b n).getD j 0 = m * a.getD j 0 + n * b.getD j 0 := by
  unfold bl
  rw [List.getD_eq_getElem?_getD, List.getD_eq_getElem?_getD, List.getD_eq_getElem?_getD, List.getElem?_map]
  by_cases hj : j < a.length
  · have h1 : j < b.length := by omega
    rw [List.getElem?_eq_getElem (show j < (a.zip b).length by rw [List.length_zip]; omega), List.getElem?_eq_getElem hj, List.getElem?_eq_getElem h1]
    simp
  · rw [List.getElem?_eq_none (show (a.zip b).length ≤ j by rw [List.length_zip]; omega), List.getElem?_eq_none (by omega), List.getElem?_eq_none (by omega)]
    simp
theorem el_piv {f v : List Int} (h : v.length = f.length) : (el f v).getD (piv f) 0 = 0 := by
  unfold el
  rw [getD_bl h, Int.zero_sub, Int.neg_mul, Int.mul_comm]
  omega
/-- a way to shrink vectors: lowest, or nothing -/
structure Norm (norm : List Int → List Int) : Prop where
  mul : ∀ l, ∃ g : Int, 0 < g ∧ l = (norm l).map fun x => g * x
  bd : ∀ {l k}, Bd k l → Bd k (norm l)
theorem norm_low : Norm lowL := ⟨lowL_mul, lowL_bd⟩
theorem norm_id : Norm id := ⟨fun l => ⟨1, by decide, by simp⟩, fun h => h⟩
theorem getD_map_mul (g : Int) (l : List Int) (j : Nat) : (l.map fun x => g * x).getD j 0 = g * l.getD j 0 := by
  rw [List.getD_eq_getElem?_getD, List.getD_eq_getElem?_getD, List.getElem?_map]
  cases l[j]? <;> simp
theorem Norm.len {norm : List Int → List Int} (N : Norm norm) (l : List Int) : (norm l).length = l.length := by
  obtain ⟨g, _, h⟩ := N.mul l
  have := congrArg List.length h
  rw [List.length_map] at this
  omega
theorem Norm.get0 {norm : List Int → List Int} (N : Norm norm) (l : List Int) (j : Nat) : (norm l).getD j 0 = 0 ↔ l.getD j 0 = 0 := by
  obtain ⟨g, hg, h⟩ := N.mul l
  have e : l.getD j 0 = g * (norm l).getD j 0 := by
    conv => lhs; rw [h]
    exact getD_map_mul g _ j
  rw [e, Int.mul_eq_zero]
  exact ⟨fun x => .inr x, fun x => x.elim (fun y => absurd y (by omega)) id⟩
theorem nz_iff {v : List Int} : nz v = true ↔ ∃ j, j < v.length ∧ v.getD j 0 ≠ 0 := by
  unfold nz
  rw [List.any_eq_true]
  constructor
  · rintro ⟨x, hx, h⟩
    obtain ⟨j, hj, e⟩ := List.getElem_of_mem hx
    refine ⟨j, hj, ?_⟩
    rw [List.getD_eq_getElem?_getD, List.getElem?_eq_getElem hj, Option.getD_some, e]
    simpa using h
  · rintro ⟨j, hj, h⟩
    refine ⟨v[j], List.getElem_mem hj, ?_⟩
    rw [List.getD_eq_getElem?_getD, List.getElem?_eq_getElem hj, Option.getD_some] at h
    simpa using h
theorem Rows.step {norm : List Int → List Int} (N : Norm norm) {w b : Nat} {f : List Int} {L : List (List Int)} (R : Rows w b (f :: L)) : Rows w (2 * b + 1) (stepN norm f L) ∧ (stepN norm f L).length ≤ L.length ∧ cols w (stepN norm f L) < cols w (f :: L) := by
  have hf := R.w f List.mem_cons_self
  have hm : ∀ v ∈ stepN norm f L, ∃ u ∈ L, v = norm (el f u) ∧ nz v = true := fun v hv => by
    obtain ⟨h1, h2⟩ := List.mem_filter.mp hv
    obtain ⟨u, h3, rfl⟩ := List.mem_map.mp h1
    exact ⟨u, h3, rfl, h2⟩
  refine ⟨⟨fun v hv => ?_, fun v hv => ?_, fun v hv => ?_⟩, ?_, ?_⟩
  · obtain ⟨u, h1, rfl, h2⟩ := hm v hv
    rw [N.len, el, bl_len, R.w u (List.mem_cons_of_mem _ h1), hf, Nat.min_self]
  · obtain ⟨u, h1, rfl, h2⟩ := hm v hv
    exact h2
  · obtain ⟨u, h1, rfl, h2⟩ := hm v hv
    exact N.bd (el_bd (R.b f List.mem_cons_self) (R.b u (List.mem_cons_of_mem _ h1)))
  · unfold stepN
    exact Nat.le_trans (List.length_filter_le _ _) (by rw [List.length_map]; exact Nat.le_refl _)
  · obtain ⟨_, k1, k2⟩ := piv_ok (R.z f List.mem_cons_self)
    refine filter_lt (fun j _ hj => ?_) ⟨piv f, List.mem_range.mpr (by omega), ?_, ?_⟩
    · obtain ⟨v, hv, hz⟩ := List.any_eq_true.mp hj
      obtain ⟨u, h1, rfl, h2⟩ := hm v hv
      have hne : (norm (el f u)).getD j 0 ≠ 0 := by simpa using hz
      rw [Ne, N.get0, el, getD_bl (by rw [hf, R.w u (List.mem_cons_of_mem _ h1)])] at hne
      rw [List.any_eq_true]
      by_cases e : u.getD j 0 = 0
      · refine ⟨f, List.mem_cons_self, ?_⟩
        rw [e] at hne
        have : f.getD j 0 ≠ 0 := fun z => hne (by rw [z]; simp)
        simpa using this
      · exact ⟨u, List.mem_cons_of_mem _ h1, by simpa using e⟩
    · rw [List.any_eq_true]
      exact ⟨f, List.mem_cons_self, by simpa using k2⟩
    · rw [List.any_eq_false]
      intro v hv
      obtain ⟨u, h1, rfl, h2⟩ := hm v hv
      have := (N.get0 (el f u) (piv f)).mpr (el_piv (by rw [hf, R.w u (List.mem_cons_of_mem _ h1)]))
      rw [this]
      decide

/-! ### two eliminations in step -/
inductive Al {α β : Type} (R : α → β → Prop) : List α → List β → Prop
  | nil : Al R [] []
  | cons {a b l m} : R a b → Al R l m → Al R (a :: l) (b :: m)
theorem Al.length {α β : Type} {R : α → β → Prop} {l : List α} {m : List β} (h : Al R l m) : l.length = m.length := by
  induction h with
  | nil => rfl
  | cons _ _ ih => rw [List.length_cons, List.length_cons, ih]
/-- one vector is a multiple of the other one, over the fractions -/
def Pr (u v : List Int) : Prop := u.length = v.length ∧ ∃ a b : Int, a ≠ 0 ∧ b ≠ 0 ∧ ∀ j, a * u.getD j 0 = b * v.getD j 0
theorem Pr.refl (u : List Int) : Pr u u := ⟨rfl, 1, 1, by decide, by decide, fun _ => rfl⟩
theorem Pr.get0 {u v : List Int} (h : Pr u v) (j : Nat) : u.getD j 0 = 0 ↔ v.getD j 0 = 0 := by
  obtain ⟨_, a, b, ha, hb, e⟩ := h
  have := e j
  constructor
  · intro z
    rw [z, Int.mul_zero] at this
    exact (Int.mul_eq_zero.mp this.symm).resolve_left hb
  · intro z
    rw [z, Int.mul_zero] at this
    exact (Int.mul_eq_zero.mp this).resolve_left ha
theorem Pr.nz {u v : List Int} (h : Pr u v) : nz u = nz v := by
  rw [Bool.eq_iff_iff, nz_iff, nz_iff]
  exact ⟨fun ⟨j, h1, h2⟩ => ⟨j, by rw [← h.1]; exact h1, fun z => h2 ((h.get0 j).mpr z)⟩, fun ⟨j, h1, h2⟩ => ⟨j, by rw [h.1]; exact h1, fun z => h2 ((h.get0 j).mp z)⟩⟩
theorem Pr.piv {u v : List Int} (h : Pr u v) : piv u = piv v := by
  unfold CH.piv nzs
  rw [h.1]
  congr 1
  refine List.filter_congr fun j _ => ?_
  have := h.get0 j
  by_cases e : u.getD j 0 = 0
  · rw [e, this.mp e]
  · rw [decide_eq_false e, decide_eq_false fun z => e (this.mpr z)]
theorem Pr.norm {norm : List Int → List Int} (N : Norm norm) {u v : List Int} (h : Pr u v) : Pr (norm u) v := by
  obtain ⟨g, hg, e⟩ := N.mul u
  obtain ⟨hl, a, b, ha, hb, e2⟩ := h
  refine ⟨by rw [N.len]; exact hl, a * g, b, Int.mul_ne_zero ha (by omega), hb, fun j => ?_⟩
  have : u.getD j 0 = g * (norm u).getD j 0 := by
    conv => lhs; rw [e]
    exact getD_map_mul g _ j
  rw [Int.mul_assoc, ← this]
  exact e2 j
theorem Pr.symm {u v : List Int} (h : Pr u v) : Pr v u := by
  obtain ⟨hl, a, b, ha, hb, e⟩ := h
  exact ⟨hl.symm, b, a, hb, ha, fun j => (e j).symm⟩
theorem Pr.el {f g u v : List Int} (hf : Pr f g) (h : Pr u v) (hl : u.length = f.length) : Pr (el f u) (el g v) := by
  have e1 := hf.1
  have e2 := h.1
  have hp := Pr.piv hf
  refine ⟨by rw [CH.el, CH.el, bl_len, bl_len]; omega, ?_⟩
  obtain ⟨_, a, b, ha, hb, e⟩ := hf
  obtain ⟨_, c, d, hc, hd, e'⟩ := h
  refine ⟨a * c, b * d, Int.mul_ne_zero ha hc, Int.mul_ne_zero hb hd, fun j => ?_⟩
  unfold CH.el
  rw [getD_bl hl, getD_bl (by omega), hp]
  have f1 := e (CH.piv g)
  have f2 := e j
  have u1 := e' (CH.piv g)
  have u2 := e' j
  generalize f.getD (CH.piv g) 0 = x1 at *
  generalize f.getD j 0 = x2 at *
  generalize u.getD (CH.piv g) 0 = y1 at *
  generalize u.getD j 0 = y2 at *
  generalize g.getD (CH.piv g) 0 = z1 at *
  generalize g.getD j 0 = z2 at *
  generalize v.getD (CH.piv g) 0 = w1 at *
  generalize v.getD j 0 = w2 at *
  have q1 : a * c * (x1 * y2) = b * d * (z1 * w2) := by
    rw [show a * c * (x1 * y2) = (a * x1) * (c * y2) by ac_rfl, f1, u2]; ac_rfl
  have q2 : a * c * (y1 * x2) = b * d * (w1 * z2) := by
    rw [show a * c * (y1 * x2) = (a * x2) * (c * y1) by ac_rfl, f2, u1]; ac_rfl
  rw [Int.zero_sub, Int.zero_sub, Int.neg_mul, Int.neg_mul, Int.mul_add, Int.mul_add, Int.mul_neg, Int.mul_neg, q1, q2]
theorem rk_step {norm norm' : List Int → List Int} (N : Norm norm) (N' : Norm norm') {w : Nat} : ∀ (m : Nat) (L L' : List (List Int)), Al Pr L L' → (∀ v ∈ L, v.length = w) → (∀ v ∈ L, nz v = true) → rkN norm m L = rkN norm' m L'
  | 0, _, _, _, _, _ => rfl
  | m + 1, [], _, h, _, _ => by cases h; rfl
  | m + 1, f :: L, _, h, hw, hz => by
    cases h with
    | @cons _ g _ M p t =>
      show rkN norm m (stepN norm f L) + 1 = rkN norm' m (stepN norm' g M) + 1
      congr 1
      have hf := hw f List.mem_cons_self
      have key : Al Pr (stepN norm f L) (stepN norm' g M) := by
        have hw' : ∀ v ∈ L, v.length = w := fun v hv => hw v (List.mem_cons_of_mem _ hv)
        clear hw hz
        induction t with
        | nil => exact .nil
        | @cons u v l m' p2 t ih =>
          have ih := ih fun v hv => hw' v (List.mem_cons_of_mem _ hv)
          have q : Pr (norm (el f u)) (norm' (el g v)) := (((p.el p2 (by rw [hw' u List.mem_cons_self, hf])).norm N).symm.norm N').symm
          unfold stepN at ih ⊢
          rw [List.map_cons, List.map_cons]
          by_cases e : nz (norm (el f u)) = true
          · rw [List.filter_cons_of_pos e, List.filter_cons_of_pos (by rw [← q.nz]; exact e)]
            exact .cons q ih
          · rw [List.filter_cons_of_neg e, List.filter_cons_of_neg (by rw [← q.nz]; exact e)]
            exact ih
      refine rk_step N N' m _ _ key (w := w) (fun v hv => ?_) (fun v hv => (List.mem_filter.mp hv).2)
      obtain ⟨h1, _⟩ := List.mem_filter.mp hv
      obtain ⟨u, h3, rfl⟩ := List.mem_map.mp h1
      rw [N.len, el, bl_len, hw u (List.mem_cons_of_mem _ h3), hf, Nat.min_self]
theorem Al.refl {α : Type} {R : α → α → Prop} (h : ∀ a, R a a) : ∀ l : List α, Al R l l
  | [] => .nil
  | a :: l => .cons (h a) (Al.refl h l)
theorem rk_same {norm : List Int → List Int} (N : Norm norm) {w : Nat} (m : Nat) (L : List (List Int)) (hw : ∀ v ∈ L, v.length = w) (hz : ∀ v ∈ L, nz v = true) : rkN norm m L = rkN id m L :=
  rk_step N norm_id m L L (Al.refl Pr.refl L) hw hz
end CH

set_option maxRecDepth 100000
namespace CH
open PySem
@[simp] theorem at0 (x : D) (l : List D) : atD (x :: l) 0 = some x := by
  have := at_nat (l := x :: l) (j := 0) (by simp)
  simpa using this
theorem cols_pos {w b : Nat} {f : List Int} {L : List (List Int)} (R : Rows w b (f :: L)) : 0 < cols w (f :: L) := by
  obtain ⟨_, k1, k2⟩ := piv_ok (R.z f List.mem_cons_self)
  have hf := R.w f List.mem_cons_self
  refine List.length_pos_of_mem (a := piv f) (List.mem_filter.mpr ⟨List.mem_range.mpr (by omega), ?_⟩)
  rw [List.any_eq_true]
  exact ⟨f, List.mem_cons_self, by simpa using k2⟩
theorem nzs_ev {bd : D → Rho → Option Rho} {t : Ts} {e : Tm} {r : Rho} {s : S} (f : List Int) (h : ∀ j, j < f.length → ∃ r1, bd (.int (j : Int)) r = some r1 ∧ t r1 s = some (!decide (f.getD j 0 = 0), s) ∧ e r1 s = some (.int (j : Int), s)) :
    compE bd t e r ((List.range f.length).map fun (k : Nat) => D.int (k : Int)) s = some ((nzs f).map fun (k : Nat) => D.int (k : Int), s) := by
  rw [compE_filter (fun (k : Nat) => D.int (k : Int)) (fun j => !decide (f.getD j 0 = 0)) (fun (k : Nat) => D.int (k : Int)) (List.range f.length)]
  · rfl
  · intro j hj
    obtain ⟨r1, h1, h2, h3⟩ := h j (List.mem_range.mp hj)
    exact ⟨r1, h1, h2, fun _ => h3⟩
theorem piv_ev {f : List Int} (h : nz f = true) : atD ((nzs f).map fun (k : Nat) => D.int (k : Int)) 0 = some (.int (piv f)) := by
  have h1 := (piv_ok h).1
  cases hn : nzs f with
  | nil => rw [hn] at h1; cases h1
  | cons a l =>
    rw [hn] at h1
    cases h1
    rw [List.map_cons, at0]
theorem r_len {f : List Int} (h : f.length ≤ 1000) : rangeD 0 (f.length : Int) = some ((List.range f.length).map fun (k : Nat) => D.int (k : Int)) := by
  rw [r_dom (by omega) (by omega), Int.toNat_natCast]
/-- the program's filter: rows that are not nought -/
theorem nzf_ev {bd : D → Rho → Option Rho} {t : Ts} {e : Tm} {r : Rho} {s : S} (L : List (List Int)) (h : ∀ v ∈ L, ∃ r1, bd (vec v) r = some r1 ∧ t r1 s = some (nz v, s) ∧ e r1 s = some (vec v, s)) :
    compE bd t e r (vecs L) s = some (vecs (L.filter nz), s) := by
  unfold vecs
  exact compE_filter vec nz vec L fun v hv => by
    obtain ⟨r1, h1, h2, h3⟩ := h v hv
    exact ⟨r1, h1, h2, fun _ => h3⟩
theorem any_nz (v : List Int) : bltD "any" [.lst (v.map fun x => D.bl (!decide (x = 0)))] = some (.bl (nz v)) := by
  rw [b_any (asBls_map (fun x : Int => !decide (x = 0)) v), List.any_map]
  rfl
theorem nzv_ev {bd : D → Rho → Option Rho} {t : Ts} {e : Tm} {r : Rho} {s : S} (v : List Int) (h : ∀ x ∈ v, ∃ r1, bd (.int x) r = some r1 ∧ t r1 s = some (true, s) ∧ e r1 s = some (.bl (!decide (x = 0)), s)) :
    compE bd t e r (zs v) s = some (v.map fun x => D.bl (!decide (x = 0)), s) := compE_map D.int _ v h
theorem mapv_ev {bd : D → Rho → Option Rho} {t : Ts} {e : Tm} {r : Rho} {s : S} (g : List Int → List Int) (L : List (List Int)) (h : ∀ v ∈ L, ∃ r1, bd (vec v) r = some r1 ∧ t r1 s = some (true, s) ∧ e r1 s = some (vec (g v), s)) :
    compE bd t e r (vecs L) s = some (vecs (L.map g), s) := by
  have := compE_map vec (fun v => vec (g v)) L h
  unfold vecs
  rw [this, List.map_map]
  rfl
theorem whE_t {T : Ts} {B : Rho → S → Option Out} {k : Nat} {r r2 : Rho} {s s1 s2 : S} (h : T r s = some (true, s1)) (h2 : B r s1 = some (.nx r2 s2)) : whE T B (k + 1) r s = whE T B k r2 s2 := by
  rw [whE, h]
  dsimp only
  rw [h2]
theorem whE_f {T : Ts} {B : Rho → S → Option Out} {k : Nat} {r : Rho} {s s1 : S} (h : T r s = some (false, s1)) : whE T B (k + 1) r s = some (.nx r s1) := by
  rw [whE, h]
theorem vecs_len (L : List (List Int)) : (vecs L).length = L.length := by simp [vecs]
def rankT : Ts := (tE (mCmp .Gt (mBlt "len" [(mB 1)]) (mK (.int 0))))
def rankB : List St :=
     [sSet 2 [] (mBin .Add (mB 2) (mK (.int 1))),
      sSet 3 [] (mIx (mB 1) (mK (.int 0))),
      sSet 4 [] (mIx (mComp (mRng (mBlt "len" [(mB 3)])) (mBd 7) (tE (mCmp .NotEq (mIx (mB 3) (mV 7)) (mK (.int 0)))) (mV 7) [7]) (mK (.int 0))),
      sSet 5 [4, 3, 4] (mComp (mIts (mSl (mB 1) (some (mK (.int 1))) none)) (mBd 6) mTrue (mCall fblend [(mV 6), (mIx (mB 3) (mV 4)), (mV 3), (mBin .Sub (mK (.int 0)) (mIx (mB 6) (mV 4)))]) [6]),
      sSet 1 [] (mComp (mIts (mB 5)) (mBd 6) (tE (mBlt "any" [(mComp (mIts (mB 6)) (mBd 8) mTrue (mCmp .NotEq (mB 8) (mK (.int 0))) [8])])) (mV 6) [6])]
theorem nzc_ev {r : Rho} {s : S} (v : List Int) (i j : Nat) (h : getS r i = .v (vec v)) (hj : ∀ x : Int, getS (r.set j (.v (.int x))) j = .v (.int x)) (hl : v.length ≤ 1000) :
    tE (mBlt "any" [(mComp (mIts (mB i)) (mBd j) mTrue (mCmp .NotEq (mB j) (mK (.int 0))) [j])]) r s = some (nz v, s) := by
  have hl2 : (zs v).length < line := by rw [zs_len, line_val]; omega
  have := nzv_ev (bd := mBd j) (t := mTrue) (e := mCmp .NotEq (mB j) (mK (.int 0))) (r := r.set j .un) (s := s) v fun x _ => ⟨_, rfl, rfl, by simp [hj]⟩
  simp [h, hl2, this, any_nz]
theorem rank_step {q : D} {s : S} {w b : Nat} {f : List Int} {L : List (List Int)} (hw : w ≤ 1000) (R : Rows w b (f :: L)) (hll : L.length + 1 ≤ 1000) (b1 : b + 1 ≤ 4000) (n : Int) (x3 x4 x5 x6 x7 x8 : Slot) :
    sq rankB [.v q, .v (.lst (vecs (f :: L))), .v (.int n), x3, x4, x5, x6, x7, x8] s = some (.nx [.v q, .v (.lst (vecs (stepN lowL f L))), .v (.int (n + 1)), .v (vec f), .v (.int (piv f)), .v (.lst (vecs (L.map fun v => lowL (el f v)))), x6, x7, x8] s) := by
  have hf := R.w f List.mem_cons_self
  have zf := R.z f List.mem_cons_self
  obtain ⟨_, p1, _⟩ := piv_ok zf
  have hrest : ∀ x5 x7 x8, compE (mBd 6) mTrue (mCall fblend [(mV 6), (mIx (mB 3) (mV 4)), (mV 3), (mBin .Sub (mK (.int 0)) (mIx (mB 6) (mV 4)))]) [.v q, .v (.lst (vecs (f :: L))), .v (.int (n + 1)), .v (vec f), .v (.int (piv f)), x5, .un, x7, x8] (vecs L) s = some (vecs (L.map fun v => lowL (el f v)), s) := by
    intro x5 x7 x8
    refine mapv_ev (fun v => lowL (el f v)) L fun v hv => ?_
    have hv' := List.mem_cons_of_mem f hv
    have e1 := at_zs p1
    have e2 := at_zs (v := v) (j := piv f) (by rw [R.w v hv', ← hf]; exact p1)
    have e3 := blend_ok (m := f.getD (piv f) 0) (n := 0 - v.getD (piv f) 0) s (i := b) (j := b) (k := 2 * b) (R.b v hv') (R.b f List.mem_cons_self) (by rw [show 2 * b - b = b by omega]; exact getD_bd (R.b f List.mem_cons_self) _) (by rw [show 2 * b - b = b by omega]; exact neg_bd (getD_bd (R.b v hv') _)) (by omega) (by omega) (by omega) (by rw [R.w v hv']; exact hw)
    refine ⟨_, rfl, rfl, ?_⟩
    simp [-Int.zero_sub, -List.getD_eq_getElem?_getD, e1, e2, e3, el]
  have hfl : ∀ (M : List (List Int)) (x7 x8 : Slot), (∀ v ∈ M, v.length ≤ 1000) → compE (mBd 6) (tE (mBlt "any" [(mComp (mIts (mB 6)) (mBd 8) mTrue (mCmp .NotEq (mB 8) (mK (.int 0))) [8])])) (mV 6) [.v q, .v (.lst (vecs (f :: L))), .v (.int (n + 1)), .v (vec f), .v (.int (piv f)), .v (.lst (vecs M)), .un, x7, x8] (vecs M) s = some (vecs (M.filter nz), s) := by
    intro M x7 x8 hM
    refine nzf_ev M fun v hv => ⟨_, rfl, nzc_ev v 6 8 rfl (fun _ => rfl) (hM v hv), by simp⟩
  have hrl : f.length < line := by rw [line_val]; omega
  have hr := r_len (f := f) (by omega)
  have hlL : (vecs L).length < line := by rw [vecs_len, line_val]; omega
  have hlM : (vecs (L.map fun v => lowL (el f v))).length < line := by rw [vecs_len, List.length_map, line_val]; omega
  have hpv : ∀ x4 x5 x6 x8, compE (mBd 7) (tE (mCmp .NotEq (mIx (mB 3) (mV 7)) (mK (.int 0)))) (mV 7) [.v q, .v (.lst (vecs (f :: L))), .v (.int (n + 1)), .v (vec f), x4, x5, x6, .un, x8] ((List.range f.length).map fun (k : Nat) => D.int (k : Int)) s = some ((nzs f).map fun (k : Nat) => D.int (k : Int), s) := by
    intro x4 x5 x6 x8
    refine nzs_ev f fun j hj => ⟨_, rfl, ?_, by simp⟩
    simp [-List.getD_eq_getElem?_getD, at_zs hj]
  have hpe := piv_ev zf
  have hq : vecs (f :: L) = vec f :: vecs L := rfl
  have hwM : ∀ v ∈ L.map (fun v => lowL (el f v)), v.length ≤ 1000 := fun v hv => by
    obtain ⟨u, hu, rfl⟩ := List.mem_map.mp hv
    rw [lowL_len, el, bl_len]
    omega
  have hfl2 := hfl (L.map fun v => lowL (el f v)) (x7) x8 hwM
  rw [hq] at hrest hfl2 hpv ⊢
  simp [rankB, zs_len, hr, hrl]
  simp [hpv, hpe, cut_tail, hlL, hrest]
  simp [hlM, hfl2, stepN]
theorem rank_loop {q : D} {s : S} {w : Nat} (hw : w ≤ 1000) (m : Nat) : ∀ (b : Nat) (L : List (List Int)) (n : Int) (x3 x4 x5 x6 x7 x8 : Slot) (k : Nat), Rows w b L → L.length ≤ 1000 → (L.length ≤ m ∨ cols w L ≤ m) → (b + 1) * 2 ^ m ≤ 4000 → m < k →
    ∃ y3 y4 y5 y6 y7 y8, whE rankT (sq rankB) k [.v q, .v (.lst (vecs L)), .v (.int n), x3, x4, x5, x6, x7, x8] s = some (.nx [.v q, .v (.lst []), .v (.int (n + rkN lowL m L)), y3, y4, y5, y6, y7, y8] s) := by
  have nil : ∀ (m : Nat) (n : Int) (x3 x4 x5 x6 x7 x8 : Slot) (k : Nat), m < k → ∃ y3 y4 y5 y6 y7 y8, whE rankT (sq rankB) k [.v q, .v (.lst (vecs [])), .v (.int n), x3, x4, x5, x6, x7, x8] s = some (.nx [.v q, .v (.lst []), .v (.int (n + rkN lowL m [])), y3, y4, y5, y6, y7, y8] s) := by
    intro m n x3 x4 x5 x6 x7 x8 k hk
    refine ⟨x3, x4, x5, x6, x7, x8, ?_⟩
    have : rkN lowL m [] = 0 := by cases m <;> rfl
    rw [this]
    cases k with
    | zero => omega
    | succ k =>
      rw [whE_f (s1 := s) (by simp [rankT, vecs])]
      simp [vecs]
  induction m with
  | zero =>
    intro b L n x3 x4 x5 x6 x7 x8 k R hl hm hb hk
    cases L with
    | nil => exact nil 0 n x3 x4 x5 x6 x7 x8 k hk
    | cons f L =>
      have := cols_pos R
      rcases hm with h | h
      · simp at h
      · omega
  | succ m ih =>
    intro b L n x3 x4 x5 x6 x7 x8 k R hl hm hb hk
    cases L with
    | nil => exact nil _ n x3 x4 x5 x6 x7 x8 k hk
    | cons f L =>
      obtain ⟨R', l', c'⟩ := R.step norm_low
      have b1 : b + 1 ≤ 4000 := Nat.le_trans (Nat.le_mul_of_pos_right _ (Nat.pow_pos (by decide))) hb
      have hll : L.length + 1 ≤ 1000 := by simpa using hl
      cases k with
      | zero => omega
      | succ k =>
        obtain ⟨y3, y4, y5, y6, y7, y8, e⟩ := ih (2 * b + 1) _ (n + 1) (.v (vec f)) (.v (.int (piv f))) (.v (.lst (vecs (L.map fun v => lowL (el f v))))) (x6) (x7) x8 k R' (by omega) (by
          rcases hm with h | h
          · left; simp at h; omega
          · right; omega) (by rw [Nat.pow_succ] at hb; rw [show 2 * b + 1 + 1 = (b + 1) * 2 by omega, Nat.mul_assoc, Nat.mul_comm 2]; exact hb) (by omega)
        refine ⟨y3, y4, y5, y6, y7, y8, ?_⟩
        rw [whE_t (s1 := s) (by simp [rankT, vecs]) (rank_step hw R hll b1 n x3 x4 x5 x6 x7 x8), e]
        have : (n + 1 + (rkN lowL m (stepN lowL f L) : Int)) = n + (rkN lowL (m + 1) (f :: L) : Int) := by
          show _ = n + ((rkN lowL m (stepN lowL f L) + 1 : Nat) : Int)
          omega
        rw [this]

/-- rank: the program's -/
theorem rank_ok {L : List (List Int)} {w b m : Nat} (s : S) (hw : ∀ v ∈ L, v.length = w) (hb : ∀ v ∈ L, Bd b v) (hw2 : w ≤ 1000) (hl : L.length ≤ 1000) (hm : L.length ≤ m ∨ w ≤ m) (hm2 : m ≤ 1000) (hbm : (b + 1) * 2 ^ m ≤ 4000) :
    frank [.lst (vecs L)] s = some (.int (rkN lowL m (L.filter nz)), s) := by
  have R : Rows w b (L.filter nz) := ⟨fun v hv => hw v (List.mem_filter.mp hv).1, fun v hv => (List.mem_filter.mp hv).2, fun v hv => hb v (List.mem_filter.mp hv).1⟩
  have hlf : (L.filter nz).length ≤ L.length := List.length_filter_le _ _
  have hcw : cols w (L.filter nz) ≤ w := Nat.le_trans (List.length_filter_le _ _) (by rw [List.length_range]; exact Nat.le_refl _)
  have hfl : compE (mBd 6) (tE (mBlt "any" [(mComp (mIts (mB 6)) (mBd 8) mTrue (mCmp .NotEq (mB 8) (mK (.int 0))) [8])])) (mV 6) [.v (.lst (vecs L)), .un, .un, .un, .un, .un, .un, .un, .un] (vecs L) s = some (vecs (L.filter nz), s) :=
    nzf_ev L fun v hv => ⟨_, rfl, nzc_ev v 6 8 rfl (fun _ => rfl) (by rw [hw v hv]; exact hw2), by simp⟩
  have hll : (vecs L).length < line := by rw [vecs_len, line_val]; omega
  obtain ⟨y3, y4, y5, y6, y7, y8, e⟩ := rank_loop (q := .lst (vecs L)) (s := s) hw2 m b (L.filter nz) 0 .un .un .un .un .un .un whF R (by omega) (by omega) hbm (by unfold whF; omega)
  refine dfn_rt rfl ?_
  simp only [rankT, rankB] at e
  simp [hfl, hll]
  rw [e]
  simp
end CH

set_option maxRecDepth 100000
namespace CH
open PySem
/-! ### the law's own rank -/
theorem pls_map {α : Type} (f : α → D) (h : ∀ x, (f x).pl = true) : ∀ l : List α, D.pls (l.map f) = true
  | [] => rfl
  | x :: l => by
    show ((f x).pl && D.pls (l.map f)) = true
    rw [h x, pls_map f h l]; rfl
theorem dps_map {α : Type} (f : α → D) {n : Nat} (h : ∀ x, (f x).dp ≤ n) : ∀ l : List α, D.dps (l.map f) ≤ n
  | [] => Nat.zero_le _
  | x :: l => by
    show max (f x).dp (D.dps (l.map f)) ≤ n
    exact Nat.max_le.mpr ⟨h x, dps_map f h l⟩
theorem pl_lst {α : Type} (f : α → D) {n : Nat} (hn : n < 60) (h : ∀ x, (f x).pl = true) (h2 : ∀ x, (f x).dp ≤ n) (l : List α) : Pl (.lst (l.map f)) := by
  refine ⟨pls_map f h l, ?_⟩
  have := dps_map f h2 l
  show D.dps (l.map f) + 1 ≤ 60
  omega
theorem pl_tup {α : Type} (f : α → D) {n : Nat} (hn : n < 60) (h : ∀ x, (f x).pl = true) (h2 : ∀ x, (f x).dp ≤ n) (l : List α) : Pl (.tup (l.map f)) := by
  refine ⟨pls_map f h l, ?_⟩
  have := dps_map f h2 l
  show D.dps (l.map f) + 1 ≤ 60
  omega
theorem vec_pl (v : List Int) : (vec v).pl = true := pls_zs v
theorem vec_dp (v : List Int) : (vec v).dp ≤ 1 := by show D.dps (zs v) + 1 ≤ 1; rw [dps_zs]; exact Nat.le_refl _
theorem lvec_pl (v : List Int) : (lvec v).pl = true := pls_zs v
theorem lvec_dp (v : List Int) : (lvec v).dp ≤ 1 := by show D.dps (zs v) + 1 ≤ 1; rw [dps_zs]; exact Nat.le_refl _
theorem pl_lvecs (L : List (List Int)) : Pl (.lst (lvecs L)) := pl_lst lvec (by decide) lvec_pl lvec_dp L
theorem pl_vecs (L : List (List Int)) : Pl (.lst (vecs L)) := pl_lst vec (by decide) vec_pl vec_dp L
theorem pl_zsl (v : List Int) : Pl (.lst (zs v)) := pl_lst D.int (n := 0) (by decide) (fun _ => rfl) (fun _ => Nat.le_refl _) v
theorem pl_nil : Pl (.lst []) := ⟨rfl, by decide⟩
theorem eqD_inj {α : Type} {f : α → D} (P : ∀ x, Pl (f x)) (hi : ∀ x y, f x = f y → x = y) [DecidableEq α] (x y : α) : eqD (f x) (f y) = some (decide (x = y)) := by
  obtain ⟨b, h1, h2⟩ := eqD_pl (P x) (P y)
  rw [h1]
  congr 1
  by_cases e : x = y
  · rw [decide_eq_true e, h2.mpr (by rw [e])]
  · rw [decide_eq_false e, Bool.eq_false_iff]
    exact fun z => e (hi x y (h2.mp z))
theorem map_inj {α : Type} {f : α → D} (hi : ∀ x y, f x = f y → x = y) : ∀ {a b : List α}, a.map f = b.map f → a = b
  | [], [], _ => rfl
  | [], _ :: _, h => by cases h
  | _ :: _, [], h => by cases h
  | x :: a, y :: b, h => by
    rw [List.map_cons, List.map_cons] at h
    injection h with h1 h2
    rw [hi x y h1, map_inj hi h2]
theorem vec_inj (x y : List Int) (h : vec x = vec y) : x = y := by injection h with h; exact zs_inj h
theorem lvec_inj (x y : List Int) (h : lvec x = lvec y) : x = y := by injection h with h; exact zs_inj h
theorem c_ne_of {a b : D} {x : Bool} (h : eqD a b = some x) : cmpD .NotEq a b = some (!x) := by
  show (eqD a b).map (!·) = _
  rw [h]; rfl
theorem c_ne_vecs (a b : List (List Int)) : cmpD .NotEq (.lst (vecs a)) (.lst (vecs b)) = some (!decide (a = b)) :=
  c_ne_of (eqD_inj (f := fun a => D.lst (vecs a)) pl_vecs (fun x y h => by injection h with h; exact map_inj vec_inj h) a b)
theorem c_eq_vecs (a b : List (List Int)) : cmpD .Eq (.lst (vecs a)) (.lst (vecs b)) = some (decide (a = b)) :=
  eqD_inj (f := fun a => D.lst (vecs a)) pl_vecs (fun x y h => by injection h with h; exact map_inj vec_inj h) a b
theorem c_ne_lvecs0 (a : List (List Int)) : cmpD .NotEq (.lst (lvecs a)) (.lst []) = some (!decide (a = [])) :=
  c_ne_of (eqD_inj (f := fun a => D.lst (lvecs a)) pl_lvecs (fun x y h => by injection h with h; exact map_inj lvec_inj h) a [])
theorem c_ne_zs0 (a : List Int) : cmpD .NotEq (.lst (zs a)) (.lst []) = some (!decide (a = [])) :=
  c_ne_of (eqD_inj (f := fun a => D.lst (zs a)) pl_zsl (fun x y h => by injection h with h; exact zs_inj h) a [])
theorem nz_filter (v : List Int) : (!decide (v.filter (fun x => !decide (x = 0)) = [])) = nz v := by
  unfold nz
  rw [Bool.eq_iff_iff, List.any_eq_true]
  simp only [Bool.not_eq_true', decide_eq_false_iff_not, List.filter_eq_nil_iff]
  constructor
  · intro h
    refine Classical.byContradiction fun z => h fun x hx => ?_
    exact fun w => z ⟨x, hx, by simpa using w⟩
  · rintro ⟨x, hx, h⟩ z
    exact z x hx (by simpa using h)
/-- the test that a row is not nought -/
theorem nzt_ev {r : Rho} {s : S} (v : List Int) (i j : Nat) (h : getS r i = .v (vec v) ∨ getS r i = .v (lvec v)) (hj : ∀ x : Int, getS (r.set j (.v (.int x))) j = .v (.int x)) (hl : v.length ≤ 1000) :
    tE (mCmp .NotEq (mComp (mIts (mB i)) (mBd j) (tE (mCmp .NotEq (mB j) (mK (.int 0)))) (mV j) [j]) (mLst [])) r s = some (nz v, s) := by
  have hl2 : (zs v).length < line := by rw [zs_len, line_val]; omega
  have hc : compE (mBd j) (tE (mCmp .NotEq (mB j) (mK (.int 0)))) (mV j) (r.set j .un) (zs v) s = some (zs (v.filter fun x => !decide (x = 0)), s) := by
    rw [zs, compE_filter D.int (fun x => !decide (x = 0)) D.int v]
    · rfl
    · intro x hx
      exact ⟨_, rfl, by simp [hj], by simp [hj]⟩
  rcases h with h | h <;> simp [h, hl2, hc, c_ne_zs0, ← nz_filter]
theorem el_list {f v : List Int} (h : v.length = f.length) : (List.range v.length).map (fun (j : Nat) => D.int (f.getD (piv f) 0 * v.getD j 0 - v.getD (piv f) 0 * f.getD j 0)) = zs (el f v) := by
  apply List.ext_getElem?
  intro j
  unfold zs
  rw [List.getElem?_map, List.getElem?_map]
  by_cases hj : j < v.length
  · have h1 : j < (el f v).length := by rw [el, bl_len]; omega
    rw [List.getElem?_eq_getElem (by simpa using hj), List.getElem?_eq_getElem h1, List.getElem_range]
    have h2 : (el f v)[j] = (el f v).getD j 0 := by rw [List.getD_eq_getElem?_getD, List.getElem?_eq_getElem h1]; rfl
    rw [h2, el, getD_bl h]
    simp only [Option.map_some]
    rw [Int.zero_sub, Int.neg_mul, Int.sub_eq_add_neg]
  · rw [List.getElem?_eq_none (by simpa using hj), List.getElem?_eq_none (by rw [el, bl_len]; omega)]
    rfl
end CH

set_option maxRecDepth 100000
namespace CH
open PySem
def lrankT : Ts := tE (mCmp .NotEq (mB 1) (mLst []))
def lrankF : List St := [sSet 7 [4, 4] (mComp (mRng (mBlt "len" [(mB 6)])) (mBd 8) mTrue (mBin .Sub (mBin .Mult (mIx (mB 3) (mV 4)) (mIx (mB 6) (mV 8))) (mBin .Mult (mIx (mB 6) (mV 4)) (mIx (mB 3) (mV 8)))) [8]),
         sIf [] (tE (mCmp .NotEq (mComp (mIts (mB 7)) (mBd 9) (tE (mCmp .NotEq (mB 9) (mK (.int 0)))) (mV 9) [9]) (mLst [])))
           [sApp 5 [7] (mV 7)]
           []]
def lrankB : List St :=
     [sSet 2 [] (mBin .Add (mB 2) (mK (.int 1))),
      sSet 3 [] (mIx (mB 1) (mK (.int 0))),
      sSet 4 [] (mIx (mComp (mRng (mBlt "len" [(mB 3)])) (mBd 8) (tE (mCmp .NotEq (mIx (mB 3) (mV 8)) (mK (.int 0)))) (mV 8) [8]) (mK (.int 0))),
      sOwn 5 [] (mLst []),
      sFor [] (mIts (mSl (mB 1) (some (mK (.int 1))) none)) (mBd 6) lrankF,
      sSet 1 [5] (mV 5)]
theorem lvecs_len (L : List (List Int)) : (lvecs L).length = L.length := by simp [lvecs]
theorem lvecs_snoc (L : List (List Int)) (v : List Int) : lvecs L ++ [.lst (zs v)] = lvecs (L ++ [v]) := by simp [lvecs]
theorem lrank_for {q : D} {s : S} {w b : Nat} {f : List Int} {L : List (List Int)} (hw : w ≤ 1000) (R : Rows w b (f :: L)) (hll : L.length + 1 ≤ 1000) (b1 : b + 1 ≤ 20000000) (n : Int) (z1 : D) (x6 x7 x8 x9 : Slot) :
    ∃ y6 y7 y8 y9, forE (mBd 6) (sq lrankF) (lvecs L) [.v q, .v z1, .v (.int n), .v (lvec f), .v (.int (piv f)), .own [], x6, x7, x8, x9] s = some (.nx [.v q, .v z1, .v (.int n), .v (lvec f), .v (.int (piv f)), .own (lvecs (stepN id f L)), y6, y7, y8, y9] s) := by
  have hf := R.w f List.mem_cons_self
  have zf := R.z f List.mem_cons_self
  obtain ⟨_, p1, _⟩ := piv_ok zf
  obtain ⟨r', s', h1, h2⟩ := forE_inv (bd := mBd 6) (body := sq lrankF)
    (fun xs r s' => ∃ (M acc : List (List Int)) (y6 y7 y8 y9 : Slot), xs = lvecs M ∧ (∀ v ∈ M, v ∈ L) ∧ acc ++ stepN id f M = stepN id f L ∧ r = [.v q, .v z1, .v (.int n), .v (lvec f), .v (.int (piv f)), .own (lvecs acc), y6, y7, y8, y9] ∧ s' = s) (by
      rintro x xs r s1 ⟨M, acc, y6, y7, y8, y9, e1, e2, e3, e4, e5⟩
      cases M with
      | nil => cases e1
      | cons v M =>
        cases e1
        subst e4 e5
        have hv := e2 v List.mem_cons_self
        have hv' := List.mem_cons_of_mem f hv
        have hvl := R.w v hv'
        have hr := r_len (f := v) (by omega)
        have hrl : v.length < line := by rw [line_val]; omega
        have hcomp : ∀ x5 y7 y9 : Slot, compE (mBd 8) mTrue (mBin .Sub (mBin .Mult (mIx (mB 3) (mV 4)) (mIx (mB 6) (mV 8))) (mBin .Mult (mIx (mB 6) (mV 4)) (mIx (mB 3) (mV 8)))) [.v q, .v z1, .v (.int n), .v (lvec f), .v (.int (piv f)), x5, .v (lvec v), y7, .un, y9] ((List.range v.length).map fun (k : Nat) => D.int (k : Int)) s1 = some (zs (el f v), s1) := by
          intro x5 y7 y9
          rw [compE_map (fun (k : Nat) => D.int (k : Int)) (fun (j : Nat) => D.int (f.getD (piv f) 0 * v.getD j 0 - v.getD (piv f) 0 * f.getD j 0)) (List.range v.length)]
          · rw [el_list (by omega)]
          · intro j hj
            have hj := List.mem_range.mp hj
            refine ⟨_, rfl, rfl, ?_⟩
            simp [-List.getD_eq_getElem?_getD, at_zs p1, at_zs hj, at_zs (v := v) (j := piv f) (by omega), at_zs (v := f) (j := j) (by omega), o_mul (fits_k (getD_bd (R.b f List.mem_cons_self) (piv f)) (by omega)) (fits_k (getD_bd (R.b v hv') j) (by omega)), o_mul (fits_k (getD_bd (R.b v hv') (piv f)) (by omega)) (fits_k (getD_bd (R.b f List.mem_cons_self) j) (by omega))]
        have hel : (el f v).length ≤ 1000 := by rw [el, bl_len]; omega
        have hacc : (lvecs acc).length < line := by
          have := congrArg List.length e3
          rw [List.length_append] at this
          have h3 : (stepN id f L).length ≤ L.length := by
            unfold stepN
            exact Nat.le_trans (List.length_filter_le _ _) (by rw [List.length_map]; exact Nat.le_refl _)
          rw [lvecs_len, line_val]; omega
        have hnz : ∀ x8 x9 : Slot, tE (mCmp .NotEq (mComp (mIts (mB 7)) (mBd 9) (tE (mCmp .NotEq (mB 9) (mK (.int 0)))) (mV 9) [9]) (mLst [])) [.v q, .v z1, .v (.int n), .v (lvec f), .v (.int (piv f)), .own (lvecs acc), .v (lvec v), .v (lvec (el f v)), x8, x9] s1 = some (nz (el f v), s1) := fun x8 x9 => nzt_ev (el f v) 7 9 (.inr rfl) (fun _ => rfl) hel
        by_cases hz : nz (el f v) = true
        · refine ⟨_, [.v q, .v z1, .v (.int n), .v (lvec f), .v (.int (piv f)), .own (lvecs (acc ++ [el f v])), .v (lvec v), .v (lvec (el f v)), y8, y9], s1, rfl, ?_, M, acc ++ [el f v], _, _, _, _, rfl, fun u hu => e2 u (List.mem_cons_of_mem _ hu), ?_, rfl, rfl⟩
          · simp [-y_e, lrankF, zs_len, hr, hrl, hcomp, hnz, hz, hacc, lvecs_snoc]
          · rw [← e3, List.append_assoc]
            congr 1
            unfold stepN
            rw [List.map_cons, List.filter_cons_of_pos (by exact hz)]
            rfl
        · refine ⟨_, [.v q, .v z1, .v (.int n), .v (lvec f), .v (.int (piv f)), .own (lvecs acc), .v (lvec v), .v (lvec (el f v)), y8, y9], s1, rfl, ?_, M, acc, _, _, _, _, rfl, fun u hu => e2 u (List.mem_cons_of_mem _ hu), ?_, rfl, rfl⟩
          · simp [-y_e, lrankF, zs_len, hr, hrl, hcomp, hnz, hz, hacc, lvecs_snoc]
          · rw [← e3]
            congr 1
            unfold stepN
            rw [List.map_cons, List.filter_cons_of_neg (by exact hz)]) (lvecs L) _ s ⟨L, [], x6, x7, x8, x9, rfl, fun _ h => h, rfl, rfl, rfl⟩
  obtain ⟨M, acc, y6, y7, y8, y9, e1, e2, e3, e4, e5⟩ := h2
  cases M with
  | cons v M => cases e1
  | nil =>
    subst e4 e5
    have : acc = stepN id f L := by rw [← e3]; simp [stepN]
    subst this
    exact ⟨y6, y7, y8, y9, h1⟩
theorem lrank_step {q : D} {s : S} {w b : Nat} {f : List Int} {L : List (List Int)} (hw : w ≤ 1000) (R : Rows w b (f :: L)) (hll : L.length + 1 ≤ 1000) (b1 : b + 1 ≤ 20000000) (n : Int) (x3 x4 x5 x6 x7 x8 x9 : Slot) :
    ∃ y3 y4 y5 y6 y7 y8 y9, sq lrankB [.v q, .v (.lst (lvecs (f :: L))), .v (.int n), x3, x4, x5, x6, x7, x8, x9] s = some (.nx [.v q, .v (.lst (lvecs (stepN id f L))), .v (.int (n + 1)), y3, y4, y5, y6, y7, y8, y9] s) := by
  have hf := R.w f List.mem_cons_self
  have zf := R.z f List.mem_cons_self
  have hrl : f.length < line := by rw [line_val]; omega
  have hr := r_len (f := f) (by omega)
  have hq : lvecs (f :: L) = lvec f :: lvecs L := rfl
  have hpv : ∀ x4 x5 x6 x7 x9 : Slot, compE (mBd 8) (tE (mCmp .NotEq (mIx (mB 3) (mV 8)) (mK (.int 0)))) (mV 8) [.v q, .v (.lst (lvecs (f :: L))), .v (.int (n + 1)), .v (lvec f), x4, x5, x6, x7, .un, x9] ((List.range f.length).map fun (k : Nat) => D.int (k : Int)) s = some ((nzs f).map fun (k : Nat) => D.int (k : Int), s) := by
    intro x4 x5 x6 x7 x9
    refine nzs_ev f fun j hj => ⟨_, rfl, ?_, by simp⟩
    simp [-List.getD_eq_getElem?_getD, at_zs hj]
  have hpe := piv_ev zf
  obtain ⟨y6, y7, y8, y9, e⟩ := lrank_for (q := q) (s := s) hw R hll b1 (n + 1) (.lst (lvecs (f :: L))) x6 x7 (x8) x9
  refine ⟨.v (lvec f), .v (.int (piv f)), .v (.lst (lvecs (stepN id f L))), y6, y7, y8, y9, ?_⟩
  rw [hq] at hpv e ⊢
  simp [lrankB, zs_len, hr, hrl, hpv, hpe, cut_tail, e]

theorem lrank_loop {q : D} {s : S} {w : Nat} (hw : w ≤ 1000) (m : Nat) : ∀ (b : Nat) (L : List (List Int)) (n : Int) (x3 x4 x5 x6 x7 x8 x9 : Slot) (k : Nat), Rows w b L → L.length ≤ 1000 → (L.length ≤ m ∨ cols w L ≤ m) → (b + 1) * 2 ^ m ≤ 20000000 → m < k →
    ∃ y3 y4 y5 y6 y7 y8 y9, whE lrankT (sq lrankB) k [.v q, .v (.lst (lvecs L)), .v (.int n), x3, x4, x5, x6, x7, x8, x9] s = some (.nx [.v q, .v (.lst []), .v (.int (n + rkN id m L)), y3, y4, y5, y6, y7, y8, y9] s) := by
  have nil : ∀ (m : Nat) (n : Int) (x3 x4 x5 x6 x7 x8 x9 : Slot) (k : Nat), m < k → ∃ y3 y4 y5 y6 y7 y8 y9, whE lrankT (sq lrankB) k [.v q, .v (.lst (lvecs [])), .v (.int n), x3, x4, x5, x6, x7, x8, x9] s = some (.nx [.v q, .v (.lst []), .v (.int (n + rkN id m [])), y3, y4, y5, y6, y7, y8, y9] s) := by
    intro m n x3 x4 x5 x6 x7 x8 x9 k hk
    refine ⟨x3, x4, x5, x6, x7, x8, x9, ?_⟩
    have : rkN id m [] = 0 := by cases m <;> rfl
    rw [this]
    cases k with
    | zero => omega
    | succ k =>
      rw [whE_f (s1 := s) (by simp [lrankT, c_ne_lvecs0])]
      simp [lvecs]
  induction m with
  | zero =>
    intro b L n x3 x4 x5 x6 x7 x8 x9 k R hl hm hb hk
    cases L with
    | nil => exact nil 0 n x3 x4 x5 x6 x7 x8 x9 k hk
    | cons f L =>
      have := cols_pos R
      rcases hm with h | h
      · simp at h
      · omega
  | succ m ih =>
    intro b L n x3 x4 x5 x6 x7 x8 x9 k R hl hm hb hk
    cases L with
    | nil => exact nil _ n x3 x4 x5 x6 x7 x8 x9 k hk
    | cons f L =>
      obtain ⟨R', l', c'⟩ := R.step norm_id
      have b1 : b + 1 ≤ 20000000 := Nat.le_trans (Nat.le_mul_of_pos_right _ (Nat.pow_pos (by decide))) hb
      have hll : L.length + 1 ≤ 1000 := by simpa using hl
      cases k with
      | zero => omega
      | succ k =>
        obtain ⟨z3, z4, z5, z6, z7, z8, z9, e0⟩ := lrank_step (q := q) (s := s) hw R hll b1 n x3 x4 x5 x6 x7 x8 x9
        obtain ⟨y3, y4, y5, y6, y7, y8, y9, e⟩ := ih (2 * b + 1) _ (n + 1) z3 z4 z5 z6 z7 z8 z9 k R' (by omega) (by
          rcases hm with h | h
          · left; simp at h; omega
          · right; omega) (by rw [Nat.pow_succ] at hb; rw [show 2 * b + 1 + 1 = (b + 1) * 2 by omega, Nat.mul_assoc, Nat.mul_comm 2]; exact hb) (by omega)
        refine ⟨y3, y4, y5, y6, y7, y8, y9, ?_⟩
        rw [whE_t (s1 := s) (by simp [lrankT, c_ne_lvecs0]) e0, e]
        have : (n + 1 + (rkN id m (stepN id f L) : Int)) = n + (rkN id (m + 1) (f :: L) : Int) := by
          show _ = n + ((rkN id m (stepN id f L) + 1 : Nat) : Int)
          omega
        rw [this]
theorem lrank_ok {L : List (List Int)} {w b m : Nat} (s : S) (hw : ∀ v ∈ L, v.length = w) (hb : ∀ v ∈ L, Bd b v) (hw2 : w ≤ 1000) (hl : L.length ≤ 1000) (hm : L.length ≤ m ∨ w ≤ m) (hm2 : m ≤ 1000) (hbm : (b + 1) * 2 ^ m ≤ 20000000) :
    f_law_rank [.lst (vecs L)] s = some (.int (rkN id m (L.filter nz)), s) := by
  have R : Rows w b (L.filter nz) := ⟨fun v hv => hw v (List.mem_filter.mp hv).1, fun v hv => (List.mem_filter.mp hv).2, fun v hv => hb v (List.mem_filter.mp hv).1⟩
  have hlf : (L.filter nz).length ≤ L.length := List.length_filter_le _ _
  have hcw : cols w (L.filter nz) ≤ w := Nat.le_trans (List.length_filter_le _ _) (by rw [List.length_range]; exact Nat.le_refl _)
  have hfl : compE (mBd 6) (tE (mCmp .NotEq (mComp (mIts (mB 6)) (mBd 9) (tE (mCmp .NotEq (mB 9) (mK (.int 0)))) (mV 9) [9]) (mLst []))) (mBlt "list" [(mB 6)]) [.v (.lst (vecs L)), .un, .un, .un, .un, .un, .un, .un, .un, .un] (vecs L) s = some (lvecs (L.filter nz), s) := by
    unfold vecs lvecs
    exact compE_filter vec nz lvec L fun v hv => ⟨_, rfl, nzt_ev v 6 9 (.inl rfl) (fun _ => rfl) (by rw [hw v hv]; exact hw2), fun _ => by simp⟩
  have hll : (vecs L).length < line := by rw [vecs_len, line_val]; omega
  obtain ⟨y3, y4, y5, y6, y7, y8, y9, e⟩ := lrank_loop (q := .lst (vecs L)) (s := s) hw2 m b (L.filter nz) 0 .un .un .un .un (freeze1 .un) .un .un whF R (by omega) (by omega) hbm (by unfold whF; omega)
  refine dfn_rt rfl ?_
  simp only [lrankT, lrankB, lrankF, fz_un] at e
  simp [hfl, hll]
  rw [e]
  simp
end CH

/-! Vectors over the rationals, products, spans, cones. -/
namespace CM
abbrev V := Nat → Rat
instance : Add V := ⟨fun x y i => x i + y i⟩
instance : Sub V := ⟨fun x y i => x i - y i⟩
instance : Neg V := ⟨fun x i => -x i⟩
instance : Zero V := ⟨fun _ => 0⟩
def sm (c : Rat) (x : V) : V := fun i => c * x i
@[simp] theorem add_at (x y : V) (i : Nat) : (x + y) i = x i + y i := rfl
@[simp] theorem sub_at (x y : V) (i : Nat) : (x - y) i = x i - y i := rfl
@[simp] theorem neg_at (x : V) (i : Nat) : (-x) i = -x i := rfl
@[simp] theorem zero_at (i : Nat) : (0 : V) i = 0 := rfl
@[simp] theorem sm_at (c : Rat) (x : V) (i : Nat) : sm c x i = c * x i := rfl
theorem add_zero' (x : V) : x + 0 = x := by funext i; simp; grind
theorem zero_add' (x : V) : 0 + x = x := by funext i; simp; grind
theorem one_sm (x : V) : sm 1 x = x := by funext i; simp
theorem zero_sm (x : V) : sm 0 x = 0 := by funext i; simp
theorem sm_zero (c : Rat) : sm c 0 = 0 := by funext i; simp
theorem sm_sm (c d : Rat) (x : V) : sm c (sm d x) = sm (c * d) x := by funext i; simp; grind
theorem sm_add (c : Rat) (x y : V) : sm c (x + y) = sm c x + sm c y := by funext i; simp; grind
def dt : Nat → V → V → Rat
  | 0, _, _ => 0
  | n + 1, a, x => dt n a x + a n * x n
section
variable {n : Nat}
theorem dt_comm (a x : V) : dt n a x = dt n x a := by
  induction n with
  | zero => rfl
  | succ n ih => simp only [dt, ih]; grind
theorem dt_add (a x y : V) : dt n a (x + y) = dt n a x + dt n a y := by
  induction n with
  | zero => simp [dt]; grind
  | succ n ih => simp only [dt, ih, add_at]; grind
theorem dt_sub (a x y : V) : dt n a (x - y) = dt n a x - dt n a y := by
  induction n with
  | zero => simp [dt]; grind
  | succ n ih => simp only [dt, ih, sub_at]; grind
theorem dt_sm (a : V) (c : Rat) (x : V) : dt n a (sm c x) = c * dt n a x := by
  induction n with
  | zero => simp [dt]
  | succ n ih => simp only [dt, ih, sm_at]; grind
theorem dt_neg (a x : V) : dt n a (-x) = -dt n a x := by
  induction n with
  | zero => simp [dt]
  | succ n ih => simp only [dt, ih, neg_at]; grind
theorem dt_zero (a : V) : dt n a 0 = 0 := by
  induction n with
  | zero => rfl
  | succ n ih => simp only [dt, ih, zero_at]; grind
theorem add_dt (a b x : V) : dt n (a + b) x = dt n a x + dt n b x := by rw [dt_comm, dt_add, dt_comm x a, dt_comm x b]
theorem sub_dt (a b x : V) : dt n (a - b) x = dt n a x - dt n b x := by rw [dt_comm, dt_sub, dt_comm x a, dt_comm x b]
theorem sm_dt (c : Rat) (a x : V) : dt n (sm c a) x = c * dt n a x := by rw [dt_comm, dt_sm, dt_comm x a]
theorem neg_dt (a x : V) : dt n (-a) x = -dt n a x := by rw [dt_comm, dt_neg, dt_comm x a]
theorem zero_dt (x : V) : dt n 0 x = 0 := by rw [dt_comm, dt_zero]
theorem dt_congr {a b x y : V} (h : ∀ i, i < n → a i * x i = b i * y i) : dt n a x = dt n b y := by
  induction n with
  | zero => rfl
  | succ n ih => simp only [dt]; rw [ih fun i hi => h i (by omega), h n (by omega)]
theorem dt_self_nonneg (x : V) : 0 ≤ dt n x x := by
  induction n with
  | zero => simp [dt]
  | succ n ih =>
    simp only [dt]
    have h : 0 ≤ x n * x n := by
      rcases Rat.le_total (a := 0) (b := x n) with h | h
      · exact Rat.mul_nonneg h h
      · have := Rat.mul_nonneg (a := -x n) (b := -x n) (by grind) (by grind)
        grind
    grind
theorem dt_self_zero {x : V} (h : dt n x x = 0) : ∀ i, i < n → x i = 0 := by
  induction n with
  | zero => intro i hi; omega
  | succ n ih =>
    simp only [dt] at h
    have h0 := dt_self_nonneg (n := n) x
    have h1 : 0 ≤ x n * x n := by
      rcases Rat.le_total (a := 0) (b := x n) with h | h
      · exact Rat.mul_nonneg h h
      · have := Rat.mul_nonneg (a := -x n) (b := -x n) (by grind) (by grind)
        grind
    have h2 : dt n x x = 0 := by grind
    have h3 : x n * x n = 0 := by grind
    intro i hi
    by_cases e : i = n
    · subst e
      rcases Rat.mul_eq_zero.mp h3 with h | h <;> exact h
    · exact ih h2 i (by omega)
/-- supported below n -/
def Su (n : Nat) (x : V) : Prop := ∀ i, n ≤ i → x i = 0
theorem Su.add {x y : V} (hx : Su n x) (hy : Su n y) : Su n (x + y) := fun i hi => by simp [hx i hi, hy i hi]; grind
theorem Su.sub {x y : V} (hx : Su n x) (hy : Su n y) : Su n (x - y) := fun i hi => by simp [hx i hi, hy i hi]; grind
theorem Su.sm {x : V} (c : Rat) (hx : Su n x) : Su n (sm c x) := fun i hi => by simp [hx i hi]
theorem Su.neg {x : V} (hx : Su n x) : Su n (-x) := fun i hi => by simp [hx i hi]
theorem Su.zero : Su n 0 := fun i hi => rfl
theorem eq_zero_of_self {x : V} (hs : Su n x) (h : dt n x x = 0) : x = 0 := by
  funext i
  by_cases e : i < n
  · exact dt_self_zero h i e
  · exact hs i (by omega)
/-- unit -/
def un (k : Nat) : V := fun i => if i = k then 1 else 0
theorem Su.un {k : Nat} (h : k < n) : Su n (un k) := fun i hi => by unfold CM.un; rw [if_neg (by omega)]
theorem dt_un {k : Nat} (x : V) (h : k < n) : dt n (un k) x = x k := by
  induction n with
  | zero => omega
  | succ n ih =>
    simp only [dt]
    by_cases e : k = n
    · subst e
      have : dt k (un k) x = dt k 0 x := dt_congr fun i hi => by unfold un; rw [if_neg (by omega)]; simp
      rw [this, zero_dt]; unfold un; simp; grind
    · rw [ih (by omega)]; unfold un; rw [if_neg (by omega)]; grind
/-- spans -/
inductive Sp (B : V → Prop) : V → Prop
  | zero : Sp B 0
  | step {b x : V} (c : Rat) : B b → Sp B x → Sp B (sm c b + x)
/-- cones -/
inductive Cn (B : V → Prop) : V → Prop
  | zero : Cn B 0
  | step {b x : V} {c : Rat} : 0 ≤ c → B b → Cn B x → Cn B (sm c b + x)
variable {B C : V → Prop}
theorem Sp.mem {b : V} (h : B b) : Sp B b := by
  have := Sp.step 1 h (Sp.zero (B := B))
  rwa [one_sm, add_zero'] at this
theorem Cn.mem {b : V} (h : B b) : Cn B b := by
  have := Cn.step (c := 1) (by decide) h (Cn.zero (B := B))
  rwa [one_sm, add_zero'] at this
theorem Sp.add {x y : V} (hx : Sp B x) (hy : Sp B y) : Sp B (x + y) := by
  induction hx with
  | zero => rwa [zero_add']
  | step c hb _ ih =>
    rw [show ∀ a b c : V, a + b + c = a + (b + c) from fun a b c => by funext i; simp; grind]
    exact .step c hb ih
theorem Cn.add {x y : V} (hx : Cn B x) (hy : Cn B y) : Cn B (x + y) := by
  induction hx with
  | zero => rwa [zero_add']
  | step h hb _ ih =>
    rw [show ∀ a b c : V, a + b + c = a + (b + c) from fun a b c => by funext i; simp; grind]
    exact .step h hb ih
theorem Sp.sm {x : V} (d : Rat) (hx : Sp B x) : Sp B (sm d x) := by
  induction hx with
  | zero => rw [sm_zero]; exact .zero
  | step c hb _ ih => rw [sm_add, sm_sm]; exact .step _ hb ih
theorem Cn.sm {x : V} {d : Rat} (hd : 0 ≤ d) (hx : Cn B x) : Cn B (sm d x) := by
  induction hx with
  | zero => rw [sm_zero]; exact .zero
  | step h hb _ ih => rw [sm_add, sm_sm]; exact .step (Rat.mul_nonneg hd h) hb ih
theorem Sp.neg {x : V} (hx : Sp B x) : Sp B (-x) := by
  have := Sp.sm (-1) hx
  rwa [show CM.sm (-1) x = -x from by funext i; simp; grind] at this
theorem Sp.sub {x y : V} (hx : Sp B x) (hy : Sp B y) : Sp B (x - y) := by
  have := Sp.add hx (Sp.neg hy)
  rwa [show x + -y = x - y from by funext i; simp; grind] at this
theorem Cn.sp {x : V} (h : Cn B x) : Sp B x := by
  induction h with
  | zero => exact .zero
  | step _ hb _ ih => exact .step _ hb ih
theorem Sp.trans {x : V} (h : Sp B x) (hb : ∀ b, B b → Sp C b) : Sp C x := by
  induction h with
  | zero => exact .zero
  | step c h _ ih => exact .add (.sm _ (hb _ h)) ih
theorem Cn.trans {x : V} (h : Cn B x) (hb : ∀ b, B b → Cn C b) : Cn C x := by
  induction h with
  | zero => exact .zero
  | step h0 h _ ih => exact .add (.sm h0 (hb _ h)) ih
theorem Sp.mono {x : V} (h : Sp B x) (hb : ∀ b, B b → C b) : Sp C x := h.trans fun b q => .mem (hb b q)
theorem Cn.mono {x : V} (h : Cn B x) (hb : ∀ b, B b → C b) : Cn C x := h.trans fun b q => .mem (hb b q)
theorem Sp.su {x : V} (h : Sp B x) (hb : ∀ b, B b → Su n b) : Su n x := by
  induction h with
  | zero => exact Su.zero
  | step c h _ ih => exact Su.add (Su.sm _ (hb _ h)) ih
theorem Sp.dt0 {a x : V} (h : Sp B x) (hb : ∀ b, B b → dt n a b = 0) : dt n a x = 0 := by
  induction h with
  | zero => exact dt_zero a
  | step c h _ ih => rw [dt_add, dt_sm, hb _ h, ih]; grind
theorem Cn.dt0 {a x : V} (h : Cn B x) (hb : ∀ b, B b → 0 ≤ dt n a b) : 0 ≤ dt n a x := by
  induction h with
  | zero => rw [dt_zero]; exact Rat.le_refl
  | step h0 h _ ih => rw [dt_add, dt_sm]; exact Rat.add_nonneg (Rat.mul_nonneg h0 (hb _ h)) ih
/-- the span of a list -/
theorem Sp.cons {b : V} {L : List V} {x : V} : Sp (· ∈ b :: L) x ↔ ∃ c y, Sp (· ∈ L) y ∧ x = CM.sm c b + y := by
  constructor
  · intro h
    induction h with
    | zero => exact ⟨0, 0, .zero, by rw [zero_sm, zero_add']⟩
    | step c hb _ ih =>
      obtain ⟨d, y, hy, rfl⟩ := ih
      rcases List.mem_cons.mp hb with rfl | hb
      · exact ⟨c + d, y, hy, by funext i; simp; grind⟩
      · exact ⟨d, CM.sm c _ + y, .step c hb hy, by funext i; simp; grind⟩
  · rintro ⟨c, y, hy, rfl⟩
    exact .step c List.mem_cons_self (hy.mono fun _ => List.mem_cons_of_mem _)
theorem Sp.nil {x : V} (h : Sp (· ∈ ([] : List V)) x) : x = 0 := by
  cases h with
  | zero => rfl
  | step c hb _ => cases hb
/-- independence -/
def Ind : List V → Prop
  | [] => True
  | b :: L => ¬ Sp (· ∈ L) b ∧ Ind L
/-- one functional costs one -/
theorem Ind.ker (a : V) : ∀ {B : List V}, Ind B → ∃ B', Ind B' ∧ (∀ b ∈ B', Sp (· ∈ B) b ∧ dt n a b = 0) ∧ B.length ≤ B'.length + 1
  | [], _ => ⟨[], trivial, by simp, by simp⟩
  | b :: B, ⟨h1, h2⟩ => by
    by_cases hz : ∀ y, Sp (· ∈ B) y → dt n a y = 0
    · exact ⟨B, h2, fun c hc => ⟨Sp.mem (List.mem_cons_of_mem _ hc), hz c (Sp.mem hc)⟩, by simp⟩
    · obtain ⟨y, hy⟩ := Classical.not_forall.mp hz
      obtain ⟨hy, hn⟩ := Classical.not_imp.mp hy
      obtain ⟨B', i1, i2, i3⟩ := Ind.ker a h2
      refine ⟨(b - CM.sm (dt n a b / dt n a y) y) :: B', ⟨fun hs => h1 ?_, i1⟩, ?_, by simp; omega⟩
      · have := (hs.trans fun c hc => (i2 c hc).1).add (Sp.sm (dt n a b / dt n a y) hy)
        rwa [show b - CM.sm (dt n a b / dt n a y) y + CM.sm (dt n a b / dt n a y) y = b from by funext i; simp; grind] at this
      · intro c hc
        rcases List.mem_cons.mp hc with rfl | hc
        · refine ⟨.sub (.mem List.mem_cons_self) (.sm _ (hy.mono fun _ => List.mem_cons_of_mem _)), ?_⟩
          rw [dt_sub, dt_sm]
          grind
        · exact ⟨(i2 c hc).1.mono fun _ => List.mem_cons_of_mem _, (i2 c hc).2⟩
/-- fewer functionals than independent vectors: one is nought at all -/
theorem Ind.kers : ∀ (E : List V) {B : List V}, Ind B → ∃ B', Ind B' ∧ (∀ b ∈ B', Sp (· ∈ B) b ∧ ∀ e ∈ E, dt n e b = 0) ∧ B.length ≤ B'.length + E.length
  | [], B, h => ⟨B, h, fun b hb => ⟨.mem hb, fun _ h => nomatch h⟩, by simp⟩
  | e :: E, B, h => by
    obtain ⟨B1, h1, h2, h3⟩ := Ind.ker (n := n) e h
    obtain ⟨B2, j1, j2, j3⟩ := Ind.kers E h1
    refine ⟨B2, j1, fun b hb => ⟨(j2 b hb).1.trans fun c hc => (h2 c hc).1, fun e' he => ?_⟩, by simp; omega⟩
    rcases List.mem_cons.mp he with rfl | he
    · exact (j2 b hb).1.dt0 fun c hc => (h2 c hc).2
    · exact (j2 b hb).2 e' he
theorem Ind.ne {b : V} {B : List V} (h : Ind B) (hb : b ∈ B) : b ≠ 0 := by
  induction B with
  | nil => cases hb
  | cons c B ih =>
    rcases List.mem_cons.mp hb with rfl | hb
    · exact fun e => h.1 (e ▸ .zero)
    · exact ih h.2 hb
theorem Ind.some (E : List V) {B : List V} (h : Ind B) (hl : E.length < B.length) : ∃ x, x ≠ 0 ∧ Sp (· ∈ B) x ∧ ∀ e ∈ E, dt n e x = 0 := by
  obtain ⟨B', h1, h2, h3⟩ := Ind.kers (n := n) E h
  cases B' with
  | nil => simp at h3; omega
  | cons b B' => exact ⟨b, h1.ne List.mem_cons_self, h2 b List.mem_cons_self⟩
end
end CM

/-! Rank, dimension; cones by rows; Minkowski and Farkas. -/
namespace CM
open Classical
section
variable {n : Nat}
/-- rank of a list -/
noncomputable def rk : List V → Nat
  | [] => 0
  | a :: A => if Sp (· ∈ A) a then rk A else rk A + 1
/-- a basis taken from the list -/
theorem rk_basis : ∀ A : List V, ∃ B, Ind B ∧ B.length = rk A ∧ (∀ b ∈ B, b ∈ A) ∧ ∀ x, Sp (· ∈ A) x ↔ Sp (· ∈ B) x
  | [] => ⟨[], trivial, rfl, fun _ h => h, fun x => Iff.rfl⟩
  | a :: A => by
    obtain ⟨B, h1, h2, h3, h4⟩ := rk_basis A
    unfold rk
    by_cases h : Sp (· ∈ A) a
    · rw [if_pos h]
      refine ⟨B, h1, h2, fun b hb => List.mem_cons_of_mem _ (h3 b hb), fun x => ⟨fun hx => ?_, fun hx => hx.mono fun b hb => List.mem_cons_of_mem _ (h3 b hb)⟩⟩
      refine hx.trans fun b hb => ?_
      rcases List.mem_cons.mp hb with rfl | hb
      · exact (h4 _).mp h
      · exact (h4 _).mp (.mem hb)
    · rw [if_neg h]
      refine ⟨a :: B, ⟨fun hs => h ((h4 _).mpr hs), h1⟩, by simp [h2], fun b hb => ?_, fun x => ⟨fun hx => ?_, fun hx => ?_⟩⟩
      · rcases List.mem_cons.mp hb with rfl | hb
        · exact List.mem_cons_self
        · exact List.mem_cons_of_mem _ (h3 b hb)
      · refine hx.trans fun b hb => ?_
        rcases List.mem_cons.mp hb with rfl | hb
        · exact .mem List.mem_cons_self
        · exact ((h4 _).mp (.mem hb)).mono fun _ => List.mem_cons_of_mem _
      · refine hx.mono fun b hb => ?_
        rcases List.mem_cons.mp hb with rfl | hb
        · exact List.mem_cons_self
        · exact List.mem_cons_of_mem _ (h3 b hb)
/-- exchange: independent vectors within the span of others are not more -/
theorem Ind.le : ∀ {B A : List V}, Ind A → (∀ a ∈ A, Sp (· ∈ B) a) → A.length ≤ B.length
  | [], [], _, _ => Nat.le_refl _
  | [], a :: A, h, hs => by
    have := (hs a List.mem_cons_self).nil
    exact absurd this (h.ne List.mem_cons_self)
  | b :: B, A, h, hs => by
    -- coordinates of b as a choice: take off b
    have key : ∀ {A : List V}, Ind A → (∀ a ∈ A, Sp (· ∈ b :: B) a) → ∃ A', Ind A' ∧ (∀ a ∈ A', Sp (· ∈ B) a ∧ Sp (· ∈ A) a) ∧ A.length ≤ A'.length + 1 := by
      intro A
      induction A with
      | nil => intro _ _; exact ⟨[], trivial, fun _ h => (nomatch h), by simp⟩
      | cons a A ih =>
        intro h hs
        obtain ⟨h1, h2⟩ := h
        by_cases hz : ∀ y, Sp (· ∈ A) y → Sp (· ∈ B) y
        · exact ⟨A, h2, fun c hc => ⟨hz c (.mem hc), .mem (List.mem_cons_of_mem _ hc)⟩, by simp⟩
        · obtain ⟨y, hy⟩ := Classical.not_forall.mp hz
          obtain ⟨hy, hn⟩ := Classical.not_imp.mp hy
          obtain ⟨A', i1, i2, i3⟩ := ih h2 fun c hc => hs c (List.mem_cons_of_mem _ hc)
          obtain ⟨c, u, hu, ea⟩ := Sp.cons.mp (hs a List.mem_cons_self)
          obtain ⟨d, v, hv, ey⟩ := Sp.cons.mp (hy.trans fun c hc => hs c (List.mem_cons_of_mem _ hc))
          have hd : d ≠ 0 := fun e => hn (by rw [ey, e, zero_sm, zero_add']; exact hv)
          refine ⟨(a - sm (c / d) y) :: A', ⟨fun hq => h1 ?_, i1⟩, fun w hw => ?_, by simp; omega⟩
          · have := (hq.trans fun c hc => (i2 c hc).2).add (Sp.sm (c / d) hy)
            rwa [show a - sm (c / d) y + sm (c / d) y = a from by funext i; simp; grind] at this
          · rcases List.mem_cons.mp hw with rfl | hw
            · constructor
              · have : a - sm (c / d) y = u - sm (c / d) v := by
                  rw [ea, ey]; funext i; simp; grind
                rw [this]
                exact hu.sub (.sm _ hv)
              · exact .sub (.mem List.mem_cons_self) (.sm _ (hy.mono fun _ => List.mem_cons_of_mem _))
            · exact ⟨(i2 w hw).1, (i2 w hw).2.mono fun _ => List.mem_cons_of_mem _⟩
    obtain ⟨A', h1, h2, h3⟩ := key h hs
    have := Ind.le h1 fun a ha => (h2 a ha).1
    simp; omega
theorem rk_le_of_sp {A B : List V} (h : ∀ a ∈ A, Sp (· ∈ B) a) : rk A ≤ rk B := by
  obtain ⟨A', a1, a2, a3, a4⟩ := rk_basis A
  obtain ⟨B', b1, b2, b3, b4⟩ := rk_basis B
  rw [← a2, ← b2]
  exact Ind.le a1 fun a ha => (b4 a).mp (h a (a3 a ha))
theorem rk_le_len (A : List V) : rk A ≤ A.length := by
  induction A with
  | nil => exact Nat.le_refl _
  | cons a A ih => unfold rk; split <;> simp <;> omega
theorem rk_ind {A : List V} (h : Ind A) : rk A = A.length := by
  refine Nat.le_antisymm (rk_le_len A) ?_
  obtain ⟨B, b1, b2, b3, b4⟩ := rk_basis A
  rw [← b2]
  exact Ind.le h fun a ha => (b4 a).mp (.mem ha)
theorem rk_eq_of_sp {A B : List V} (h : ∀ x, Sp (· ∈ A) x ↔ Sp (· ∈ B) x) : rk A = rk B :=
  Nat.le_antisymm (rk_le_of_sp fun a ha => (h a).mp (.mem ha)) (rk_le_of_sp fun a ha => (h a).mpr (.mem ha))
/-- equal rank and within: the same span -/
theorem sp_of_rk {A B : List V} (h : ∀ a ∈ A, Sp (· ∈ B) a) (hr : rk B ≤ rk A) : ∀ x, Sp (· ∈ B) x → Sp (· ∈ A) x := by
  intro x hx
  apply Classical.byContradiction
  intro hn
  have h1 : rk (x :: A) = rk A + 1 := by unfold rk; rw [if_neg hn]; cases A <;> rfl
  have h2 : rk (x :: A) ≤ rk B := rk_le_of_sp fun a ha => by
    rcases List.mem_cons.mp ha with rfl | ha
    · exact hx
    · exact h a ha
  omega
/-- the units -/
def uns (n : Nat) : List V := (List.range n).map un
theorem su_sp {x : V} : ∀ {n : Nat}, Su n x → Sp (· ∈ uns n) x
  | 0, h => by
    have : x = 0 := by funext i; exact h i (Nat.zero_le _)
    rw [this]; exact .zero
  | n + 1, h => by
    have h1 : Su n (x - sm (x n) (un n)) := fun i hi => by
      by_cases e : i = n
      · subst e; simp [un]; grind
      · simp [un, if_neg e, h i (by omega)]; grind
    have h2 := (su_sp h1).mono (C := (· ∈ uns (n + 1))) fun b hb => by
      obtain ⟨k, hk, rfl⟩ := List.mem_map.mp hb
      exact List.mem_map.mpr ⟨k, List.mem_range.mpr (by have := List.mem_range.mp hk; omega), rfl⟩
    have h3 : Sp (· ∈ uns (n + 1)) (un n) := .mem (List.mem_map.mpr ⟨n, List.mem_range.mpr (by omega), rfl⟩)
    have := h2.add (.sm (x n) h3)
    rwa [show x - sm (x n) (un n) + sm (x n) (un n) = x from by funext i; simp; grind] at this
theorem sp_su {x : V} (h : Sp (· ∈ uns n) x) : Su n x := h.su fun b hb => by
  obtain ⟨k, hk, rfl⟩ := List.mem_map.mp hb
  exact Su.un (List.mem_range.mp hk)
theorem Ind.le_su {A : List V} (h : Ind A) (hs : ∀ a ∈ A, Su n a) : A.length ≤ n := by
  have := Ind.le h fun a ha => su_sp (hs a ha)
  simpa [uns] using this
theorem rk_le_su {A : List V} (hs : ∀ a ∈ A, Su n a) : rk A ≤ n := by
  have := rk_le_of_sp fun a ha => su_sp (hs a ha)
  exact Nat.le_trans this (by simpa [uns] using rk_le_len (uns n))
/-- the vectors of a span on which functionals vanish: a basis -/
theorem kernel_basis (E : List V) {B : List V} (h : Ind B) : ∃ K, Ind K ∧ (∀ x, Sp (· ∈ K) x ↔ Sp (· ∈ B) x ∧ ∀ e ∈ E, dt n e x = 0) ∧ B.length ≤ K.length + E.length := by
  -- a longest independent list within
  have grow : ∀ m (K : List V), Ind K → (∀ k ∈ K, Sp (· ∈ B) k ∧ ∀ e ∈ E, dt n e k = 0) → B.length ≤ K.length + m →
      ∃ K', Ind K' ∧ K.length ≤ K'.length ∧ ∀ x, Sp (· ∈ K') x ↔ Sp (· ∈ B) x ∧ ∀ e ∈ E, dt n e x = 0 := by
    intro m
    induction m with
    | zero =>
      intro K hK hk hl
      refine ⟨K, hK, Nat.le_refl _, fun x => ⟨fun hx => ⟨hx.trans fun k q => (hk k q).1, fun e he => hx.dt0 fun k q => (hk k q).2 e he⟩, fun hx => ?_⟩⟩
      apply Classical.byContradiction
      intro hn
      have := Ind.le (A := x :: K) (B := B) ⟨hn, hK⟩ fun a ha => by
        rcases List.mem_cons.mp ha with rfl | ha
        · exact hx.1
        · exact (hk a ha).1
      simp at this; omega
    | succ m ih =>
      intro K hK hk hl
      by_cases hx : ∃ x, (Sp (· ∈ B) x ∧ ∀ e ∈ E, dt n e x = 0) ∧ ¬ Sp (· ∈ K) x
      · obtain ⟨x, hx, hn⟩ := hx
        obtain ⟨K', h1, h2, h3⟩ := ih (x :: K) ⟨hn, hK⟩ (fun k q => by
          rcases List.mem_cons.mp q with rfl | q
          · exact hx
          · exact hk k q) (by simp; omega)
        exact ⟨K', h1, by simp at h2; omega, h3⟩
      · refine ⟨K, hK, Nat.le_refl _, fun x => ⟨fun hx => ⟨hx.trans fun k q => (hk k q).1, fun e he => hx.dt0 fun k q => (hk k q).2 e he⟩, fun h => ?_⟩⟩
        exact Classical.byContradiction fun hn => hx ⟨x, h, hn⟩
  obtain ⟨K0, h1, h2, h3⟩ := Ind.kers (n := n) E h
  obtain ⟨K', k1, k2, k3⟩ := grow B.length K0 h1 h2 (by omega)
  exact ⟨K', k1, k3, by omega⟩
/-- rank and nullity -/
theorem rank_nullity (E : List V) (hE : ∀ e ∈ E, Su n e) : ∃ K, Ind K ∧ (∀ x, Sp (· ∈ K) x ↔ Su n x ∧ ∀ e ∈ E, dt n e x = 0) ∧ K.length + rk E = n := by
  obtain ⟨F, f1, f2, f3, f4⟩ := rk_basis E
  -- unit basis is independent: take any basis of uns
  obtain ⟨U, u1, u2, u3, u4⟩ := rk_basis (uns n)
  have hU : U.length = n := by
    -- at most n; at least n: the units are independent
    have ind : ∀ m, Ind (uns m).reverse := by
      intro m
      induction m with
      | zero => trivial
      | succ m ih =>
        have : (uns (m + 1)).reverse = un m :: (uns m).reverse := by simp [uns, List.range_succ]
        rw [this]
        refine ⟨fun hs => ?_, ih⟩
        have := hs.su (n := m) fun b hb => by
          obtain ⟨k, hk, rfl⟩ := List.mem_map.mp (List.mem_reverse.mp hb)
          exact Su.un (List.mem_range.mp hk)
        have := this m (Nat.le_refl _)
        simp [un] at this
    refine Nat.le_antisymm ?_ ?_
    · have := rk_le_len (uns n); rw [u2]; simpa [uns] using this
    · have := Ind.le (B := U) (ind n) fun a ha => (u4 a).mp (.mem (List.mem_reverse.mp ha))
      simpa [uns] using this
  obtain ⟨K, k1, k2, k3⟩ := kernel_basis (n := n) F u1
  have hk : ∀ x, Sp (· ∈ K) x ↔ Su n x ∧ ∀ e ∈ E, dt n e x = 0 := fun x => by
    rw [k2]
    constructor
    · intro h
      refine ⟨sp_su ((u4 x).mpr h.1), fun e he => ?_⟩
      rw [dt_comm]
      exact ((f4 e).mp (.mem he)).dt0 fun b hb => by rw [dt_comm]; exact h.2 b hb
    · intro h
      exact ⟨(u4 x).mp (su_sp h.1), fun e he => h.2 e (f3 e he)⟩
  refine ⟨K, k1, hk, ?_⟩
  have h1 : n ≤ K.length + rk E := by rw [← f2, ← hU]; exact k3
  -- K and F are independent together
  have h2 : Ind (F ++ K) := by
    have : ∀ G : List V, Ind G → (∀ g ∈ G, Sp (· ∈ F) g) → Ind (G ++ K) := by
      intro G
      induction G with
      | nil => intro _ _; exact k1
      | cons g G ih =>
        intro hg hs
        refine ⟨fun hq => hg.1 ?_, ih hg.2 fun a ha => hs a (List.mem_cons_of_mem _ ha)⟩
        -- g = u + k, u in span G, k in span K; then k in span F and orthogonal to F: nought
        have split : ∀ x, Sp (· ∈ G ++ K) x → ∃ u k, Sp (· ∈ G) u ∧ Sp (· ∈ K) k ∧ x = u + k := by
          intro x hx
          induction hx with
          | zero => exact ⟨0, 0, .zero, .zero, by rw [add_zero']⟩
          | step c hb _ ih2 =>
            obtain ⟨u, k, hu, hk2, rfl⟩ := ih2
            rcases List.mem_append.mp hb with hb | hb
            · exact ⟨sm c _ + u, k, .step c hb hu, hk2, by funext i; simp; grind⟩
            · exact ⟨u, sm c _ + k, hu, .step c hb hk2, by funext i; simp; grind⟩
        obtain ⟨u, k, hu, hk2, e⟩ := split g hq
        have kF : Sp (· ∈ F) k := by
          have h1 := hs g List.mem_cons_self
          have h2 : Sp (· ∈ F) u := hu.trans fun a ha => hs a (List.mem_cons_of_mem _ ha)
          have := h1.sub h2
          rwa [show g - u = k from by rw [e]; funext i; simp; grind] at this
        have h3 := (k2 k).mp hk2
        have h4 : dt n k k = 0 := by
          rw [dt_comm]
          exact kF.dt0 fun f hf => by rw [dt_comm]; exact h3.2 f hf
        have h5 := eq_zero_of_self (sp_su ((u4 k).mpr h3.1)) h4
        rw [e, h5, add_zero']
        exact hu
    exact this F f1 fun g hg => .mem hg
  have h3 := Ind.le_su (n := n) h2 fun a ha => by
    rcases List.mem_append.mp ha with h | h
    · exact hE a (f3 a h)
    · exact ((hk a).mp (.mem h)).1
  rw [List.length_append, f2] at h3
  omega
/-- what is orthogonal to all that is orthogonal to a list lies in its span -/
theorem orth_orth {E : List V} (hE : ∀ e ∈ E, Su n e) {x : V} (hx : Su n x) (h : ∀ y, Su n y → (∀ e ∈ E, dt n e y = 0) → dt n x y = 0) : Sp (· ∈ E) x := by
  apply Classical.byContradiction
  intro hn
  obtain ⟨K, k1, k2, k3⟩ := rank_nullity E hE
  obtain ⟨K', l1, l2, l3⟩ := rank_nullity (n := n) (x :: E) fun e he => by
    rcases List.mem_cons.mp he with rfl | he
    · exact hx
    · exact hE e he
  have h1 : rk (x :: E) = rk E + 1 := by unfold rk; rw [if_neg hn]; cases E <;> rfl
  have h2 : K.length ≤ K'.length := Ind.le k1 fun a ha => by
    have := (k2 a).mp (.mem ha)
    refine (l2 a).mpr ⟨this.1, fun e he => ?_⟩
    rcases List.mem_cons.mp he with rfl | he
    · exact h a this.1 this.2
    · exact this.2 e he
  omega
end
end CM

/-! Cones by rows are cones by vectors; Farkas. -/
namespace CM
section
variable {n : Nat}
/-- what some rows tell -/
def Hd (n : Nat) (A : List V) (x : V) : Prop := Su n x ∧ ∀ a ∈ A, 0 ≤ dt n a x
theorem Hd.zero {A : List V} : Hd n A 0 := ⟨Su.zero, fun a _ => by rw [dt_zero]; exact Rat.le_refl⟩
theorem Hd.add {A : List V} {x y : V} (hx : Hd n A x) (hy : Hd n A y) : Hd n A (x + y) := ⟨hx.1.add hy.1, fun a ha => by rw [dt_add]; exact Rat.add_nonneg (hx.2 a ha) (hy.2 a ha)⟩
theorem Hd.sm {A : List V} {x : V} {c : Rat} (hc : 0 ≤ c) (hx : Hd n A x) : Hd n A (sm c x) := ⟨hx.1.sm c, fun a ha => by rw [dt_sm]; exact Rat.mul_nonneg hc (hx.2 a ha)⟩
theorem Hd.cn {A : List V} {B : V → Prop} {x : V} (h : Cn B x) (hb : ∀ b, B b → Hd n A b) : Hd n A x := by
  induction h with
  | zero => exact .zero
  | step h0 h _ ih => exact .add (.sm h0 (hb _ h)) ih
/-- two that a row parts, led together onto its bound -/
def mixr (n : Nat) (a p q : V) : V := sm (-dt n a q) p + sm (dt n a p) q
theorem dt_mixr (a p q : V) : dt n a (mixr n a p q) = 0 := by
  unfold mixr; rw [dt_add, dt_sm, dt_sm]; grind
theorem cut_gen {G : V → Prop} {a x : V} (hx : Cn G x) (ha : 0 ≤ dt n a x) : Cn (fun g => (G g ∧ 0 ≤ dt n a g) ∨ ∃ p q, G p ∧ G q ∧ 0 < dt n a p ∧ dt n a q < 0 ∧ g = mixr n a p q) x := by
  -- x = z + p + q
  have split : ∃ z p q, Cn (fun g => G g ∧ dt n a g = 0) z ∧ Cn (fun g => G g ∧ 0 < dt n a g) p ∧ Cn (fun g => G g ∧ dt n a g < 0) q ∧ x = z + p + q := by
    clear ha
    induction hx with
    | zero => exact ⟨0, 0, 0, .zero, .zero, .zero, by rw [add_zero', add_zero']⟩
    | @step b y c h0 hb _ ih =>
      obtain ⟨z, p, q, hz, hp, hq, rfl⟩ := ih
      by_cases e : dt n a b = 0
      · exact ⟨sm c b + z, p, q, .step h0 ⟨hb, e⟩ hz, hp, hq, by funext i; simp; grind⟩
      · by_cases e2 : 0 < dt n a b
        · exact ⟨z, sm c b + p, q, hz, .step h0 ⟨hb, e2⟩ hp, hq, by funext i; simp; grind⟩
        · exact ⟨z, p, sm c b + q, hz, hp, .step h0 ⟨hb, by grind⟩ hq, by funext i; simp; grind⟩
  obtain ⟨z, p, q, hz, hp, hq, rfl⟩ := split
  have hz0 : dt n a z = 0 := by
    refine hz.sp.dt0 fun b hb => hb.2
  have hp0 : 0 ≤ dt n a p := hp.dt0 fun b hb => by have := hb.2; grind
  have hq0 : 0 ≤ dt n (-a) q := hq.dt0 fun b hb => by rw [neg_dt]; have := hb.2; grind
  rw [neg_dt] at hq0
  rw [dt_add, dt_add, hz0] at ha
  have zN : Cn (fun g => (G g ∧ 0 ≤ dt n a g) ∨ ∃ p q, G p ∧ G q ∧ 0 < dt n a p ∧ dt n a q < 0 ∧ g = mixr n a p q) z := hz.mono fun b hb => .inl ⟨hb.1, by rw [hb.2]; exact Rat.le_refl⟩
  have pN : Cn (fun g => (G g ∧ 0 ≤ dt n a g) ∨ ∃ p q, G p ∧ G q ∧ 0 < dt n a p ∧ dt n a q < 0 ∧ g = mixr n a p q) p := hp.mono fun b hb => .inl ⟨hb.1, by have := hb.2; grind⟩
  have one : ∀ p, G p → 0 < dt n a p → ∀ q, Cn (fun g => G g ∧ dt n a g < 0) q → Cn (fun g => (G g ∧ 0 ≤ dt n a g) ∨ ∃ p q, G p ∧ G q ∧ 0 < dt n a p ∧ dt n a q < 0 ∧ g = mixr n a p q) (mixr n a p q) := by
    intro p hp hp2 q hq
    induction hq with
    | zero =>
      have : mixr n a p 0 = 0 := by unfold mixr; rw [dt_zero, sm_zero]; funext i; simp; grind
      rw [this]; exact .zero
    | @step b y c h0 hb _ ih =>
      have : mixr n a p (sm c b + y) = sm c (mixr n a p b) + mixr n a p y := by unfold mixr; rw [dt_add, dt_sm]; funext i; simp; grind
      rw [this]
      exact .step h0 (.inr ⟨p, b, hp, hb.1, hp2, hb.2, rfl⟩) ih
  have two : ∀ p, Cn (fun g => G g ∧ 0 < dt n a g) p → Cn (fun g => (G g ∧ 0 ≤ dt n a g) ∨ ∃ p q, G p ∧ G q ∧ 0 < dt n a p ∧ dt n a q < 0 ∧ g = mixr n a p q) (mixr n a p q) := by
    intro p hp
    induction hp with
    | zero =>
      have : mixr n a 0 q = 0 := by unfold mixr; rw [dt_zero, sm_zero]; funext i; simp; grind
      rw [this]; exact .zero
    | @step b y c h0 hb _ ih =>
      have : mixr n a (sm c b + y) q = sm c (mixr n a b q) + mixr n a y q := by unfold mixr; rw [dt_add, dt_sm]; funext i; simp; grind
      rw [this]
      exact .add (.sm h0 (one b hb.1 hb.2 q hq)) ih
  by_cases e : dt n a p = 0
  · -- then the product with q is nought: q is nothing
    have e2 : dt n a q = 0 := by grind
    have q0 : ∀ q, Cn (fun g => G g ∧ dt n a g < 0) q → dt n a q = 0 → q = 0 := by
      intro q hq
      induction hq with
      | zero => intro _; rfl
      | @step b y c h0 hb hy ih =>
        intro h
        have hy0 : 0 ≤ dt n (-a) y := hy.dt0 fun b hb => by rw [neg_dt]; have := hb.2; grind
        rw [neg_dt] at hy0
        rw [dt_add, dt_sm] at h
        have hb2 := hb.2
        have h1 : 0 ≤ c * -dt n a b := Rat.mul_nonneg h0 (by grind)
        have h2 : dt n a y = 0 := by grind
        have h3 : c * dt n a b = 0 := by grind
        have h4 : c = 0 := by
          rcases Rat.mul_eq_zero.mp h3 with h | h
          · exact h
          · rw [h] at hb2; exact absurd hb2 Rat.lt_irrefl
        rw [h4, ih h2, zero_sm, zero_add']
    rw [q0 q hq e2, add_zero']
    exact zN.add pN
  · have hpos : 0 < dt n a p := by grind
    have h3 := (two p hp).sm (d := (dt n a p)⁻¹) (Rat.le_of_lt (Rat.inv_pos.mpr hpos))
    have h4 := pN.sm (d := 1 - (-dt n a q) * (dt n a p)⁻¹) (by
      have h1 : (-dt n a q) * (dt n a p)⁻¹ ≤ dt n a p * (dt n a p)⁻¹ := Rat.mul_le_mul_of_nonneg_right (by grind) (Rat.le_of_lt (Rat.inv_pos.mpr hpos))
      rw [Rat.mul_inv_cancel _ e] at h1
      grind)
    have h5 := zN.add (h3.add h4)
    have : z + (sm (dt n a p)⁻¹ (mixr n a p q) + sm (1 - (-dt n a q) * (dt n a p)⁻¹) p) = z + p + q := by
      unfold mixr
      funext i
      have := Rat.mul_inv_cancel _ e
      simp only [add_at, sm_at]
      grind
    rwa [this] at h5
/-- Minkowski: what rows tell is what some vectors make -/
theorem gens (n : Nat) : ∀ A : List V, ∃ G : List V, (∀ g ∈ G, Hd n A g) ∧ ∀ x, Hd n A x → Cn (· ∈ G) x
  | [] => by
    refine ⟨uns n ++ (uns n).map (-·), fun g hg => ⟨?_, fun _ h => nomatch h⟩, fun x hx => ?_⟩
    · rcases List.mem_append.mp hg with h | h
      · exact sp_su (.mem h)
      · obtain ⟨u, hu, rfl⟩ := List.mem_map.mp h
        exact (sp_su (.mem hu)).neg
    · have := su_sp hx.1
      induction this with
      | zero => exact .zero
      | @step b y c hb hy ih =>
        have hb1 : Cn (· ∈ uns n ++ (uns n).map (-·)) b := .mem (List.mem_append_left _ hb)
        have hb2 : Cn (· ∈ uns n ++ (uns n).map (-·)) (-b) := .mem (List.mem_append_right _ (List.mem_map.mpr ⟨b, hb, rfl⟩))
        have hy2 := ih ⟨sp_su hy, fun _ h => nomatch h⟩
        rcases Rat.le_total (a := 0) (b := c) with h | h
        · exact (hb1.sm h).add hy2
        · have := (hb2.sm (d := -c) (by grind)).add hy2
          rwa [show sm (-c) (-b) = sm c b from by funext i; simp; grind] at this
  | a :: A => by
    obtain ⟨G, g1, g2⟩ := gens n A
    refine ⟨G.filter (fun g => decide (0 ≤ dt n a g)) ++ (G.flatMap fun p => (G.filter fun q => decide (0 < dt n a p ∧ dt n a q < 0)).map fun q => mixr n a p q), fun g hg => ?_, fun x hx => ?_⟩
    · rcases List.mem_append.mp hg with h | h
      · obtain ⟨h1, h2⟩ := List.mem_filter.mp h
        have h2 := of_decide_eq_true h2
        refine ⟨(g1 g h1).1, fun b hb => ?_⟩
        rcases List.mem_cons.mp hb with rfl | hb
        · exact h2
        · exact (g1 g h1).2 b hb
      · obtain ⟨p, hp, h⟩ := List.mem_flatMap.mp h
        obtain ⟨q, hq, rfl⟩ := List.mem_map.mp h
        obtain ⟨hq, h2⟩ := List.mem_filter.mp hq
        have h2 := of_decide_eq_true h2
        refine ⟨((g1 p hp).1.sm _).add ((g1 q hq).1.sm _), fun b hb => ?_⟩
        rcases List.mem_cons.mp hb with rfl | hb
        · rw [dt_mixr]; exact Rat.le_refl
        · unfold mixr
          rw [dt_add, dt_sm, dt_sm]
          exact Rat.add_nonneg (Rat.mul_nonneg (by grind) ((g1 p hp).2 b hb)) (Rat.mul_nonneg (by grind) ((g1 q hq).2 b hb))
    · have h1 := g2 x ⟨hx.1, fun b hb => hx.2 b (List.mem_cons_of_mem _ hb)⟩
      refine (cut_gen (n := n) h1 (hx.2 a List.mem_cons_self)).mono fun g hg => ?_
      rcases hg with ⟨h2, h3⟩ | ⟨p, q, hp, hq, h2, h3, rfl⟩
      · exact List.mem_append_left _ (List.mem_filter.mpr ⟨h2, decide_eq_true h3⟩)
      · exact List.mem_append_right _ (List.mem_flatMap.mpr ⟨p, hp, List.mem_map.mpr ⟨q, List.mem_filter.mpr ⟨hq, decide_eq_true ⟨h2, h3⟩⟩, rfl⟩⟩)
/-- the least t that satisfies the falling ones -/
theorem least_t {α : Type} (f g : α → Rat) : ∀ L : List α, ∃ t, 0 ≤ t ∧ (∀ x ∈ L, f x < 0 → t * f x ≤ g x) ∧ (t = 0 ∨ ∃ x ∈ L, f x < 0 ∧ t * f x = g x)
  | [] => ⟨0, Rat.le_refl, (fun _ h => nomatch h), .inl rfl⟩
  | a :: L => by
    obtain ⟨t, h0, h1, h2⟩ := least_t f g L
    by_cases h : f a < 0 ∧ g a < t * f a
    · have hne : f a ≠ 0 := by grind
      refine ⟨g a / f a, ?_, fun x hx hf => ?_, .inr ⟨a, List.mem_cons_self, h.1, Rat.div_mul_cancel hne⟩⟩
      · have hlt : t ≤ g a / f a := by
          have h3 : g a / f a * f a = g a := Rat.div_mul_cancel hne
          apply Classical.byContradiction
          intro hn
          have h4 : g a / f a < t := by grind
          have h5 := Rat.mul_lt_mul_of_pos_right h4 (c := -f a) (by grind)
          grind
        grind
      · have hlt : t ≤ g a / f a := by
          have h3 : g a / f a * f a = g a := Rat.div_mul_cancel hne
          apply Classical.byContradiction
          intro hn
          have h4 : g a / f a < t := by grind
          have h5 := Rat.mul_lt_mul_of_pos_right h4 (c := -f a) (by grind)
          grind
        rcases List.mem_cons.mp hx with rfl | hx
        · rw [Rat.div_mul_cancel hne]; exact Rat.le_refl
        · have h6 := Rat.mul_le_mul_of_nonneg_right hlt (c := -f x) (by grind)
          have := h1 x hx hf
          grind
    · refine ⟨t, h0, fun x hx hf => ?_, ?_⟩
      · rcases List.mem_cons.mp hx with rfl | hx
        · grind
        · exact h1 x hx hf
      · rcases h2 with h2 | ⟨x, hx, h3⟩
        · exact .inl h2
        · exact .inr ⟨x, List.mem_cons_of_mem _ hx, h3⟩
/-- Farkas -/
theorem farkas : ∀ (W : List V), (∀ v ∈ W, Su n v) → ∀ x, Su n x → (∀ y, Su n y → (∀ v ∈ W, 0 ≤ dt n v y) → 0 ≤ dt n x y) → Cn (· ∈ W) x
  | [], _, x, hx, h => by
    have h1 := h (-x) hx.neg fun _ h => nomatch h
    rw [dt_neg] at h1
    have h2 := dt_self_nonneg (n := n) x
    have : x = 0 := eq_zero_of_self hx (by grind)
    rw [this]; exact .zero
  | v :: W, hW, x, hx, h => by
    obtain ⟨G, g1, g2⟩ := gens n W
    have hv := hW v List.mem_cons_self
    have pos : ∀ y, Hd n W y → 0 ≤ dt n v y → 0 ≤ dt n x y := fun y hy hv => h y hy.1 fun w hw => by
      rcases List.mem_cons.mp hw with rfl | hw
      · exact hv
      · exact hy.2 w hw
    obtain ⟨t, t0, t1, t2⟩ := least_t (fun g => dt n v g) (fun g => dt n x g) G
    have all : ∀ g ∈ G, t * dt n v g ≤ dt n x g := fun g hg => by
      by_cases e : dt n v g < 0
      · exact t1 g hg e
      · have e1 : 0 ≤ dt n v g := by grind
        rcases t2 with rfl | ⟨q, hq, q1, q2⟩
        · have := pos g (g1 g hg) e1; grind
        · have hm : Hd n W (mixr n v g q) := ((g1 g hg).sm (c := -dt n v q) (by grind)).add ((g1 q hq).sm e1)
          have := pos _ hm (by rw [dt_mixr]; exact Rat.le_refl)
          unfold mixr at this
          rw [dt_add, dt_sm, dt_sm, ← q2] at this
          apply Classical.byContradiction
          intro hn
          have h5 := Rat.mul_lt_mul_of_pos_right (a := dt n x g) (b := t * dt n v g) (by grind) (c := -dt n v q) (by grind)
          clear hW h pos t1 g1 g2 hm hn
          grind
    have := farkas W (fun w hw => hW w (List.mem_cons_of_mem _ hw)) (x - sm t v) (hx.sub (hv.sm t)) fun y hy hy2 => by
      have hc := g2 y ⟨hy, hy2⟩
      exact hc.dt0 fun g hg => by rw [sub_dt, sm_dt]; have := all g hg; grind
    have h2 : Cn (· ∈ v :: W) (sm t v + (x - sm t v)) := .step t0 List.mem_cons_self (this.mono fun _ => List.mem_cons_of_mem _)
    rwa [show sm t v + (x - sm t v) = x from by funext i; simp; grind] at h2
end
end CM

/-! Double description: one row more. -/
namespace CM
open Classical
section
variable {n : Nat}
/-- tight for the first, tight for the second -/
def TS (n : Nat) (A : List V) (x y : V) : Prop := ∀ a ∈ A, dt n a x = 0 → dt n a y = 0
noncomputable def cnt (n : Nat) (A : List V) (x : V) : Nat := (A.filter fun a => decide (dt n a x = 0)).length
noncomputable def cnt2 (n : Nat) (A : List V) (x y : V) : Nat := (A.filter fun a => decide (dt n a x = 0 ∧ dt n a y = 0)).length
theorem flt_le {α : Type} {p q : α → Bool} : ∀ {L : List α}, (∀ a ∈ L, p a = true → q a = true) → (L.filter p).length ≤ (L.filter q).length
  | [], _ => Nat.le_refl _
  | a :: L, h => by
    have ih := flt_le (p := p) (q := q) (L := L) fun b hb => h b (List.mem_cons_of_mem _ hb)
    have ha := h a List.mem_cons_self
    by_cases e : p a = true
    · rw [List.filter_cons_of_pos e, List.filter_cons_of_pos (ha e)]; simp; exact ih
    · rw [List.filter_cons_of_neg e]
      by_cases e2 : q a = true
      · rw [List.filter_cons_of_pos e2]; simp; omega
      · rw [List.filter_cons_of_neg e2]; exact ih
theorem flt_lt {α : Type} {p q : α → Bool} : ∀ {L : List α}, (∀ a ∈ L, p a = true → q a = true) → (∃ a ∈ L, p a = false ∧ q a = true) → (L.filter p).length < (L.filter q).length
  | [], _, h => by obtain ⟨a, h, _⟩ := h; cases h
  | a :: L, h, ⟨b, hb, h1, h2⟩ => by
    have hL : ∀ b ∈ L, p b = true → q b = true := fun b hb => h b (List.mem_cons_of_mem _ hb)
    have ha := h a List.mem_cons_self
    rcases List.mem_cons.mp hb with rfl | hb
    · rw [List.filter_cons_of_neg (by rw [h1]; exact Bool.false_ne_true), List.filter_cons_of_pos h2]
      have := flt_le hL
      simp; omega
    · have ih := flt_lt hL ⟨b, hb, h1, h2⟩
      by_cases e : p a = true
      · rw [List.filter_cons_of_pos e, List.filter_cons_of_pos (ha e)]; simp; exact ih
      · rw [List.filter_cons_of_neg e]
        by_cases e2 : q a = true
        · rw [List.filter_cons_of_pos e2]; simp; omega
        · rw [List.filter_cons_of_neg e2]; exact ih
theorem cnt_le (A : List V) (x : V) : cnt n A x ≤ A.length := List.length_filter_le _ _
theorem cnt_lt {A : List V} {x u : V} (h : TS n A x u) (h2 : ∃ a ∈ A, dt n a x ≠ 0 ∧ dt n a u = 0) : cnt n A x < cnt n A u := by
  obtain ⟨a, ha, h3, h4⟩ := h2
  exact flt_lt (fun b hb e => decide_eq_true (h b hb (of_decide_eq_true e))) ⟨a, ha, decide_eq_false h3, decide_eq_true h4⟩
/-- taken off as often as it goes -/
theorem take_off {A : List V} {x d : V} (hx : ∀ a ∈ A, 0 ≤ dt n a x) (ts : TS n A x d) (hd : ∃ a ∈ A, 0 < dt n a d) :
    ∃ s, 0 < s ∧ (∀ a ∈ A, 0 ≤ dt n a (x - sm s d)) ∧ ∃ a ∈ A, dt n a x ≠ 0 ∧ dt n a (x - sm s d) = 0 := by
  have key : ∀ B : List V, (∀ b ∈ B, b ∈ A) → (∃ a ∈ B, 0 < dt n a d) → ∃ s, 0 < s ∧ (∀ a ∈ B, 0 < dt n a d → s * dt n a d ≤ dt n a x) ∧ ∃ a ∈ B, 0 < dt n a d ∧ s * dt n a d = dt n a x := by
    intro B
    induction B with
    | nil => intro _ h; obtain ⟨a, h, _⟩ := h; cases h
    | cons b B ih =>
      intro hB hp
      have hbA := hB b List.mem_cons_self
      have new : 0 < dt n b d → 0 < dt n b x / dt n b d ∧ dt n b x / dt n b d * dt n b d = dt n b x := by
        intro h
        have h1 : dt n b x ≠ 0 := fun e => by have := ts b hbA e; rw [this] at h; exact absurd h Rat.lt_irrefl
        have h2 := hx b hbA
        have h3 : dt n b x / dt n b d * dt n b d = dt n b x := Rat.div_mul_cancel (by grind)
        refine ⟨?_, h3⟩
        refine (Rat.lt_div_iff h).mpr ?_
        have : (0 : Rat) * dt n b d = 0 := Rat.zero_mul _
        grind
      by_cases hr : ∃ a ∈ B, 0 < dt n a d
      · obtain ⟨s, s0, s1, a, ha, s2, s3⟩ := ih (fun c hc => hB c (List.mem_cons_of_mem _ hc)) hr
        by_cases hb : 0 < dt n b d ∧ dt n b x < s * dt n b d
        · obtain ⟨n1, n2⟩ := new hb.1
          refine ⟨dt n b x / dt n b d, n1, fun c hc hcd => ?_, b, List.mem_cons_self, hb.1, n2⟩
          rcases List.mem_cons.mp hc with rfl | hc
          · rw [n2]; exact Rat.le_refl
          · have h4 : dt n b x / dt n b d < s := (Rat.div_lt_iff hb.1).mpr hb.2
            have h5 := Rat.mul_le_mul_of_nonneg_right (Rat.le_of_lt h4) (Rat.le_of_lt hcd)
            exact Rat.le_trans h5 (s1 c hc hcd)
        · refine ⟨s, s0, fun c hc hcd => ?_, a, List.mem_cons_of_mem _ ha, s2, s3⟩
          rcases List.mem_cons.mp hc with rfl | hc
          · exact Rat.not_lt.mp fun h => hb ⟨hcd, h⟩
          · exact s1 c hc hcd
      · obtain ⟨a, ha, h⟩ := hp
        rcases List.mem_cons.mp ha with rfl | ha
        · obtain ⟨n1, n2⟩ := new h
          refine ⟨_, n1, fun c hc hcd => ?_, a, List.mem_cons_self, h, n2⟩
          rcases List.mem_cons.mp hc with rfl | hc
          · rw [n2]; exact Rat.le_refl
          · exact absurd ⟨c, hc, hcd⟩ hr
        · exact absurd ⟨a, ha, h⟩ hr
  obtain ⟨s, s0, s1, a, ha, s2, s3⟩ := key A (fun _ h => h) hd
  refine ⟨s, s0, fun c hc => ?_, a, ha, fun e => ?_, ?_⟩
  · rw [dt_sub, dt_sm]
    by_cases h : 0 < dt n c d
    · have := s1 c hc h; grind
    · have h1 := Rat.mul_nonneg (Rat.le_of_lt s0) (b := -dt n c d) (by grind)
      have := hx c hc
      grind
  · have := ts a ha e; rw [this] at s2; exact absurd s2 Rat.lt_irrefl
  · rw [dt_sub, dt_sm, s3]; grind
/-- the invariant: a space, the rows so far, the rays -/
structure DD (n : Nat) (A : List V) (W R : V → Prop) : Prop where
  su : ∀ x, W x → Su n x
  zero : W 0
  add : ∀ x y, W x → W y → W (x + y)
  sm : ∀ c x, W x → W (sm c x)
  pt : ∀ x, W x → (∀ a ∈ A, dt n a x = 0) → x = 0
  rw : ∀ r, R r → W r
  pos : ∀ r, R r → ∀ a ∈ A, 0 ≤ dt n a r
  ne : ∀ r, R r → r ≠ 0
  gen : ∀ x, W x → (∀ a ∈ A, 0 ≤ dt n a x) → Cn R x
  min : ∀ r q, R r → R q → TS n A r q → r = q
/-- a face's vectors are made of the face's rays -/
theorem face_cn {A : List V} {R : V → Prop} (pos : ∀ r, R r → ∀ a ∈ A, 0 ≤ dt n a r) {x : V} (h : Cn R x) : Cn (fun r => R r ∧ TS n A x r) x := by
  induction h with
  | zero => exact .zero
  | @step b y c h0 hb hy ih =>
    have hyp : ∀ a ∈ A, 0 ≤ dt n a y := fun a ha => hy.dt0 fun r hr => pos r hr a ha
    by_cases e : c = 0
    · rw [e, zero_sm, zero_add']; exact ih
    · have key : ∀ a ∈ A, dt n a (CM.sm c b + y) = 0 → dt n a b = 0 ∧ dt n a y = 0 := by
        intro a ha h
        rw [dt_add, dt_sm] at h
        have h1 := pos b hb a ha
        have h2 := hyp a ha
        have h3 := Rat.mul_nonneg h0 h1
        have h4 : c * dt n a b = 0 := by grind
        have h5 : dt n a y = 0 := by grind
        refine ⟨?_, h5⟩
        rcases Rat.mul_eq_zero.mp h4 with h | h
        · exact absurd h e
        · exact h
      exact .step h0 ⟨hb, fun a ha h => (key a ha h).1⟩ (ih.mono fun r hr => ⟨hr.1, fun a ha h => hr.2 a ha (key a ha h).2⟩)
theorem cn_pos {G : V → Prop} {b u : V} (h : Cn G u) (hp : ∀ g, G g → 0 < dt n b g) : u = 0 ∨ 0 < dt n b u := by
  induction h with
  | zero => exact .inl rfl
  | @step g y c h0 hg hy ih =>
    have h1 := hp g hg
    have h3 := Rat.mul_nonneg h0 (Rat.le_of_lt h1)
    by_cases e : c = 0
    · rw [e, zero_sm, zero_add']; exact ih
    · right
      have h2 : 0 < c * dt n b g := Rat.mul_pos (by grind) h1
      rw [dt_add, dt_sm]
      rcases ih with ih | ih
      · rw [ih, dt_zero]; grind
      · grind
theorem cn_sign {G : V → Prop} {b u : V} (h : Cn G u) (hu : u ≠ 0) (h0 : dt n b u = 0) : (∃ g, G g ∧ dt n b g = 0) ∨ ∃ p q, G p ∧ G q ∧ 0 < dt n b p ∧ dt n b q < 0 := by
  apply Classical.byContradiction
  intro hn
  have h1 : ∀ g, G g → dt n b g ≠ 0 := fun g hg e => hn (.inl ⟨g, hg, e⟩)
  by_cases hp : ∃ p, G p ∧ 0 < dt n b p
  · obtain ⟨p, hp, hp2⟩ := hp
    have : ∀ g, G g → 0 < dt n b g := fun g hg => by
      have := h1 g hg
      by_cases e : dt n b g < 0
      · exact absurd (.inr ⟨p, g, hp, hg, hp2, e⟩) hn
      · grind
    rcases cn_pos h this with e | e
    · exact hu e
    · rw [h0] at e; exact absurd e Rat.lt_irrefl
  · have : ∀ g, G g → 0 < dt n (-b) g := fun g hg => by
      have h2 := h1 g hg
      have h3 : ¬ 0 < dt n b g := fun e => hp ⟨g, hg, e⟩
      rw [neg_dt]; grind
    rcases cn_pos h this with e | e
    · exact hu e
    · rw [neg_dt, h0] at e; simp at e
theorem DD.some_pos {A : List V} {W R : V → Prop} (D : DD n A W R) {x : V} (hw : W x) (hx : ∀ a ∈ A, 0 ≤ dt n a x) (ne : x ≠ 0) : ∃ a ∈ A, 0 < dt n a x := by
  apply Classical.byContradiction
  intro hn
  exact ne (D.pt x hw fun a ha => by
    have h1 := hx a ha
    have h2 : ¬ 0 < dt n a x := fun h => hn ⟨a, ha, h⟩
    grind)
/-- a ray in each face: all is made of rays -/
theorem gen_of_faces {A : List V} {W R : V → Prop} (su : ∀ x y s, W x → R y → W (x - sm s y)) (pt : ∀ x, W x → (∀ a ∈ A, dt n a x = 0) → x = 0) (rw : ∀ r, R r → W r) (pos : ∀ r, R r → ∀ a ∈ A, 0 ≤ dt n a r) (ne : ∀ r, R r → r ≠ 0)
    (h : ∀ x, W x → (∀ a ∈ A, 0 ≤ dt n a x) → x ≠ 0 → ∃ r, R r ∧ TS n A x r) : ∀ x, W x → (∀ a ∈ A, 0 ≤ dt n a x) → Cn R x := by
  have key : ∀ m x, W x → (∀ a ∈ A, 0 ≤ dt n a x) → A.length - cnt n A x ≤ m → Cn R x := by
    intro m
    induction m with
    | zero =>
      intro x hw hx hm
      by_cases e : x = 0
      · rw [e]; exact .zero
      · exfalso
        obtain ⟨r, hr, ts⟩ := h x hw hx e
        refine e (pt x hw fun a ha => ?_)
        have h1 := cnt_le (n := n) A x
        apply Classical.byContradiction
        intro hn
        have : cnt n A x < A.length := by
          unfold cnt
          have := flt_lt (L := A) (p := fun a => decide (dt n a x = 0)) (q := fun _ => true) (fun _ _ _ => rfl) ⟨a, ha, decide_eq_false hn, rfl⟩
          rwa [List.filter_eq_self.mpr fun _ _ => rfl] at this
        omega
    | succ m ih =>
      intro x hw hx hm
      by_cases e : x = 0
      · rw [e]; exact .zero
      · obtain ⟨r, hr, ts⟩ := h x hw hx e
        have hpos : ∃ a ∈ A, 0 < dt n a r := by
          apply Classical.byContradiction
          intro hn
          exact ne r hr (pt r (rw r hr) fun a ha => by
            have h1 := pos r hr a ha
            have h2 : ¬ 0 < dt n a r := fun h => hn ⟨a, ha, h⟩
            grind)
        obtain ⟨s, s0, s1, a, ha, s2, s3⟩ := take_off hx ts hpos
        have h4 : cnt n A x < cnt n A (x - CM.sm s r) := cnt_lt (fun b hb hb2 => by rw [dt_sub, dt_sm, hb2, ts b hb hb2]; grind) ⟨a, ha, s2, s3⟩
        have h5 := cnt_le (n := n) A (x - CM.sm s r)
        have h6 := ih (x - CM.sm s r) (su _ _ _ hw hr) s1 (by omega)
        have := Cn.step (Rat.le_of_lt s0) hr h6
        rwa [show CM.sm s r + (x - CM.sm s r) = x from by funext i; simp; grind] at this
  exact fun x hw hx => key _ x hw hx (Nat.le_refl _)
/-- no third ray lies where both lie -/
def Adj (n : Nat) (A : List V) (R : V → Prop) (p q : V) : Prop := ∀ t, R t → t ≠ p → t ≠ q → ¬ ∀ a ∈ A, dt n a p = 0 → dt n a q = 0 → dt n a t = 0
def Cut (n : Nat) (A : List V) (R : V → Prop) (b : V) (bl : V → V → V) (r : V) : Prop := (R r ∧ 0 ≤ dt n b r) ∨ ∃ p q, R p ∧ R q ∧ 0 < dt n b p ∧ dt n b q < 0 ∧ Adj n A R p q ∧ r = bl p q
theorem pos_sum {α β x y : Rat} (ha : 0 < α) (hb : 0 < β) (hx : 0 ≤ x) (hy : 0 ≤ y) (h : α * x + β * y = 0) : x = 0 ∧ y = 0 := by
  have h1 := Rat.mul_nonneg (Rat.le_of_lt ha) hx
  have h2 := Rat.mul_nonneg (Rat.le_of_lt hb) hy
  have h3 : α * x = 0 := by grind
  have h4 : β * y = 0 := by grind
  constructor
  · rcases Rat.mul_eq_zero.mp h3 with h | h
    · grind
    · exact h
  · rcases Rat.mul_eq_zero.mp h4 with h | h
    · grind
    · exact h
theorem pos_sum1 {α β x y : Rat} (ha : 0 < α) (hb : 0 ≤ β) (hx : 0 ≤ x) (hy : 0 ≤ y) (h : α * x + β * y = 0) : x = 0 := by
  have h1 := Rat.mul_nonneg (Rat.le_of_lt ha) hx
  have h2 := Rat.mul_nonneg hb hy
  have h3 : α * x = 0 := by grind
  rcases Rat.mul_eq_zero.mp h3 with h | h
  · grind
  · exact h
theorem DD.cut {A : List V} {W R : V → Prop} (D : DD n A W R) {b : V} {bl : V → V → V} (hbl : ∀ p q, R p → R q → 0 < dt n b p → dt n b q < 0 → ∃ c, 0 < c ∧ bl p q = CM.sm c (mixr n b p q)) :
    DD n (A ++ [b]) W (Cut n A R b bl) := by
  have mW : ∀ p q, W p → W q → W (mixr n b p q) := fun p q hp hq => D.add _ _ (D.sm _ _ hp) (D.sm _ _ hq)
  have subW : ∀ x y s, W x → W y → W (x - CM.sm s y) := fun x y s hx hy => by
    have := D.add _ _ hx (D.sm (-s) _ hy)
    rwa [show x + CM.sm (-s) y = x - CM.sm s y from by funext i; simp; grind] at this
  have rwp : ∀ r, Cut n A R b bl r → W r := by
    rintro r (h | ⟨p, q, hp, hq, h1, h2, _, rfl⟩)
    · exact D.rw r h.1
    · obtain ⟨c, _, e⟩ := hbl p q hp hq h1 h2
      rw [e]; exact D.sm _ _ (mW p q (D.rw p hp) (D.rw q hq))
  have mdt : ∀ a p q, dt n a (mixr n b p q) = -dt n b q * dt n a p + dt n b p * dt n a q := fun a p q => by unfold mixr; rw [dt_add, dt_sm, dt_sm]
  have mpos : ∀ p q, R p → R q → 0 < dt n b p → dt n b q < 0 → ∀ a ∈ A, 0 ≤ dt n a (mixr n b p q) := fun p q hp hq h1 h2 a ha => by
    rw [mdt]; exact Rat.add_nonneg (Rat.mul_nonneg (by grind) (D.pos p hp a ha)) (Rat.mul_nonneg (by grind) (D.pos q hq a ha))
  have mts : ∀ p q, R p → R q → 0 < dt n b p → dt n b q < 0 → ∀ a ∈ A, dt n a (mixr n b p q) = 0 → dt n a p = 0 ∧ dt n a q = 0 := fun p q hp hq h1 h2 a ha h => by
    rw [mdt] at h; exact pos_sum (by grind) h1 (D.pos p hp a ha) (D.pos q hq a ha) h
  have mne : ∀ p q, R p → R q → 0 < dt n b p → dt n b q < 0 → ∃ a ∈ A, 0 < dt n a (mixr n b p q) := fun p q hp hq h1 h2 => by
    obtain ⟨a, ha, h⟩ := D.some_pos (D.rw p hp) (D.pos p hp) (D.ne p hp)
    refine ⟨a, ha, ?_⟩
    rw [mdt]
    have h3 : 0 < -dt n b q * dt n a p := Rat.mul_pos (by grind) h
    have h4 : 0 ≤ dt n b p * dt n a q := Rat.mul_nonneg (Rat.le_of_lt h1) (D.pos q hq a ha)
    grind
  have posp : ∀ r, Cut n A R b bl r → ∀ a ∈ A ++ [b], 0 ≤ dt n a r := by
    rintro r (h | ⟨p, q, hp, hq, h1, h2, _, rfl⟩) a ha
    · rcases List.mem_append.mp ha with ha | ha
      · exact D.pos r h.1 a ha
      · rw [List.mem_singleton.mp ha]; exact h.2
    · obtain ⟨c, c0, e⟩ := hbl p q hp hq h1 h2
      rw [e, dt_sm]
      refine Rat.mul_nonneg (Rat.le_of_lt c0) ?_
      rcases List.mem_append.mp ha with ha | ha
      · exact mpos p q hp hq h1 h2 a ha
      · rw [List.mem_singleton.mp ha, dt_mixr]; exact Rat.le_refl
  have nep : ∀ r, Cut n A R b bl r → r ≠ 0 := by
    rintro r (h | ⟨p, q, hp, hq, h1, h2, _, rfl⟩)
    · exact D.ne r h.1
    · obtain ⟨c, c0, e⟩ := hbl p q hp hq h1 h2
      obtain ⟨a, ha, h⟩ := mne p q hp hq h1 h2
      intro e2
      have : dt n a (bl p q) = 0 := by rw [e2, dt_zero]
      rw [e, dt_sm] at this
      have := Rat.mul_pos c0 h
      grind
  have ptp : ∀ x, W x → (∀ a ∈ A ++ [b], dt n a x = 0) → x = 0 := fun x hw h => D.pt x hw fun a ha => h a (List.mem_append_left _ ha)
  have minp : ∀ r q, Cut n A R b bl r → Cut n A R b bl q → TS n (A ++ [b]) r q → r = q := by
    intro r s hr hs ts
    have tsA : TS n A r s := fun a ha => ts a (List.mem_append_left _ ha)
    have tsb : dt n b r = 0 → dt n b s = 0 := ts b (List.mem_append_right _ (List.mem_singleton.mpr rfl))
    -- tight of a made one
    have tm : ∀ p q, R p → R q → 0 < dt n b p → dt n b q < 0 → ∀ a ∈ A, dt n a (bl p q) = 0 ↔ dt n a p = 0 ∧ dt n a q = 0 := by
      intro p q hp hq h1 h2 a ha
      obtain ⟨c, c0, e⟩ := hbl p q hp hq h1 h2
      rw [e, dt_sm]
      constructor
      · intro h
        rcases Rat.mul_eq_zero.mp h with h | h
        · rw [h] at c0; exact absurd c0 Rat.lt_irrefl
        · exact mts p q hp hq h1 h2 a ha h
      · rintro ⟨h3, h4⟩
        rw [mdt, h3, h4]; grind
    have tb : ∀ p q, R p → R q → 0 < dt n b p → dt n b q < 0 → dt n b (bl p q) = 0 := by
      intro p q hp hq h1 h2
      obtain ⟨c, c0, e⟩ := hbl p q hp hq h1 h2
      rw [e, dt_sm, dt_mixr]; grind
    rcases hr with hr | ⟨p, q, hp, hq, h1, h2, ad, rfl⟩
    · rcases hs with hs | ⟨p, q, hp, hq, h1, h2, ad, rfl⟩
      · exact D.min r s hr.1 hs.1 tsA
      · exfalso
        have e1 := D.min r p hr.1 hp fun a ha h => ((tm p q hp hq h1 h2 a ha).mp (tsA a ha h)).1
        have e2 := D.min r q hr.1 hq fun a ha h => ((tm p q hp hq h1 h2 a ha).mp (tsA a ha h)).2
        rw [← e1, e2] at h1
        grind
    · have both : ∀ a ∈ A, dt n a p = 0 → dt n a q = 0 → dt n a s = 0 := fun a ha h3 h4 => tsA a ha ((tm p q hp hq h1 h2 a ha).mpr ⟨h3, h4⟩)
      have bs := tsb (tb p q hp hq h1 h2)
      rcases hs with hs | ⟨p', q', hp', hq', h1', h2', ad', rfl⟩
      · exfalso
        refine ad s hs.1 (fun e => ?_) (fun e => ?_) both
        · rw [← e, bs] at h1; exact Rat.lt_irrefl h1
        · rw [← e, bs] at h2; exact Rat.lt_irrefl h2
      · have ep : p' = p := by
          apply Classical.byContradiction
          intro hn
          refine ad p' hp' hn (fun e => ?_) fun a ha h3 h4 => ((tm p' q' hp' hq' h1' h2' a ha).mp (both a ha h3 h4)).1
          rw [e] at h1'; grind
        have eq : q' = q := by
          apply Classical.byContradiction
          intro hn
          refine ad q' hq' (fun e => ?_) hn fun a ha h3 h4 => ((tm p' q' hp' hq' h1' h2' a ha).mp (both a ha h3 h4)).2
          rw [e] at h2'; grind
        rw [ep, eq]
  refine ⟨D.su, D.zero, D.add, D.sm, ptp, rwp, posp, nep, ?_, minp⟩
  refine gen_of_faces (fun x y s hx hy => subW x y s hx (rwp y hy)) ptp rwp posp nep fun x hw hx ne => ?_
  have hxA : ∀ a ∈ A, 0 ≤ dt n a x := fun a ha => hx a (List.mem_append_left _ ha)
  have hxb : 0 ≤ dt n b x := hx b (List.mem_append_right _ (List.mem_singleton.mpr rfl))
  have hF := face_cn D.pos (D.gen x hw hxA)
  -- a face's ray with product nought, or above where x is above
  have done0 : ∀ r, R r → TS n A x r → dt n b r = 0 → ∃ r, Cut n A R b bl r ∧ TS n (A ++ [b]) x r := fun r hr ts h0 =>
    ⟨r, .inl ⟨hr, by rw [h0]; exact Rat.le_refl⟩, fun a ha h => by
      rcases List.mem_append.mp ha with ha | ha
      · exact ts a ha h
      · rw [List.mem_singleton.mp ha]; exact h0⟩
  by_cases hb0 : dt n b x = 0
  · -- pairs
    have pairs : ∀ m p q, R p → R q → TS n A x p → TS n A x q → 0 < dt n b p → dt n b q < 0 → A.length - cnt2 n A p q ≤ m → ∃ r, Cut n A R b bl r ∧ TS n (A ++ [b]) x r := by
      have step : ∀ m, (∀ p q, R p → R q → TS n A x p → TS n A x q → 0 < dt n b p → dt n b q < 0 → A.length - cnt2 n A p q < m → ∃ r, Cut n A R b bl r ∧ TS n (A ++ [b]) x r) →
          ∀ p q, R p → R q → TS n A x p → TS n A x q → 0 < dt n b p → dt n b q < 0 → A.length - cnt2 n A p q ≤ m → ∃ r, Cut n A R b bl r ∧ TS n (A ++ [b]) x r := by
        intro m ih p q hp hq tp tq h1 h2 hm
        by_cases ad : Adj n A R p q
        · refine ⟨bl p q, .inr ⟨p, q, hp, hq, h1, h2, ad, rfl⟩, fun a ha h => ?_⟩
          obtain ⟨c, c0, e⟩ := hbl p q hp hq h1 h2
          rw [e, dt_sm]
          rcases List.mem_append.mp ha with ha | ha
          · rw [mdt, tp a ha h, tq a ha h]; grind
          · rw [List.mem_singleton.mp ha, dt_mixr]; grind
        · unfold Adj at ad
          obtain ⟨t, ad⟩ := Classical.not_forall.mp ad
          obtain ⟨ht, ad⟩ := Classical.not_imp.mp ad
          obtain ⟨np, ad⟩ := Classical.not_imp.mp ad
          obtain ⟨nq, ad⟩ := Classical.not_imp.mp ad
          have both := Classical.not_not.mp ad
          have tt : TS n A x t := fun a ha h => both a ha (tp a ha h) (tq a ha h)
          -- a step along d within the face of z
          have go : ∀ d, W d → (∀ a ∈ A, 0 ≤ dt n a d) → dt n b d = 0 → (∃ a ∈ A, 0 < dt n a d) → TS n A (mixr n b p q) d → (∀ s, 0 < s → mixr n b p q - CM.sm s d ≠ 0) → ∃ r, Cut n A R b bl r ∧ TS n (A ++ [b]) x r := by
            intro d hdW hdp hdb hdn tsd hne
            obtain ⟨s, s0, s1, a, ha, s2, s3⟩ := take_off (mpos p q hp hq h1 h2) tsd hdn
            have uW : W (mixr n b p q - CM.sm s d) := subW _ _ _ (mW p q (D.rw p hp) (D.rw q hq)) hdW
            have ub : dt n b (mixr n b p q - CM.sm s d) = 0 := by rw [dt_sub, dt_sm, dt_mixr, hdb]; grind
            have tzu : TS n A (mixr n b p q) (mixr n b p q - CM.sm s d) := fun c hc h => by rw [dt_sub, dt_sm, h, tsd c hc h]; grind
            have txu : ∀ g, TS n A (mixr n b p q - CM.sm s d) g → TS n A x g := fun g hg c hc h => hg c hc (tzu c hc (by rw [mdt, tp c hc h, tq c hc h]; grind))
            rcases cn_sign (b := b) (face_cn D.pos (D.gen _ uW s1)) (hne s s0) ub with ⟨g, hg, hg0⟩ | ⟨p', q', hp', hq', k1, k2⟩
            · exact done0 g hg.1 (txu g hg.2) hg0
            · refine ih p' q' hp'.1 hq'.1 (txu _ hp'.2) (txu _ hq'.2) k1 k2 ?_
              have c1 : cnt2 n A p q < cnt2 n A p' q' := by
                refine flt_lt (fun c hc h => ?_) ⟨a, ha, decide_eq_false fun h => ?_, decide_eq_true ?_⟩
                · have h := of_decide_eq_true h
                  have hz := tzu c hc (by rw [mdt, h.1, h.2]; grind)
                  exact decide_eq_true ⟨hp'.2 c hc hz, hq'.2 c hc hz⟩
                · exact s2 (by rw [mdt, h.1, h.2]; grind)
                · exact ⟨hp'.2 a ha s3, hq'.2 a ha s3⟩
              have c2 : cnt2 n A p' q' ≤ A.length := List.length_filter_le _ _
              omega
          by_cases t0 : dt n b t = 0
          · exact done0 t ht tt t0
          · by_cases tpos : 0 < dt n b t
            · refine go (mixr n b t q) (mW t q (D.rw t ht) (D.rw q hq)) (mpos t q ht hq tpos h2) (dt_mixr _ _ _) (mne t q ht hq tpos h2) (fun a ha h => ?_) fun s s0 e => ?_
              · obtain ⟨h3, h4⟩ := mts p q hp hq h1 h2 a ha h
                rw [mdt, h4, both a ha h3 h4]; grind
              · have eqn : ∀ a, dt n a (mixr n b p q) = s * dt n a (mixr n b t q) := fun a => by
                  have : dt n a (mixr n b p q - CM.sm s (mixr n b t q)) = 0 := by rw [e, dt_zero]
                  rw [dt_sub, dt_sm] at this; grind
                by_cases hc : s * dt n b t ≤ dt n b p
                · refine np (D.min t p ht hp fun a ha h => ?_)
                  have h5 := eqn a
                  rw [mdt, mdt, h] at h5
                  refine pos_sum1 (α := -dt n b q) (β := dt n b p - s * dt n b t) (y := dt n a q) (by grind) (by grind) (D.pos p hp a ha) (D.pos q hq a ha) ?_
                  clear ih go both tt tp tq done0 hF
                  grind
                · refine np (D.min p t hp ht fun a ha h => ?_).symm
                  have h5 := eqn a
                  rw [mdt, mdt, h] at h5
                  refine pos_sum1 (α := s * -dt n b q) (β := s * dt n b t - dt n b p) (y := dt n a q) (Rat.mul_pos s0 (by grind)) (by grind) (D.pos t ht a ha) (D.pos q hq a ha) ?_
                  clear ih go both tt tp tq done0 hF
                  grind
            · have tneg : dt n b t < 0 := by grind
              refine go (mixr n b p t) (mW p t (D.rw p hp) (D.rw t ht)) (mpos p t hp ht h1 tneg) (dt_mixr _ _ _) (mne p t hp ht h1 tneg) (fun a ha h => ?_) fun s s0 e => ?_
              · obtain ⟨h3, h4⟩ := mts p q hp hq h1 h2 a ha h
                rw [mdt, h3, both a ha h3 h4]; grind
              · have eqn : ∀ a, dt n a (mixr n b p q) = s * dt n a (mixr n b p t) := fun a => by
                  have : dt n a (mixr n b p q - CM.sm s (mixr n b p t)) = 0 := by rw [e, dt_zero]
                  rw [dt_sub, dt_sm] at this; grind
                by_cases hc : s * -dt n b t ≤ -dt n b q
                · refine nq (D.min t q ht hq fun a ha h => ?_)
                  have h5 := eqn a
                  rw [mdt, mdt, h] at h5
                  refine pos_sum1 (α := dt n b p) (β := -dt n b q - s * -dt n b t) (y := dt n a p) (by grind) (by grind) (D.pos q hq a ha) (D.pos p hp a ha) ?_
                  clear ih go both tt tp tq done0 hF
                  grind
                · refine nq (D.min q t hq ht fun a ha h => ?_).symm
                  have h5 := eqn a
                  rw [mdt, mdt, h] at h5
                  refine pos_sum1 (α := s * dt n b p) (β := s * -dt n b t - -dt n b q) (y := dt n a p) (Rat.mul_pos s0 (by grind)) (by grind) (D.pos t ht a ha) (D.pos p hp a ha) ?_
                  clear ih go both tt tp tq done0 hF
                  grind
      intro m
      induction m with
      | zero => exact step 0 fun _ _ _ _ _ _ _ _ h => absurd h (by omega)
      | succ m ih => exact step (m + 1) fun p q hp hq tp tq h1 h2 h => ih p q hp hq tp tq h1 h2 (by omega)
    rcases cn_sign (b := b) hF ne hb0 with ⟨g, hg, hg0⟩ | ⟨p, q, hp, hq, k1, k2⟩
    · exact done0 g hg.1 hg.2 hg0
    · exact pairs _ p q hp.1 hq.1 hp.2 hq.2 k1 k2 (Nat.le_refl _)
  · -- above: some ray of the face is above
    have : ∃ r, (R r ∧ TS n A x r) ∧ 0 < dt n b r := by
      apply Classical.byContradiction
      intro hn
      have h1 : 0 ≤ dt n (-b) x := hF.dt0 fun r hr => by
        rw [neg_dt]
        have : ¬ 0 < dt n b r := fun h => hn ⟨r, hr, h⟩
        grind
      rw [neg_dt] at h1
      grind
    obtain ⟨r, hr, hp⟩ := this
    refine ⟨r, .inl ⟨hr.1, Rat.le_of_lt hp⟩, fun a ha h => ?_⟩
    rcases List.mem_append.mp ha with ha | ha
    · exact hr.2 a ha h
    · rw [List.mem_singleton.mp ha] at h; exact absurd h hb0
end
end CM

/-! Double description: a line turned into a ray; what tells how many rows are tight. -/
namespace CM
open Classical
section
variable {n : Nat}
def Turn (R : V → Prop) (f : V) (led : V → V) (r : V) : Prop := r = f ∨ ∃ q, R q ∧ r = led q
theorem DD.turn {A : List V} {W W' R : V → Prop} (D : DD n A W R) {b f : V} {led : V → V} (hf : Su n f) (hA : ∀ a ∈ A, dt n a f = 0) (hb : 0 < dt n b f)
    (hW : ∀ x, W' x ↔ ∃ w s, W w ∧ x = w + CM.sm s f) (hl : ∀ r, R r → ∃ c, 0 < c ∧ led r = CM.sm c (CM.sm (dt n b f) r - CM.sm (dt n b r) f)) :
    DD n (A ++ [b]) W' (Turn R f led) := by
  have fW : W' f := (hW f).mpr ⟨0, 1, D.zero, by rw [one_sm, zero_add']⟩
  have addW : ∀ x y, W' x → W' y → W' (x + y) := fun x y hx hy => by
    obtain ⟨w, s, hw, rfl⟩ := (hW x).mp hx
    obtain ⟨v, t, hv, rfl⟩ := (hW y).mp hy
    exact (hW _).mpr ⟨w + v, s + t, D.add _ _ hw hv, by funext i; simp; grind⟩
  have smW : ∀ c x, W' x → W' (CM.sm c x) := fun c x hx => by
    obtain ⟨w, s, hw, rfl⟩ := (hW x).mp hx
    exact (hW _).mpr ⟨CM.sm c w, c * s, D.sm _ _ hw, by funext i; simp; grind⟩
  have oldW : ∀ x, W x → W' x := fun x hx => (hW x).mpr ⟨x, 0, hx, by rw [zero_sm, add_zero']⟩
  have ldt : ∀ a r, dt n a (CM.sm (dt n b f) r - CM.sm (dt n b r) f) = dt n b f * dt n a r - dt n b r * dt n a f := fun a r => by rw [dt_sub, dt_sm, dt_sm]
  have rwp : ∀ r, Turn R f led r → W' r := by
    rintro r (rfl | ⟨q, hq, rfl⟩)
    · exact fW
    · obtain ⟨c, _, e⟩ := hl q hq
      rw [e]
      refine smW _ _ ?_
      have := addW _ _ (smW (dt n b f) _ (oldW _ (D.rw q hq))) (smW (-dt n b q) _ fW)
      rwa [show CM.sm (dt n b f) q + CM.sm (-dt n b q) f = CM.sm (dt n b f) q - CM.sm (dt n b q) f from by funext i; simp; grind] at this
  have posp : ∀ r, Turn R f led r → ∀ a ∈ A ++ [b], 0 ≤ dt n a r := by
    rintro r (rfl | ⟨q, hq, rfl⟩) a ha
    · rcases List.mem_append.mp ha with ha | ha
      · rw [hA a ha]; exact Rat.le_refl
      · rw [List.mem_singleton.mp ha]; exact Rat.le_of_lt hb
    · obtain ⟨c, c0, e⟩ := hl q hq
      rw [e, dt_sm, ldt]
      refine Rat.mul_nonneg (Rat.le_of_lt c0) ?_
      rcases List.mem_append.mp ha with ha | ha
      · rw [hA a ha]
        have := Rat.mul_nonneg (Rat.le_of_lt hb) (D.pos q hq a ha)
        grind
      · rw [List.mem_singleton.mp ha]; grind
  have tl : ∀ q, R q → ∀ a ∈ A, dt n a (led q) = 0 ↔ dt n a q = 0 := fun q hq a ha => by
    obtain ⟨c, c0, e⟩ := hl q hq
    rw [e, dt_sm, ldt, hA a ha]
    constructor
    · intro h
      rcases Rat.mul_eq_zero.mp h with h | h
      · grind
      · have : dt n b f * dt n a q = 0 := by grind
        rcases Rat.mul_eq_zero.mp this with h | h
        · grind
        · exact h
    · intro h; rw [h]; grind
  have lb : ∀ q, R q → dt n b (led q) = 0 := fun q hq => by
    obtain ⟨c, c0, e⟩ := hl q hq
    rw [e, dt_sm, ldt]; grind
  have nep : ∀ r, Turn R f led r → r ≠ 0 := by
    rintro r (rfl | ⟨q, hq, rfl⟩) h0
    · rw [h0, dt_zero] at hb; exact Rat.lt_irrefl hb
    · exact D.ne q hq (D.pt q (D.rw q hq) fun a ha => (tl q hq a ha).mp (by rw [h0, dt_zero]))
  refine ⟨fun x hx => ?_, oldW 0 D.zero, addW, smW, fun x hx h => ?_, rwp, posp, nep, fun x hx h => ?_, ?_⟩
  · obtain ⟨w, s, hw, rfl⟩ := (hW x).mp hx
    exact (D.su w hw).add (hf.sm s)
  · obtain ⟨w, s, hw, rfl⟩ := (hW x).mp hx
    have h1 : w = 0 := D.pt w hw fun a ha => by
      have := h a (List.mem_append_left _ ha)
      rw [dt_add, dt_sm, hA a ha] at this; grind
    have h2 := h b (List.mem_append_right _ (List.mem_singleton.mpr rfl))
    rw [h1, zero_add', dt_sm] at h2
    rcases Rat.mul_eq_zero.mp h2 with h2 | h2
    · rw [h1, h2, zero_sm, zero_add']
    · rw [h2] at hb; exact absurd hb Rat.lt_irrefl
  · obtain ⟨w, s, hw, rfl⟩ := (hW x).mp hx
    have h1 := D.gen w hw fun a ha => by
      have := h a (List.mem_append_left _ ha)
      rw [dt_add, dt_sm, hA a ha] at this; grind
    -- w = Σ c r; led back along f
    have key : ∀ y, Cn R y → ∃ z, Cn (Turn R f led) z ∧ dt n b z = 0 ∧ ∃ t, y = z + CM.sm t f := by
      intro y hy
      induction hy with
      | zero => exact ⟨0, .zero, dt_zero _, 0, by rw [zero_sm, zero_add']⟩
      | @step q y c h0 hq _ ih =>
        obtain ⟨z, hz, hz0, t, rfl⟩ := ih
        obtain ⟨d, d0, e⟩ := hl q hq
        have hdb : 0 < d * dt n b f := Rat.mul_pos d0 hb
        have hinv := Rat.mul_inv_cancel (d * dt n b f) (by grind)
        refine ⟨CM.sm (c * (d * dt n b f)⁻¹) (led q) + z, .step (Rat.mul_nonneg h0 (Rat.le_of_lt (Rat.inv_pos.mpr hdb))) (.inr ⟨q, hq, rfl⟩) hz, by rw [dt_add, dt_sm, lb q hq, hz0]; grind, t + c * (d * dt n b f)⁻¹ * d * dt n b q, ?_⟩
        rw [e]
        funext i
        simp only [add_at, sm_at, sub_at]
        generalize (d * dt n b f)⁻¹ = u at *
        have h4 : c * q i = c * (d * dt n b f * u) * q i := by rw [hinv]; grind
        rw [h4]
        grind
    obtain ⟨z, hz, hz0, t, rfl⟩ := key w h1
    have h2 := h b (List.mem_append_right _ (List.mem_singleton.mpr rfl))
    rw [dt_add, dt_add, dt_sm, dt_sm, hz0] at h2
    have h3 : 0 ≤ t + s := by
      apply Classical.byContradiction
      intro hn
      have := Rat.mul_pos (a := -(t + s)) (b := dt n b f) (by grind) hb
      grind
    have := Cn.step h3 (.inl rfl : Turn R f led f) hz
    rwa [show CM.sm (t + s) f + z = z + CM.sm t f + CM.sm s f from by funext i; simp; grind] at this
  · intro r q hr hq ts
    have tsb : dt n b r = 0 → dt n b q = 0 := ts b (List.mem_append_right _ (List.mem_singleton.mpr rfl))
    rcases hr with rfl | ⟨r0, hr, rfl⟩
    · rcases hq with rfl | ⟨q0, hq, rfl⟩
      · rfl
      · exfalso
        exact D.ne q0 hq (D.pt q0 (D.rw q0 hq) fun a ha => (tl q0 hq a ha).mp (ts a (List.mem_append_left _ ha) (hA a ha)))
    · rcases hq with rfl | ⟨q0, hq, rfl⟩
      · exfalso
        have := tsb (lb r0 hr)
        rw [this] at hb; exact Rat.lt_irrefl hb
      · have := D.min r0 q0 hr hq fun a ha h => (tl q0 hq a ha).mp (ts a (List.mem_append_left _ ha) ((tl r0 hr a ha).mpr h))
        rw [this]
/-- a small step keeps what is above -/
theorem small_step (A : List V) (z x : V) : ∃ e : Rat, 0 < e ∧ ∀ a ∈ A, 0 < dt n a z → 0 < dt n a (z + sm e x) := by
  induction A with
  | nil => exact ⟨1, by decide, fun _ h => nomatch h⟩
  | cons a A ih =>
    obtain ⟨e, e0, h⟩ := ih
    by_cases hp : 0 < dt n a z ∧ dt n a x < 0
    · have h1 : 0 < dt n a z / (-dt n a x) := by
        refine (Rat.lt_div_iff (by grind)).mpr ?_
        have : (0 : Rat) * -dt n a x = 0 := Rat.zero_mul _
        grind
      have key : ∀ d : Rat, 0 < d → d ≤ e → d ≤ dt n a z / (-dt n a x) / 2 → ∃ e : Rat, 0 < e ∧ ∀ c ∈ a :: A, 0 < dt n c z → 0 < dt n c (z + sm e x) := by
        intro d d0 d1 d2
        refine ⟨d, d0, fun c hc hcz => ?_⟩
        rcases List.mem_cons.mp hc with rfl | hc
        · rw [dt_add, dt_sm]
          have h2 : dt n c z / (-dt n c x) * (-dt n c x) = dt n c z := Rat.div_mul_cancel (by grind)
          have h3 := Rat.mul_le_mul_of_nonneg_right (a := d) (b := dt n c z / (-dt n c x) / 2) d2 (c := -dt n c x) (by grind)
          grind
        · have h4 := h c hc hcz
          rw [dt_add, dt_sm] at h4 ⊢
          by_cases hx : dt n c x < 0
          · have := Rat.mul_le_mul_of_nonneg_right d1 (c := -dt n c x) (by grind)
            grind
          · have := Rat.mul_nonneg (Rat.le_of_lt d0) (b := dt n c x) (by grind)
            grind
      by_cases hm : e ≤ dt n a z / (-dt n a x) / 2
      · exact key e e0 Rat.le_refl hm
      · exact key _ (by grind) (by grind) Rat.le_refl
    · refine ⟨e, e0, fun c hc hcz => ?_⟩
      rcases List.mem_cons.mp hc with rfl | hc
      · rw [dt_add, dt_sm]
        have := Rat.mul_nonneg (Rat.le_of_lt e0) (b := dt n c x) (by grind)
        grind
      · exact h c hc hcz
/-- the vectors of the space on which all that are tight for z vanish are made of the rays of z's face -/
theorem DD.face_span {A : List V} {W R : V → Prop} (D : DD n A W R) {z x : V} (hz : W z) (hp : ∀ a ∈ A, 0 ≤ dt n a z) (hx : W x) (ts : TS n A z x) : Sp (fun r => R r ∧ TS n A z r) x := by
  obtain ⟨e, e0, h⟩ := small_step (n := n) A z x
  have zero : ∀ a ∈ A, dt n a z = 0 → dt n a (z + CM.sm e x) = 0 := fun a ha h0 => by rw [dt_add, dt_sm, h0, ts a ha h0]; grind
  have yp : ∀ a ∈ A, 0 ≤ dt n a (z + CM.sm e x) := fun a ha => by
    by_cases h0 : dt n a z = 0
    · rw [zero a ha h0]; exact Rat.le_refl
    · exact Rat.le_of_lt (h a ha (by have := hp a ha; grind))
  have h1 := (face_cn D.pos (D.gen _ (D.add _ _ hz (D.sm e _ hx)) yp)).sp.mono (C := fun r => R r ∧ TS n A z r) fun r hr => ⟨hr.1, fun a ha h0 => hr.2 a ha (zero a ha h0)⟩
  have h2 := (face_cn D.pos (D.gen _ hz hp)).sp
  have h3 := (h1.sub h2).sm e⁻¹
  have := Rat.inv_mul_cancel e (by grind)
  rwa [show CM.sm e⁻¹ (z + CM.sm e x - z) = x from by funext i; simp; grind] at h3
end
end CM

/-! Lines with their own places; ranks. -/
namespace CM
open Classical
section
variable {n : Nat}
/-- nought at some places -/
def Off (n : Nat) (ps : List Nat) (x : V) : Prop := Su n x ∧ ∀ p ∈ ps, x p = 0
structure Ln (n : Nat) (A : List V) (M : List (V × Nat)) : Prop where
  nod : (M.map (·.2)).Nodup
  lt : ∀ x ∈ M, x.2 < n
  su : ∀ x ∈ M, Su n x.1
  ne : ∀ x ∈ M, x.1 x.2 ≠ 0
  off : ∀ x ∈ M, ∀ y ∈ M, x.2 ≠ y.2 → x.1 y.2 = 0
  van : ∀ x ∈ M, ∀ a ∈ A, dt n a x.1 = 0
theorem Ln.decomp {A : List V} {M : List (V × Nat)} (L : Ln n A M) {x : V} (hx : Su n x) : ∃ l, Sp (· ∈ M.map (·.1)) l ∧ Off n (M.map (·.2)) (x - l) := by
  have key : ∀ N : List (V × Nat), (∀ y ∈ N, y ∈ M) → ∃ l, Sp (· ∈ M.map (·.1)) l ∧ ∀ y ∈ N, (x - l) y.2 = 0 := by
    intro N
    induction N with
    | nil => intro _; exact ⟨0, .zero, fun _ h => nomatch h⟩
    | cons y N ih =>
      intro hN
      obtain ⟨l, hl, h⟩ := ih fun z hz => hN z (List.mem_cons_of_mem _ hz)
      have hy := hN y List.mem_cons_self
      have hne := L.ne y hy
      refine ⟨l + CM.sm ((x - l) y.2 / y.1 y.2) y.1, hl.add (.sm _ (.mem (List.mem_map.mpr ⟨y, hy, rfl⟩))), fun z hz => ?_⟩
      by_cases e : z.2 = y.2
      · rw [e]
        have := Rat.div_mul_cancel (a := (x - l) y.2) hne
        simp only [sub_at, add_at, sm_at] at this ⊢
        grind
      · rcases List.mem_cons.mp hz with rfl | hz
        · exact absurd rfl e
        · have h1 := h z hz
          have h2 := L.off y hy z (hN z (List.mem_cons_of_mem _ hz)) (fun q => e q.symm)
          simp only [sub_at, add_at, sm_at] at h1 ⊢
          rw [h2]; grind
  obtain ⟨l, hl, h⟩ := key M fun _ h => h
  refine ⟨l, hl, hx.sub (hl.su fun b hb => ?_), fun p hp => ?_⟩
  · obtain ⟨y, hy, rfl⟩ := List.mem_map.mp hb
    exact L.su y hy
  · obtain ⟨y, hy, rfl⟩ := List.mem_map.mp hp
    exact h y hy
theorem Ln.ind {A : List V} {M : List (V × Nat)} (L : Ln n A M) : Ind (M.map (·.1)) := by
  have key : ∀ N : List (V × Nat), (∀ y ∈ N, y ∈ M) → (N.map (·.2)).Nodup → Ind (N.map (·.1)) := by
    intro N
    induction N with
    | nil => intro _ _; trivial
    | cons y N ih =>
      intro hN hd
      have hd : y.2 ∉ N.map (·.2) ∧ (N.map (·.2)).Nodup := List.nodup_cons.mp hd
      refine ⟨fun hs => ?_, ih (fun z hz => hN z (List.mem_cons_of_mem _ hz)) hd.2⟩
      have : ∀ l, Sp (· ∈ N.map (·.1)) l → l y.2 = 0 := fun l hl => by
        induction hl with
        | zero => rfl
        | @step b z c hb _ ih =>
          obtain ⟨w, hw, rfl⟩ := List.mem_map.mp hb
          have := L.off w (hN w (List.mem_cons_of_mem _ hw)) y (hN y List.mem_cons_self) fun e => hd.1 (List.mem_map.mpr ⟨w, hw, e⟩)
          simp only [add_at, sm_at, this, ih]; grind
      exact L.ne y (hN y List.mem_cons_self) (this _ hs)
  exact key M (fun _ h => h) L.nod
theorem Ln.vanSp {A : List V} {M : List (V × Nat)} (L : Ln n A M) {l : V} (hl : Sp (· ∈ M.map (·.1)) l) : Su n l ∧ ∀ a ∈ A, dt n a l = 0 := by
  refine ⟨hl.su fun b hb => ?_, fun a ha => hl.dt0 fun b hb => ?_⟩
  · obtain ⟨y, hy, rfl⟩ := List.mem_map.mp hb; exact L.su y hy
  · obtain ⟨y, hy, rfl⟩ := List.mem_map.mp hb; exact L.van y hy a ha
section
variable {A : List V} {M : List (V × Nat)} {R : V → Prop}
theorem kernel_lines (L : Ln n A M) (D : DD n A (Off n (M.map (·.2))) R) (x : V) : Sp (· ∈ M.map (·.1)) x ↔ Su n x ∧ ∀ a ∈ A, dt n a x = 0 := by
  constructor
  · exact L.vanSp
  · rintro ⟨hx, h⟩
    obtain ⟨l, hl, ho⟩ := L.decomp hx
    have hv := L.vanSp hl
    have := D.pt _ ho fun a ha => by rw [dt_sub, h a ha, hv.2 a ha]; grind
    rwa [show x = l from by funext i; have := congrFun this i; simp at this; grind]
theorem rank_lines (hA : ∀ a ∈ A, Su n a) (L : Ln n A M) (D : DD n A (Off n (M.map (·.2))) R) : M.length + rk A = n := by
  obtain ⟨K, k1, k2, k3⟩ := rank_nullity A hA
  have e1 : rk K = rk (M.map (·.1)) := rk_eq_of_sp fun x => (k2 x).trans (kernel_lines L D x).symm
  rw [rk_ind k1, rk_ind L.ind, List.length_map] at e1
  omega
/-- the kernel of what is tight for a ray -/
theorem kernel_ray (L : Ln n A M) (D : DD n A (Off n (M.map (·.2))) R) {r : V} (hr : R r) (x : V) : Sp (· ∈ r :: M.map (·.1)) x ↔ Su n x ∧ ∀ a ∈ A, dt n a r = 0 → dt n a x = 0 := by
  constructor
  · intro h
    refine ⟨h.su fun b hb => ?_, fun a ha h0 => h.dt0 fun b hb => ?_⟩
    · rcases List.mem_cons.mp hb with rfl | hb
      · exact D.su _ (D.rw _ hr)
      · exact (L.vanSp (.mem hb)).1
    · rcases List.mem_cons.mp hb with rfl | hb
      · exact h0
      · exact (L.vanSp (.mem hb)).2 a ha
  · rintro ⟨hx, h⟩
    obtain ⟨l, hl, ho⟩ := L.decomp hx
    have hv := L.vanSp hl
    have h1 := D.face_span (D.rw r hr) (D.pos r hr) ho fun a ha h0 => by rw [dt_sub, h a ha h0, hv.2 a ha]; grind
    have h2 : Sp (· ∈ r :: M.map (·.1)) (x - l) := h1.mono fun q hq => by
      rw [D.min r q hr hq.1 hq.2]; exact List.mem_cons_self
    have h3 := h2.add (hl.mono fun _ => List.mem_cons_of_mem r)
    rwa [show x - l + l = x from by funext i; simp; grind] at h3
theorem ray_ind (L : Ln n A M) (D : DD n A (Off n (M.map (·.2))) R) {r : V} (hr : R r) : Ind (r :: M.map (·.1)) :=
  ⟨fun hs => D.ne r hr (D.pt r (D.rw r hr) (L.vanSp hs).2), L.ind⟩
theorem rank_ray (hA : ∀ a ∈ A, Su n a) (L : Ln n A M) (D : DD n A (Off n (M.map (·.2))) R) {r : V} (hr : R r) : M.length + 1 + rk (A.filter fun a => decide (dt n a r = 0)) = n := by
  obtain ⟨K, k1, k2, k3⟩ := rank_nullity (n := n) (A.filter fun a => decide (dt n a r = 0)) fun a ha => hA a (List.mem_filter.mp ha).1
  have e1 : rk K = rk (r :: M.map (·.1)) := rk_eq_of_sp fun x => (k2 x).trans (Iff.trans ⟨fun h => ⟨h.1, fun a ha h0 => h.2 a (List.mem_filter.mpr ⟨ha, decide_eq_true h0⟩)⟩, fun h => ⟨h.1, fun a ha => h.2 a (List.mem_filter.mp ha).1 (of_decide_eq_true (List.mem_filter.mp ha).2)⟩⟩ (kernel_ray L D hr x).symm)
  rw [rk_ind k1, rk_ind (ray_ind L D hr)] at e1
  simp at e1
  omega
/-- two rays with no third where both lie: at least so many rows are tight for both -/
theorem adj_least (hA : ∀ a ∈ A, Su n a) (L : Ln n A M) (D : DD n A (Off n (M.map (·.2))) R) {p q : V} (hp : R p) (hq : R q) (ad : Adj n A R p q) : n ≤ cnt2 n A p q + M.length + 2 := by
  have hE : ∀ e ∈ (A.filter fun a => decide (dt n a p = 0 ∧ dt n a q = 0)) ++ (M.map (·.2)).map un, Su n e := fun e he => by
    rcases List.mem_append.mp he with h | h
    · exact hA e (List.mem_filter.mp h).1
    · obtain ⟨k, hk, rfl⟩ := List.mem_map.mp h
      obtain ⟨y, hy, rfl⟩ := List.mem_map.mp hk
      exact Su.un (L.lt y hy)
  obtain ⟨K, k1, k2, k3⟩ := rank_nullity _ hE
  have h1 := rk_le_len ((A.filter fun a => decide (dt n a p = 0 ∧ dt n a q = 0)) ++ (M.map (·.2)).map un)
  rw [List.length_append, List.length_map, List.length_map] at h1
  have h2 : K.length ≤ [p, q].length := Ind.le k1 fun k hk => by
    obtain ⟨s1, s2⟩ := (k2 k).mp (.mem hk)
    have hk' : Off n (M.map (·.2)) k := ⟨s1, fun j hj => by
      have := s2 (un j) (List.mem_append_right _ (List.mem_map.mpr ⟨j, hj, rfl⟩))
      obtain ⟨y, hy, rfl⟩ := List.mem_map.mp hj
      rwa [dt_un _ (L.lt y hy)] at this⟩
    have zero : ∀ a ∈ A, dt n a (p + q) = 0 → dt n a p = 0 ∧ dt n a q = 0 := fun a ha h => by
      rw [dt_add] at h
      have h1 := D.pos p hp a ha
      have h2 := D.pos q hq a ha
      constructor <;> grind
    have := D.face_span (z := p + q) (D.add _ _ (D.rw p hp) (D.rw q hq)) (fun a ha => by rw [dt_add]; exact Rat.add_nonneg (D.pos p hp a ha) (D.pos q hq a ha)) hk' fun a ha h => s2 a (List.mem_append_left _ (List.mem_filter.mpr ⟨ha, decide_eq_true (zero a ha h)⟩))
    refine this.mono fun t ht => ?_
    apply Classical.byContradiction
    intro hn
    refine ad t ht.1 (fun e => hn (by rw [e]; simp)) (fun e => hn (by rw [e]; simp)) fun a ha h1 h2 => ht.2 a ha (by rw [dt_add, h1, h2]; grind)
  simp at h2
  unfold cnt2
  omega
end
end
end CM

namespace CM
open Classical
section
variable {n : Nat} {A : List V} {W R : V → Prop} {b : V} {bl : V → V → V}
/-- a made ray is none of the old ones -/
theorem made_new (D : DD n A W R) (hbl : ∀ p q, R p → R q → 0 < dt n b p → dt n b q < 0 → ∃ c, 0 < c ∧ bl p q = CM.sm c (mixr n b p q)) {p q r : V} (hp : R p) (hq : R q) (h1 : 0 < dt n b p) (h2 : dt n b q < 0) (ad : Adj n A R p q) (hr : R r) : bl p q ≠ r := by
  intro e
  obtain ⟨c, c0, e2⟩ := hbl p q hp hq h1 h2
  have hb : dt n b r = 0 := by rw [← e, e2, dt_sm, dt_mixr]; grind
  refine ad r hr (fun e => by rw [← e, hb] at h1; grind) (fun e => by rw [← e, hb] at h2; grind) fun a ha h3 h4 => ?_
  rw [← e, e2, dt_sm]
  unfold mixr
  rw [dt_add, dt_sm, dt_sm, h3, h4]; grind
theorem made_uniq (D : DD n A W R) (hbl : ∀ p q, R p → R q → 0 < dt n b p → dt n b q < 0 → ∃ c, 0 < c ∧ bl p q = CM.sm c (mixr n b p q)) {p q p' q' : V} (hp : R p) (hq : R q) (h1 : 0 < dt n b p) (h2 : dt n b q < 0) (ad : Adj n A R p q)
    (hp' : R p') (hq' : R q') (h1' : 0 < dt n b p') (h2' : dt n b q' < 0) (e : bl p q = bl p' q') : p' = p ∧ q' = q := by
  obtain ⟨c, c0, e2⟩ := hbl p q hp hq h1 h2
  obtain ⟨c', c0', e2'⟩ := hbl p' q' hp' hq' h1' h2'
  have key : ∀ a ∈ A, dt n a p = 0 → dt n a q = 0 → dt n a p' = 0 ∧ dt n a q' = 0 := fun a ha h3 h4 => by
    have h5 : dt n a (bl p' q') = 0 := by
      rw [← e, e2, dt_sm]
      unfold mixr
      rw [dt_add, dt_sm, dt_sm, h3, h4]; grind
    rw [e2', dt_sm] at h5
    have h6 : dt n a (mixr n b p' q') = 0 := by
      rcases Rat.mul_eq_zero.mp h5 with h | h
      · grind
      · exact h
    unfold mixr at h6
    rw [dt_add, dt_sm, dt_sm] at h6
    exact pos_sum (by grind) h1' (D.pos p' hp' a ha) (D.pos q' hq' a ha) h6
  constructor
  · apply Classical.byContradiction
    intro hn
    exact ad p' hp' hn (fun e => by rw [e] at h1'; grind) fun a ha h3 h4 => (key a ha h3 h4).1
  · apply Classical.byContradiction
    intro hn
    exact ad q' hq' (fun e => by rw [e] at h2'; grind) hn fun a ha h3 h4 => (key a ha h3 h4).2
/-- the product, from the front -/
theorem dt_front (a x : V) : dt (n + 1) a x = a 0 * x 0 + dt n (fun i => a (i + 1)) (fun i => x (i + 1)) := by
  induction n with
  | zero => simp [dt]; grind
  | succ n ih => rw [dt, ih]; simp only [dt]; grind
end
end CM

/-! Taking a basis from a list; counting; small whole solutions. -/
namespace CM
open Classical
section
variable {n : Nat}
/-- what must be taken of a list, beside others, to make all of it -/
noncomputable def bs (U : List V) : List V → List V
  | [] => []
  | a :: T => if Sp (· ∈ bs U T ++ U) a then bs U T else a :: bs U T
theorem bs_sub (U : List V) : ∀ T, (bs U T).Sublist T
  | [] => List.Sublist.refl _
  | a :: T => by
    unfold bs
    split
    · exact (bs_sub U T).cons a
    · exact (bs_sub U T).cons_cons a
theorem bs_sp (U : List V) : ∀ T x, Sp (· ∈ bs U T ++ U) x ↔ Sp (· ∈ T ++ U) x
  | [], x => Iff.rfl
  | a :: T, x => by
    have ih := bs_sp U T
    unfold bs
    by_cases h : Sp (· ∈ bs U T ++ U) a
    · rw [if_pos h]
      constructor
      · intro hx; exact ((ih x).mp hx).mono fun b hb => List.mem_cons_of_mem _ hb
      · intro hx
        refine hx.trans fun b hb => ?_
        rcases List.mem_cons.mp hb with rfl | hb
        · exact h
        · exact (ih b).mpr (.mem hb)
    · rw [if_neg h]
      constructor
      · intro hx
        refine hx.trans fun b hb => ?_
        rcases List.mem_cons.mp hb with rfl | hb
        · exact .mem List.mem_cons_self
        · exact ((ih b).mp (.mem hb)).mono fun c hc => List.mem_cons_of_mem _ hc
      · intro hx
        refine hx.trans fun b hb => ?_
        rcases List.mem_cons.mp hb with rfl | hb
        · exact .mem List.mem_cons_self
        · exact ((ih b).mpr (.mem hb)).mono fun c hc => List.mem_cons_of_mem _ hc
theorem bs_ind {U : List V} (hU : Ind U) : ∀ T, Ind (bs U T ++ U)
  | [] => hU
  | a :: T => by
    unfold bs
    by_cases h : Sp (· ∈ bs U T ++ U) a
    · rw [if_pos h]; exact bs_ind hU T
    · rw [if_neg h]; exact ⟨h, bs_ind hU T⟩
/-- units at different places are independent -/
theorem uns_ind : ∀ {ps : List Nat}, ps.Nodup → Ind (ps.map un)
  | [], _ => trivial
  | p :: ps, h => by
    obtain ⟨h1, h2⟩ := List.nodup_cons.mp h
    refine ⟨fun hs => ?_, uns_ind h2⟩
    have : ∀ x, Sp (· ∈ ps.map un) x → x p = 0 := fun x hx => by
      induction hx with
      | zero => rfl
      | @step b y c hb _ ih =>
        obtain ⟨q, hq, rfl⟩ := List.mem_map.mp hb
        have : p ≠ q := fun e => h1 (e ▸ hq)
        rw [add_at, sm_at, ih]; unfold un; rw [if_neg this]; grind
    have := this _ hs
    simp [un] at this
/-- one vector spans the kernel: as many rows of the list do as there are places but one -/
theorem kernel_basis1 {T : List V} (hT : ∀ t ∈ T, Su n t) {ps : List Nat} (hps : ps.Nodup) (hlt : ∀ p ∈ ps, p < n) {v : V} (hv : v ≠ 0) (hvs : Su n v)
    (h : ∀ x, (Su n x ∧ (∀ p ∈ ps, x p = 0) ∧ ∀ t ∈ T, dt n t x = 0) ↔ Sp (· ∈ [v]) x) :
    ∃ B : List V, B.Sublist T ∧ B.length + ps.length + 1 = n ∧ ∀ x, (Su n x ∧ (∀ p ∈ ps, x p = 0) ∧ ∀ b ∈ B, dt n b x = 0) → Sp (· ∈ [v]) x := by
  have hU := uns_ind hps
  refine ⟨bs (ps.map un) T, bs_sub _ T, ?_, ?_⟩
  · have hE : ∀ e ∈ bs (ps.map un) T ++ ps.map un, Su n e := fun e he => by
      rcases List.mem_append.mp he with he | he
      · exact hT e ((bs_sub _ T).subset he)
      · obtain ⟨p, hp, rfl⟩ := List.mem_map.mp he; exact Su.un (hlt p hp)
    obtain ⟨K, k1, k2, k3⟩ := rank_nullity _ hE
    rw [rk_ind (bs_ind hU T), List.length_append, List.length_map] at k3
    have e1 : rk K = rk [v] := rk_eq_of_sp fun x => by
      rw [k2, ← h]
      constructor
      · rintro ⟨h1, h2⟩
        refine ⟨h1, fun p hp => ?_, fun t ht => ?_⟩
        · have := h2 (un p) (List.mem_append_right _ (List.mem_map.mpr ⟨p, hp, rfl⟩))
          rwa [dt_un _ (hlt p hp)] at this
        · have := (bs_sp (ps.map un) T t).mpr (.mem (List.mem_append_left _ ht))
          rw [dt_comm]
          exact this.dt0 fun b hb => by rw [dt_comm]; exact h2 b hb
      · rintro ⟨h1, h2, h3⟩
        refine ⟨h1, fun e he => ?_⟩
        rcases List.mem_append.mp he with he | he
        · exact h3 e ((bs_sub _ T).subset he)
        · obtain ⟨p, hp, rfl⟩ := List.mem_map.mp he
          rw [dt_un _ (hlt p hp)]; exact h2 p hp
    have e2 : Ind [v] := ⟨fun hs => hv hs.nil, trivial⟩
    rw [rk_ind k1, rk_ind e2] at e1
    simp at e1
    omega
  · rintro x ⟨h1, h2, h3⟩
    refine (h x).mp ⟨h1, h2, fun t ht => ?_⟩
    have := (bs_sp (ps.map un) T t).mpr (.mem (List.mem_append_left _ ht))
    rw [dt_comm]
    refine this.dt0 fun b hb => ?_
    rw [dt_comm]
    rcases List.mem_append.mp hb with hb | hb
    · exact h3 b hb
    · obtain ⟨p, hp, rfl⟩ := List.mem_map.mp hb
      rw [dt_un _ (hlt p hp)]; exact h2 p hp
theorem sp_one {v x : V} (h : Sp (· ∈ [v]) x) : ∃ c, x = sm c v := by
  obtain ⟨c, y, hy, e⟩ := Sp.cons.mp h
  exact ⟨c, by rw [e, hy.nil, add_zero']⟩
/-! counting -/
theorem inj_len {α β : Type} {f : α → β} : ∀ {L : List α} {K : List β}, L.Nodup → (∀ x ∈ L, f x ∈ K) → (∀ x ∈ L, ∀ y ∈ L, f x = f y → x = y) → L.length ≤ K.length
  | [], _, _, _, _ => Nat.zero_le _
  | x :: L, K, hd, hm, hi => by
    obtain ⟨h1, h2⟩ := List.nodup_cons.mp hd
    have hx := hm x List.mem_cons_self
    have ih := inj_len (L := L) (K := K.erase (f x)) h2 (fun y hy => by
      have hne : f y ≠ f x := fun e => h1 (hi y (List.mem_cons_of_mem _ hy) x List.mem_cons_self e ▸ hy)
      exact (List.mem_erase_of_ne hne).mpr (hm y (List.mem_cons_of_mem _ hy))) fun y hy z hz => hi y (List.mem_cons_of_mem _ hy) z (List.mem_cons_of_mem _ hz)
    rw [List.length_erase_of_mem hx] at ih
    have := List.length_pos_of_mem hx
    simp; omega
theorem pigeon {α β : Type} {f : α → β} {L : List α} {K : List β} (hd : L.Nodup) (hm : ∀ x ∈ L, f x ∈ K) (hl : K.length < L.length) : ∃ x ∈ L, ∃ y ∈ L, x ≠ y ∧ f x = f y := by
  apply Classical.byContradiction
  intro hn
  have := inj_len hd hm fun x hx y hy e => Classical.byContradiction fun h => hn ⟨x, hx, y, hy, h, e⟩
  omega
/-- sublists of a length -/
def sl {α : Type} : Nat → List α → List (List α)
  | 0, _ => [[]]
  | _ + 1, [] => []
  | k + 1, a :: L => (sl k L).map (a :: ·) ++ sl (k + 1) L
def ch : Nat → Nat → Nat
  | _, 0 => 1
  | 0, _ + 1 => 0
  | m + 1, k + 1 => ch m k + ch m (k + 1)
theorem sl_len {α : Type} : ∀ (k : Nat) (L : List α), (sl k L).length = ch L.length k
  | 0, [] => rfl
  | 0, a :: L => rfl
  | k + 1, [] => rfl
  | k + 1, a :: L => by
    show ((sl k L).map (a :: ·) ++ sl (k + 1) L).length = ch L.length k + ch L.length (k + 1)
    rw [List.length_append, List.length_map, sl_len k L, sl_len (k + 1) L]
theorem mem_sl {α : Type} : ∀ {L B : List α}, B.Sublist L → B ∈ sl B.length L
  | _, _, .slnil => by unfold sl; simp
  | a :: L, B, .cons _ h => by
    have := mem_sl h
    cases B with
    | nil => unfold sl; simp
    | cons b B => exact List.mem_append_right _ this
  | a :: L, _ :: B, .cons_cons _ h => by
    have := mem_sl h
    exact List.mem_append_left _ (List.mem_map.mpr ⟨B, this, rfl⟩)
/-! small whole solutions -/
def cube : Nat → Nat → List (List Nat)
  | 0, _ => [[]]
  | q + 1, H => (List.range (H + 1)).flatMap fun h => (cube q H).map (h :: ·)
theorem flat_len {α β : Type} {f : α → List β} {c : Nat} : ∀ {L : List α}, (∀ a ∈ L, (f a).length = c) → (L.flatMap f).length = L.length * c
  | [], _ => by simp
  | a :: L, h => by
    rw [List.flatMap_cons, List.length_append, h a List.mem_cons_self, flat_len fun b hb => h b (List.mem_cons_of_mem _ hb), List.length_cons, Nat.succ_mul, Nat.add_comm]
theorem cube_len : ∀ q H, (cube q H).length = (H + 1) ^ q
  | 0, _ => rfl
  | q + 1, H => by
    unfold cube
    rw [flat_len (c := (H + 1) ^ q) fun a _ => by rw [List.length_map, cube_len q H], List.length_range, Nat.pow_succ, Nat.mul_comm]
theorem cube_nd : ∀ q H, (cube q H).Nodup
  | 0, _ => by unfold cube; simp
  | q + 1, H => by
    unfold cube
    refine List.pairwise_flatMap.mpr ⟨fun a _ => List.pairwise_map.mpr ((cube_nd q H).imp fun h e => h (List.cons.inj e).2), ?_⟩
    refine (List.nodup_range (n := H + 1)).imp ?_
    intro a b hab x hx y hy e
    obtain ⟨x', _, rfl⟩ := List.mem_map.mp hx
    obtain ⟨y', _, rfl⟩ := List.mem_map.mp hy
    exact hab (List.cons.inj e).1
theorem mem_cube : ∀ {q H : Nat} {x : List Nat}, x ∈ cube q H ↔ x.length = q ∧ ∀ z ∈ x, z ≤ H
  | 0, H, x => by
    unfold cube
    constructor
    · intro h; rw [List.mem_singleton.mp h]; simp
    · rintro ⟨h, _⟩; rw [List.eq_nil_of_length_eq_zero h]; simp
  | q + 1, H, x => by
    unfold cube
    rw [List.mem_flatMap]
    constructor
    · rintro ⟨h, hh, hx⟩
      obtain ⟨y, hy, rfl⟩ := List.mem_map.mp hx
      have := mem_cube.mp hy
      refine ⟨by simp [this.1], fun z hz => ?_⟩
      rcases List.mem_cons.mp hz with rfl | hz
      · have := List.mem_range.mp hh; omega
      · exact this.2 z hz
    · rintro ⟨h1, h2⟩
      cases x with
      | nil => simp at h1
      | cons z x => exact ⟨z, List.mem_range.mpr (by have := h2 z List.mem_cons_self; omega), List.mem_map.mpr ⟨x, mem_cube.mpr ⟨by simpa using h1, fun y hy => h2 y (List.mem_cons_of_mem _ hy)⟩, rfl⟩⟩
end
end CM

/-! Small whole solutions (pigeonhole), and so small whole rays. -/
namespace CM
open Classical
section
variable {n : Nat}
def rz (z : Nat → Int) : V := fun i => (z i : Rat)
def cbz : List Nat → List Nat → Nat → Int
  | q :: Q, x :: X => fun i => (if i = q then (x : Int) else 0) + cbz Q X i
  | _, _ => fun _ => 0
def di (z : Nat → Int) : List Nat → List Nat → Int
  | q :: Q, x :: X => z q * x + di z Q X
  | _, _ => 0
theorem dt_cbz (z : Nat → Int) : ∀ (Q X : List Nat), (∀ q ∈ Q, q < n) → dt n (rz z) (rz (cbz Q X)) = (di z Q X : Int)
  | [], X, _ => by
    have : rz (cbz [] X) = 0 := by funext i; cases X <;> rfl
    rw [this, dt_zero]; cases X <;> rfl
  | q :: Q, [], _ => by
    have : rz (cbz (q :: Q) []) = 0 := by funext i; rfl
    rw [this, dt_zero]; rfl
  | q :: Q, x :: X, h => by
    have e : rz (cbz (q :: Q) (x :: X)) = sm (x : Int) (un q) + rz (cbz Q X) := by
      funext i
      show (((if i = q then (x : Int) else 0) + cbz Q X i : Int) : Rat) = ((x : Int) : Rat) * (if i = q then 1 else 0) + ((cbz Q X i : Int) : Rat)
      rw [Rat.intCast_add]
      by_cases e : i = q
      · rw [if_pos e, if_pos e]; grind
      · rw [if_neg e, if_neg e]; simp
    rw [e, dt_add, dt_sm, dt_cbz z Q X fun p hp => h p (List.mem_cons_of_mem _ hp), dt_comm, dt_un _ (h q List.mem_cons_self)]
    show ((x : Int) : Rat) * (z q : Rat) + _ = ((z q * (x : Int) + di z Q X : Int) : Rat)
    rw [Rat.intCast_add, Rat.intCast_mul]; grind
theorem cbz_off : ∀ {Q X : List Nat} {i : Nat}, i ∉ Q → cbz Q X i = 0
  | [], X, i, _ => by cases X <;> rfl
  | q :: Q, [], i, _ => rfl
  | q :: Q, x :: X, i, h => by
    have h1 : i ≠ q := fun e => h (e ▸ List.mem_cons_self)
    have h2 := cbz_off (X := X) fun hi => h (List.mem_cons_of_mem q hi)
    show (if i = q then (x : Int) else 0) + cbz Q X i = 0
    rw [if_neg h1, h2]; rfl
theorem cbz_inj : ∀ {Q X Y : List Nat}, Q.Nodup → X.length = Q.length → Y.length = Q.length → (∀ i, cbz Q X i = cbz Q Y i) → X = Y
  | [], X, Y, _, hx, hy, _ => by rw [List.eq_nil_of_length_eq_zero hx, List.eq_nil_of_length_eq_zero hy]
  | q :: Q, [], _, _, hx, _, _ => by simp at hx
  | q :: Q, _ :: _, [], _, _, hy, _ => by simp at hy
  | q :: Q, x :: X, y :: Y, hd, hx, hy, h => by
    obtain ⟨h1, h2⟩ := List.nodup_cons.mp hd
    have hq : (x : Int) = y := by
      have : (if q = q then (x : Int) else 0) + cbz Q X q = (if q = q then (y : Int) else 0) + cbz Q Y q := h q
      rw [if_pos rfl, if_pos rfl, cbz_off h1, cbz_off h1] at this; omega
    have := cbz_inj h2 (by simpa using hx) (by simpa using hy) fun i => by
      have : (if i = q then (x : Int) else 0) + cbz Q X i = (if i = q then (y : Int) else 0) + cbz Q Y i := h i
      by_cases e : i = q
      · subst e; rw [cbz_off h1, cbz_off h1]
      · rw [if_neg e, if_neg e] at this; omega
    rw [this]; congr 1; omega
theorem cbz_bd {H : Nat} : ∀ {Q X : List Nat}, Q.Nodup → (∀ x ∈ X, x ≤ H) → ∀ i, 0 ≤ cbz Q X i ∧ cbz Q X i ≤ H
  | [], X, _, _, i => by cases X <;> exact ⟨Int.le_refl _, by show (0 : Int) ≤ H; omega⟩
  | q :: Q, [], _, _, i => ⟨Int.le_refl _, by show (0 : Int) ≤ H; omega⟩
  | q :: Q, x :: X, hd, hx, i => by
    obtain ⟨h1, h2⟩ := List.nodup_cons.mp hd
    have ih := cbz_bd (X := X) h2 (fun y hy => hx y (List.mem_cons_of_mem _ hy)) i
    show 0 ≤ (if i = q then (x : Int) else 0) + cbz Q X i ∧ (if i = q then (x : Int) else 0) + cbz Q X i ≤ H
    by_cases e : i = q
    · subst e
      have := hx x List.mem_cons_self
      rw [if_pos rfl, cbz_off h1]; omega
    · rw [if_neg e]; omega
theorem di_bd {z : Nat → Int} {C H : Nat} (hz : ∀ i, (z i).natAbs ≤ C) : ∀ {Q X : List Nat}, (∀ x ∈ X, x ≤ H) → (di z Q X).natAbs ≤ Q.length * (C * H)
  | [], X, _ => by cases X <;> exact Nat.zero_le _
  | q :: Q, [], _ => Nat.zero_le _
  | q :: Q, x :: X, hx => by
    have ih := di_bd hz (Q := Q) (X := X) fun y hy => hx y (List.mem_cons_of_mem _ hy)
    show (z q * x + di z Q X).natAbs ≤ _
    have h1 : (z q * (x : Int)).natAbs ≤ C * H := by
      rw [Int.natAbs_mul]
      exact Nat.mul_le_mul (hz q) (by simpa using hx x List.mem_cons_self)
    rw [List.length_cons, Nat.succ_mul]
    omega
theorem siegel_num {K m : Nat} (hK : 1 ≤ K) : (K * K ^ m + 1) ^ m < (K ^ m + 1) ^ (m + 1) := by
  have h1 : K * K ^ m + 1 ≤ K * (K ^ m + 1) := by rw [Nat.mul_add]; omega
  calc (K * K ^ m + 1) ^ m ≤ (K * (K ^ m + 1)) ^ m := Nat.pow_le_pow_left h1 m
    _ = K ^ m * (K ^ m + 1) ^ m := Nat.mul_pow _ _ _
    _ < (K ^ m + 1) * (K ^ m + 1) ^ m := Nat.mul_lt_mul_of_pos_right (by omega) (Nat.pow_pos (by omega))
    _ = (K ^ m + 1) ^ (m + 1) := by rw [Nat.pow_succ, Nat.mul_comm]
theorem siegel {Z : List (Nat → Int)} {C : Nat} (hC : 1 ≤ C) (hz : ∀ z ∈ Z, ∀ i, (z i).natAbs ≤ C) {Q : List Nat} (hQ : Q.Nodup) (hlt : ∀ q ∈ Q, q < n) (hl : Z.length + 1 = Q.length) :
    ∃ y : Nat → Int, rz y ≠ 0 ∧ (∀ i, i ∉ Q → y i = 0) ∧ (∀ z ∈ Z, dt n (rz z) (rz y) = 0) ∧ ∀ i, (y i).natAbs ≤ (2 * Q.length * C) ^ Z.length := by
  obtain ⟨H, hH⟩ : ∃ H, (2 * Q.length * C) ^ Z.length = H := ⟨_, rfl⟩
  obtain ⟨N, hN⟩ : ∃ N, Q.length * (C * H) = N := ⟨_, rfl⟩
  obtain ⟨X, hX, Y, hY, hne, e⟩ := pigeon (f := fun X => Z.map fun z => (di z Q X + N).toNat) (L := cube Q.length H) (K := cube Z.length (2 * N)) (cube_nd _ _) (fun X hX => by
    refine mem_cube.mpr ⟨by simp, fun w hw => ?_⟩
    obtain ⟨z, hz', rfl⟩ := List.mem_map.mp hw
    have := di_bd (hz z hz') (Q := Q) (mem_cube.mp hX).2
    omega) (by
    rw [cube_len, cube_len, ← hl]
    have h1 : 2 * N = (2 * Q.length * C) * H := by rw [← hN, Nat.mul_assoc, Nat.mul_assoc]
    rw [h1, ← hH]
    exact siegel_num (by
      have : 1 ≤ 2 * Q.length := by omega
      exact Nat.mul_pos this hC))
  obtain ⟨x1, x2⟩ := mem_cube.mp hX
  obtain ⟨y1, y2⟩ := mem_cube.mp hY
  refine ⟨fun i => cbz Q X i - cbz Q Y i, fun h0 => hne (cbz_inj hQ x1 y1 fun i => ?_), fun i hi => ?_, fun z hz' => ?_, fun i => ?_⟩
  · have : ((cbz Q X i - cbz Q Y i : Int) : Rat) = 0 := congrFun h0 i
    have := Rat.intCast_inj.mp (this.trans (Rat.intCast_zero).symm)
    omega
  · show cbz Q X i - cbz Q Y i = 0
    rw [cbz_off hi, cbz_off hi]; rfl
  · have e1 : rz (fun i => cbz Q X i - cbz Q Y i) = rz (cbz Q X) - rz (cbz Q Y) := by
      funext i
      show ((cbz Q X i - cbz Q Y i : Int) : Rat) = (cbz Q X i : Rat) - (cbz Q Y i : Rat)
      rw [Rat.intCast_sub]
    rw [e1, dt_sub, dt_cbz z Q X hlt, dt_cbz z Q Y hlt]
    have e2 := List.map_inj_left.mp e z hz'
    have b1 := di_bd (hz z hz') (Q := Q) x2
    have b2 := di_bd (hz z hz') (Q := Q) y2
    have : di z Q X = di z Q Y := by omega
    rw [this]; grind
  · have b1 := cbz_bd hQ x2 i
    have b2 := cbz_bd hQ y2 i
    rw [hH]
    show (cbz Q X i - cbz Q Y i).natAbs ≤ H
    omega
end
end CM

/-! Whole vectors as lists; the program's cone, in plain Lean. -/
namespace CM
open CH (gcdI gcdL lowL bl gcdL_dvd lowL_mul lowL_len getD_bl gcdI_nn gcdL_nn)
abbrev Vec := List Int
theorem gD_lt {α : Type} {v : List α} {i : Nat} (d : α) (h : i < v.length) : v.getD i d = v[i] := by
  rw [List.getD_eq_getElem?_getD, List.getElem?_eq_getElem h]; rfl
theorem gD_ge {α : Type} {v : List α} {i : Nat} (d : α) (h : v.length ≤ i) : v.getD i d = d := by
  rw [List.getD_eq_getElem?_getD, List.getElem?_eq_none h]; rfl
def dI (a b : Vec) : Int := ((a.zip b).map fun p => p.1 * p.2).sum
def vz (v : Vec) : V := fun i => ((v.getD i 0 : Int) : Rat)
theorem vz_nil : vz [] = 0 := by funext i; simp [vz]
theorem vz_cons (x : Int) (v : Vec) : (fun i => vz (x :: v) (i + 1)) = vz v := by funext i; simp [vz]
theorem dt_vz : ∀ {n : Nat} {a b : Vec}, a.length = n → b.length = n → dt n (vz a) (vz b) = (dI a b : Int)
  | 0, [], [], _, _ => by simp [dt, dI]
  | n + 1, x :: a, y :: b, ha, hb => by
    rw [dt_front, vz_cons, vz_cons, dt_vz (by simpa using ha) (by simpa using hb)]
    simp only [dI, vz, List.zip_cons_cons, List.map_cons, List.sum_cons, List.getD_cons_zero]
    rw [Rat.intCast_add, Rat.intCast_mul]
theorem su_vz {n : Nat} {v : Vec} (h : v.length = n) : Su n (vz v) := fun i hi => by
  unfold vz; rw [gD_ge _ (by omega)]; rfl
theorem vz_inj {u v : Vec} (hl : u.length = v.length) (h : vz u = vz v) : u = v := by
  apply List.ext_getElem hl
  intro i h1 h2
  have := congrFun h i
  unfold vz at this
  rw [gD_lt _ h1, gD_lt _ h2] at this
  exact Rat.intCast_inj.mp this
theorem vz_bl {a b : Vec} {m k : Int} (h : a.length = b.length) : vz (bl a m b k) = sm m (vz a) + sm k (vz b) := by
  funext i
  show ((bl a m b k).getD i 0 : Rat) = (m : Rat) * (a.getD i 0 : Int) + (k : Rat) * (b.getD i 0 : Int)
  rw [getD_bl h, Rat.intCast_add, Rat.intCast_mul, Rat.intCast_mul]
theorem vz_low (v : Vec) : ∃ g : Rat, 0 < g ∧ vz (lowL v) = sm g (vz v) := by
  obtain ⟨g, g0, e⟩ := lowL_mul v
  have hg : (0 : Rat) < (g : Rat) := Rat.intCast_pos.mpr g0
  refine ⟨(g : Rat)⁻¹, Rat.inv_pos.mpr hg, ?_⟩
  have h1 : vz v = sm g (vz (lowL v)) := by
    funext i
    show ((v.getD i 0 : Int) : Rat) = (g : Rat) * ((lowL v).getD i 0 : Int)
    rw [← Rat.intCast_mul, ← CH.getD_map_mul g (lowL v) i, ← e]
  rw [h1, sm_sm, Rat.inv_mul_cancel _ (by grind), one_sm]
def opp (v : Vec) : Vec := v.map fun x => 0 - x
theorem opp_len (v : Vec) : (opp v).length = v.length := by simp [opp]
theorem vz_opp (v : Vec) : vz (opp v) = -vz v := by
  funext i
  show ((opp v).getD i 0 : Rat) = -((v.getD i 0 : Int) : Rat)
  have : (opp v).getD i 0 = -v.getD i 0 := by
    unfold opp
    by_cases h : i < v.length
    · rw [gD_lt _ (by simpa using h), gD_lt _ h]; simp
    · rw [gD_ge _ (by simpa using Nat.le_of_not_lt h), gD_ge _ (Nat.le_of_not_lt h)]; rfl
  rw [this, Rat.intCast_neg]
theorem opp_opp (v : Vec) : opp (opp v) = v := by
  unfold opp
  rw [List.map_map]
  conv => rhs; rw [← List.map_id v]
  apply List.map_congr_left
  intro x _
  show 0 - (0 - x) = x
  omega
theorem dI_opp {n : Nat} {a v : Vec} (ha : a.length = n) (hv : v.length = n) : dI a (opp v) = -dI a v := by
  have h1 := dt_vz ha (b := opp v) (by rw [opp_len]; exact hv)
  rw [vz_opp, dt_neg, dt_vz ha hv] at h1
  rw [← Rat.intCast_neg] at h1
  exact (Rat.intCast_inj.mp h1).symm
/-! lowest terms -/
def Prim (v : Vec) : Prop := gcdL v = 1
theorem dvd_gcdI {d a b : Int} (ha : d ∣ a) (hb : d ∣ b) : d ∣ gcdI a b := by
  unfold gcdI
  exact Int.dvd_coe_gcd ha hb
theorem dvd_gcdL {d : Int} {l : Vec} (h : ∀ z ∈ l, d ∣ z) : d ∣ gcdL l := by
  unfold gcdL
  have : ∀ (l : Vec) (a : Int), d ∣ a → (∀ z ∈ l, d ∣ z) → d ∣ l.foldl gcdI a := by
    intro l
    induction l with
    | nil => intro a ha _; exact ha
    | cons x l ih => intro a ha h; exact ih _ (dvd_gcdI ha (h x List.mem_cons_self)) fun z hz => h z (List.mem_cons_of_mem _ hz)
  exact this l 0 (Int.dvd_zero d) h
theorem gcdL_zero {l : Vec} (h : gcdL l = 0) : ∀ z ∈ l, z = 0 := fun z hz => by
  have := gcdL_dvd hz
  rw [h] at this
  exact Int.zero_dvd.mp this
theorem prim_low {l : Vec} (h : ∃ z ∈ l, z ≠ 0) : Prim (lowL l) := by
  unfold Prim
  have hne : gcdL l ≠ 0 := fun e => by obtain ⟨z, hz, hn⟩ := h; exact hn (gcdL_zero e z hz)
  have hnn := gcdL_nn l
  by_cases h2 : gcdL l < 2
  · unfold lowL; rw [if_pos h2]; omega
  · obtain ⟨k, hk⟩ : ∃ k, gcdL (lowL l) = k := ⟨_, rfl⟩
    have hk0 : 0 ≤ k := hk ▸ gcdL_nn _
    have e : l = (lowL l).map fun x => gcdL l * x := by
      unfold lowL; rw [if_neg h2, List.map_map]
      conv => lhs; rw [← List.map_id l]
      apply List.map_congr_left
      intro x hx
      show x = gcdL l * x.fdiv (gcdL l)
      rw [Int.mul_fdiv_cancel' (gcdL_dvd hx)]
    have h3 : gcdL l * k ∣ gcdL l := dvd_gcdL fun z hz => by
      rw [e] at hz
      obtain ⟨x, hx, rfl⟩ := List.mem_map.mp hz
      have := gcdL_dvd hx
      rw [hk] at this
      exact Int.mul_dvd_mul_left _ this
    obtain ⟨c, hc⟩ := h3
    rw [Int.mul_assoc] at hc
    have h4 : k * c = 1 := by
      have h5 : gcdL l * 1 = gcdL l * (k * c) := by rw [← hc]; omega
      exact (Int.eq_of_mul_eq_mul_left hne h5).symm
    rw [hk]
    exact Int.eq_one_of_mul_eq_one_right hk0 h4
theorem prim_opp {v : Vec} (h : Prim v) : Prim (opp v) := by
  unfold Prim at *
  have key : ∀ u : Vec, gcdL u ∣ gcdL (opp u) := fun u => dvd_gcdL fun z hz => by
    obtain ⟨x, hx, rfl⟩ := List.mem_map.mp hz
    exact Int.dvd_sub (Int.dvd_zero _) (gcdL_dvd hx)
  have h1 := key (opp v)
  rw [opp_opp, h] at h1
  exact Int.eq_one_of_dvd_one (gcdL_nn _) h1
theorem vz_ne {v : Vec} (h : vz v ≠ 0) : ∃ z ∈ v, z ≠ 0 := by
  apply Classical.byContradiction
  intro hn
  refine h ?_
  funext i
  show ((v.getD i 0 : Int) : Rat) = 0
  by_cases hi : i < v.length
  · rw [gD_lt _ hi]
    have : v[i] = 0 := Classical.byContradiction fun h2 => hn ⟨_, List.getElem_mem hi, h2⟩
    rw [this]; rfl
  · rw [gD_ge _ (Nat.le_of_not_lt hi)]; rfl
theorem prim_ne {v : Vec} (h : Prim v) : vz v ≠ 0 := fun e => by
  unfold Prim at h
  have hz : ∀ z ∈ v, z = 0 := fun z hz => by
    obtain ⟨i, hi, rfl⟩ := List.mem_iff_getElem.mp hz
    have := congrFun e i
    unfold vz at this
    rw [gD_lt _ hi] at this
    exact Rat.intCast_inj.mp this
  have : (0 : Int) ∣ gcdL v := dvd_gcdL fun z hz' => by rw [hz z hz']; exact Int.dvd_refl 0
  rw [h] at this
  have := Int.zero_dvd.mp this
  omega
/-! the program's steps -/
def unitL (n k : Nat) : Vec := (List.range n).map fun i => if i = k then 1 else 0
def crossing (row : Vec) (L : List Vec) : List Vec := L.filter fun l => !decide (dI row l = 0)
def turnF (row f0 : Vec) : Vec := if dI row f0 < 0 then opp f0 else f0
def led (row f : Vec) (r : Vec) : Vec := lowL (bl r (dI row f) f (0 - dI row r))
def turnL (L R : List Vec) (row f0 : Vec) : List Vec × List Vec :=
  ((L.filter fun l => !decide (l = turnF row f0) && !decide (l = opp (turnF row f0))).map (led row (turnF row f0)), R.map (led row (turnF row f0)) ++ [turnF row f0])
def tightL (rows : List Vec) (ray : Vec) : List Nat := (List.range rows.length).filter fun k => decide (dI (rows.getD k []) ray = 0)
def bothL (T : List (List Nat)) (i j : Nat) : List Nat := (T.getD i []).filter fun k => decide (k ∈ T.getD j [])
def sideL (T : List (List Nat)) (i j : Nat) (least : Int) : Bool :=
  !decide (((bothL T i j).length : Int) < least) && (List.range T.length).all fun t => !(!decide (t = i) && !decide (t = j) && (bothL T i j).all fun k => decide (k ∈ T.getD t []))
def mate (row p q : Vec) : Vec := lowL (bl p (0 - dI row q) q (dI row p))
def cutL (R : List Vec) (row : Vec) (T : List (List Nat)) (least : Int) : List Vec :=
  (R.filter fun r => decide (0 ≤ dI row r)) ++ (List.range R.length).flatMap fun i => ((List.range R.length).filter fun j =>
    decide (0 < dI row (R.getD i [])) && decide (dI row (R.getD j []) < 0) && sideL T i j least).map fun j => mate row (R.getD i []) (R.getD j [])
def coneStep (rows : List Vec) (n k : Nat) (s : List Vec × List Vec) : List Vec × List Vec :=
  match crossing (rows.getD k []) s.1 with
  | f :: _ => turnL s.1 s.2 (rows.getD k []) f
  | [] => (s.1, cutL s.2 (rows.getD k []) (s.2.map (tightL (rows.take k))) ((n : Int) - (s.1.length : Int) - 2))
def coneK (rows : List Vec) (n : Nat) : Nat → List Vec × List Vec
  | 0 => ((List.range n).map (unitL n), [])
  | k + 1 => coneStep rows n k (coneK rows n k)
def coneL (rows : List Vec) (n : Nat) : List Vec × List Vec := coneK rows n rows.length
end CM

/-! The program's cone keeps the invariant. -/
namespace CM
open CH (gcdI gcdL lowL bl gcdL_dvd lowL_mul lowL_len getD_bl gcdI_nn gcdL_nn)
open Classical
structure CI (n : Nat) (A : List Vec) (M : List (Vec × Nat)) (R : List Vec) : Prop where
  wA : ∀ a ∈ A, a.length = n
  wM : ∀ x ∈ M, x.1.length = n
  wR : ∀ r ∈ R, r.length = n
  pM : ∀ x ∈ M, Prim x.1
  pR : ∀ r ∈ R, Prim r
  nR : R.Nodup
  ln : Ln n (A.map vz) (M.map fun x => (vz x.1, x.2))
  dd : DD n (A.map vz) (Off n (M.map (·.2))) (fun x => ∃ r ∈ R, x = vz r)
theorem piv_len {f1 : Vec} {pf : Nat} : ∀ {M : List (Vec × Nat)}, (M.map (·.2)).Nodup → (f1, pf) ∈ M → (M.filter fun x => !decide (x.2 = pf)).length + 1 = M.length
  | [], _, hm => nomatch hm
  | y :: M, hnd, hm => by
    have hnd : y.2 ∉ M.map (·.2) ∧ (M.map (·.2)).Nodup := List.nodup_cons.mp hnd
    by_cases e : y.2 = pf
    · rw [List.filter_cons_of_neg (by simp [e]), List.filter_eq_self.mpr fun x hx => ?_]
      · rfl
      · have : x.2 ≠ pf := fun q => hnd.1 (by rw [e, ← q]; exact List.mem_map.mpr ⟨x, hx, rfl⟩)
        simp [this]
    · rw [List.filter_cons_of_pos (by simp [e])]
      rcases List.mem_cons.mp hm with h | h
      · rw [← h] at e; exact absurd rfl e
      · have := piv_len hnd.2 h
        simp; omega
section
variable {n : Nat} {A : List Vec} {M : List (Vec × Nat)} {R : List Vec}
/-- a function of lists, as one of vectors -/
noncomputable def lift1 (R : List Vec) (g : Vec → Vec) (x : V) : V := if h : ∃ r ∈ R, x = vz r then vz (g h.choose) else 0
theorem lift1_eq (hw : ∀ r ∈ R, r.length = n) (g : Vec → Vec) {r : Vec} (hr : r ∈ R) : lift1 R g (vz r) = vz (g r) := by
  have h : ∃ q ∈ R, vz r = vz q := ⟨r, hr, rfl⟩
  unfold lift1
  rw [dif_pos h]
  have h2 := h.choose_spec
  exact congrArg (fun q => vz (g q)) (vz_inj (by rw [hw r hr, hw _ h2.1]) h2.2).symm
noncomputable def lift2 (R : List Vec) (g : Vec → Vec → Vec) (x y : V) : V := if h : (∃ r ∈ R, x = vz r) ∧ (∃ r ∈ R, y = vz r) then vz (g h.1.choose h.2.choose) else 0
theorem lift2_eq (hw : ∀ r ∈ R, r.length = n) (g : Vec → Vec → Vec) {r s : Vec} (hr : r ∈ R) (hs : s ∈ R) : lift2 R g (vz r) (vz s) = vz (g r s) := by
  have h : (∃ q ∈ R, vz r = vz q) ∧ (∃ q ∈ R, vz s = vz q) := ⟨⟨r, hr, rfl⟩, ⟨s, hs, rfl⟩⟩
  unfold lift2
  rw [dif_pos h]
  have h1 := h.1.choose_spec
  have h2 := h.2.choose_spec
  exact congrArg vz (congr (congrArg g (vz_inj (by rw [hw r hr, hw _ h1.1]) h1.2).symm) (vz_inj (by rw [hw s hs, hw _ h2.1]) h2.2).symm)
theorem CI.fst2 : (M.map fun x => (vz x.1, x.2)).map (·.2) = M.map (·.2) := by rw [List.map_map]; rfl
theorem CI.dt_row (C : CI n A M R) {row l : Vec} (hr : row.length = n) (hl : l.length = n) : dt n (vz row) (vz l) = (dI row l : Int) := dt_vz hr hl
theorem led_len {row f r : Vec} (h : r.length = f.length) : (led row f r).length = f.length := by
  unfold led; rw [lowL_len, CH.bl_len]; omega
theorem vz_led {row f r : Vec} (h : r.length = f.length) : ∃ g : Rat, 0 < g ∧ vz (led row f r) = sm g (sm (dI row f : Int) (vz r) - sm (dI row r : Int) (vz f)) := by
  obtain ⟨g, g0, e⟩ := vz_low (bl r (dI row f) f (0 - dI row r))
  refine ⟨g, g0, ?_⟩
  unfold led
  rw [e, vz_bl h]
  congr 1
  funext i
  simp only [add_at, sub_at, sm_at]
  rw [show ((0 - dI row r : Int) : Rat) = -((dI row r : Int) : Rat) by rw [← Rat.intCast_neg]; congr 1; omega]
  grind
theorem prim_led {row f r : Vec} (h : r.length = f.length) (hn : vz (led row f r) ≠ 0) : Prim (led row f r) := by
  unfold led at *
  refine prim_low (vz_ne fun e => hn ?_)
  obtain ⟨g, _, e2⟩ := vz_low (bl r (dI row f) f (0 - dI row r))
  rw [e2, e, sm_zero]
theorem CI.turn (C : CI n A M R) {row f0 : Vec} (hrow : row.length = n) (hf0 : f0 ∈ M.map (·.1)) (h0 : dI row f0 ≠ 0) :
    ∃ M', (turnL (M.map (·.1)) R row f0).1 = M'.map (·.1) ∧ CI n (A ++ [row]) M' (turnL (M.map (·.1)) R row f0).2 ∧ M'.length + 1 = M.length := by
  obtain ⟨⟨f1, pf⟩, hm, e⟩ := List.mem_map.mp hf0
  have e : f1 = f0 := e
  subst e
  have hfl : f1.length = n := C.wM _ hm
  obtain ⟨f, hf⟩ : ∃ f, turnF row f1 = f := ⟨_, rfl⟩
  have hcase : f = f1 ∨ f = opp f1 := by rw [← hf]; unfold turnF; split; exact .inr rfl; exact .inl rfl
  have hflen : f.length = n := by rcases hcase with e | e <;> rw [e] <;> simp [opp_len, hfl]
  have hpos : 0 < dI row f := by
    rw [← hf]; unfold turnF
    split
    · rw [dI_opp hrow hfl]; omega
    · omega
  have pf_ : Prim f := by
    rcases hcase with e | e <;> rw [e]
    · exact C.pM _ hm
    · exact prim_opp (C.pM _ hm)
  have hmm : ∀ {x : Vec × Nat}, x ∈ M → (vz x.1, x.2) ∈ M.map fun x => (vz x.1, x.2) := fun hx => List.mem_map.mpr ⟨_, hx, rfl⟩
  -- f away from its own place
  have foff : ∀ x ∈ M, x.2 ≠ pf → vz f x.2 = 0 := fun x hx hne => by
    have h1 : vz f1 x.2 = 0 := C.ln.off _ (hmm hm) _ (hmm hx) (fun q => hne q.symm)
    rcases hcase with e | e <;> rw [e]
    · exact h1
    · rw [vz_opp, neg_at, h1]; rfl
  have fat : vz f pf ≠ 0 := by
    have h1 : vz f1 pf ≠ 0 := C.ln.ne _ (hmm hm)
    rcases hcase with e | e <;> rw [e]
    · exact h1
    · rw [vz_opp, neg_at]; grind
  have fvan : ∀ a ∈ A, dt n (vz a) (vz f) = 0 := fun a ha => by
    have h1 : dt n (vz a) (vz f1) = 0 := C.ln.van _ (hmm hm) _ (List.mem_map.mpr ⟨a, ha, rfl⟩)
    rcases hcase with e | e <;> rw [e]
    · exact h1
    · rw [vz_opp, dt_neg, h1]; rfl
  have same : ∀ x ∈ M, x.2 = pf → x = (f1, pf) := fun x hx hp => by
    have hnd : (M.map (·.2)).Nodup := by have := C.ln.nod; rwa [CI.fst2] at this
    obtain ⟨i, hi, rfl⟩ := List.mem_iff_getElem.mp hx
    obtain ⟨j, hj, e⟩ := List.mem_iff_getElem.mp hm
    have h1 : (M.map (·.2))[i]'(by simpa using hi) = (M.map (·.2))[j]'(by simpa using hj) := by
      rw [List.getElem_map, List.getElem_map, e, hp]
    have := (List.getElem_inj hnd).mp h1
    subst this
    exact e
  obtain ⟨M', hM'⟩ : ∃ M', (M.filter fun x => !decide (x.2 = pf)).map (fun x => (led row f x.1, x.2)) = M' := ⟨_, rfl⟩
  have memM' : ∀ y, y ∈ M' ↔ ∃ x ∈ M, x.2 ≠ pf ∧ y = (led row f x.1, x.2) := fun y => by
    rw [← hM', List.mem_map]
    constructor
    · rintro ⟨x, hx, rfl⟩
      obtain ⟨h1, h2⟩ := List.mem_filter.mp hx
      exact ⟨x, h1, by simpa using h2, rfl⟩
    · rintro ⟨x, hx, h2, rfl⟩
      exact ⟨x, List.mem_filter.mpr ⟨hx, by simpa using h2⟩, rfl⟩
  have e1 : (turnL (M.map (·.1)) R row f1).1 = M'.map (·.1) := by
    unfold turnL
    dsimp only
    rw [hf, List.filter_map, ← hM', List.map_map, List.map_map]
    rw [List.filter_congr (q := fun x => !decide (x.2 = pf)) fun x hx => ?_]
    · rfl
    · show (!decide (x.1 = f) && !decide (x.1 = opp f)) = !decide (x.2 = pf)
      by_cases hp : x.2 = pf
      · have := same x hx hp
        rw [this]
        show (!decide (f1 = f) && !decide (f1 = opp f)) = _
        rcases hcase with e | e
        · rw [e]; simp
        · rw [e, opp_opp]; simp
      · have hne : vz x.1 x.2 ≠ 0 := C.ln.ne _ (hmm hx)
        have h1 : x.1 ≠ f := fun e => hne (by rw [e]; exact foff x hx hp)
        have h2 : x.1 ≠ opp f := fun e => hne (by rw [e, vz_opp, neg_at, foff x hx hp]; rfl)
        simp [h1, h2, hp]
  have e2 : (turnL (M.map (·.1)) R row f1).2 = R.map (led row f) ++ [f] := by unfold turnL; rw [hf]
  have lenM : M'.length + 1 = M.length := by
    rw [← hM', List.length_map]
    have hnd : (M.map (·.2)).Nodup := by have := C.ln.nod; rwa [CI.fst2] at this
    exact piv_len hnd hm
  refine ⟨M', e1, ?_, lenM⟩
  rw [e2]
  -- the abstract step
  have hledx : ∀ x ∈ M, ∃ g : Rat, 0 < g ∧ vz (led row f x.1) = sm g (sm (dI row f : Int) (vz x.1) - sm (dI row x.1 : Int) (vz f)) := fun x hx => vz_led (by rw [C.wM x hx, hflen])
  have hledr : ∀ r ∈ R, ∃ g : Rat, 0 < g ∧ vz (led row f r) = sm g (sm (dI row f : Int) (vz r) - sm (dI row r : Int) (vz f)) := fun r hr => vz_led (by rw [C.wR r hr, hflen])
  have hbf : 0 < dt n (vz row) (vz f) := by rw [dt_vz hrow hflen]; exact Rat.intCast_pos.mpr hpos
  have hW : ∀ x, Off n (M'.map (·.2)) x ↔ ∃ w s, Off n (M.map (·.2)) w ∧ x = w + sm s (vz f) := by
    intro x
    constructor
    · rintro ⟨h1, h2⟩
      refine ⟨x - sm (x pf / vz f pf) (vz f), x pf / vz f pf, ⟨h1.sub ((su_vz hflen).sm _), fun p hp => ?_⟩, by funext i; simp; grind⟩
      obtain ⟨y, hy, rfl⟩ := List.mem_map.mp hp
      by_cases e : y.2 = pf
      · rw [e, sub_at, sm_at, Rat.div_mul_cancel fat]; grind
      · rw [sub_at, sm_at, foff y hy e, h2 y.2 (List.mem_map.mpr ⟨_, (memM' _).mpr ⟨y, hy, e, rfl⟩, rfl⟩)]; grind
    · rintro ⟨w, s, ⟨h1, h2⟩, rfl⟩
      refine ⟨h1.add ((su_vz hflen).sm _), fun p hp => ?_⟩
      obtain ⟨y, hy, rfl⟩ := List.mem_map.mp hp
      obtain ⟨x, hx, hne, rfl⟩ := (memM' y).mp hy
      show (w + sm s (vz f)) x.2 = 0
      rw [add_at, sm_at, foff x hx hne, h2 x.2 (List.mem_map.mpr ⟨x, hx, rfl⟩)]; grind
  have D := C.dd.turn (b := vz row) (led := lift1 R (led row f)) (su_vz hflen) (fun a ha => by
    obtain ⟨a', ha', rfl⟩ := List.mem_map.mp ha; exact fvan a' ha') hbf hW (by
    rintro r ⟨r, hr, rfl⟩
    obtain ⟨g, g0, e⟩ := hledr r hr
    exact ⟨g, g0, by rw [lift1_eq C.wR _ hr, e, dt_vz hrow hflen, dt_vz hrow (C.wR r hr)]⟩)
  have eR : Turn (fun x => ∃ r ∈ R, x = vz r) (vz f) (lift1 R (led row f)) = fun x => ∃ r ∈ R.map (led row f) ++ [f], x = vz r := by
    funext x
    apply propext
    constructor
    · rintro (rfl | ⟨q, ⟨r, hr, rfl⟩, rfl⟩)
      · exact ⟨f, by simp, rfl⟩
      · exact ⟨led row f r, List.mem_append_left _ (List.mem_map.mpr ⟨r, hr, rfl⟩), lift1_eq C.wR _ hr⟩
    · rintro ⟨r, hr, rfl⟩
      rcases List.mem_append.mp hr with hr | hr
      · obtain ⟨q, hq, rfl⟩ := List.mem_map.mp hr
        exact .inr ⟨vz q, ⟨q, hq, rfl⟩, (lift1_eq C.wR _ hq).symm⟩
      · rw [List.mem_singleton.mp hr]; exact .inl rfl
  rw [eR, show A.map vz ++ [vz row] = (A ++ [row]).map vz by simp] at D
  have lne : ∀ x ∈ M, x.2 ≠ pf → vz (led row f x.1) x.2 ≠ 0 := fun x hx hp => by
    obtain ⟨g, g0, e⟩ := hledx x hx
    rw [e, sm_at, sub_at, sm_at, sm_at, foff x hx hp]
    have h1 : vz x.1 x.2 ≠ 0 := C.ln.ne _ (hmm hx)
    have h2 : (0 : Rat) < (dI row f : Int) := Rat.intCast_pos.mpr hpos
    intro h3
    rcases Rat.mul_eq_zero.mp h3 with h3 | h3
    · grind
    · have : ((dI row f : Int) : Rat) * vz x.1 x.2 = 0 := by grind
      rcases Rat.mul_eq_zero.mp this with h | h
      · grind
      · exact h1 h
  refine ⟨?_, ?_, ?_, ?_, ?_, ?_, ?_, D⟩
  · intro a ha
    rcases List.mem_append.mp ha with ha | ha
    · exact C.wA a ha
    · rw [List.mem_singleton.mp ha]; exact hrow
  · intro y hy
    obtain ⟨x, hx, _, rfl⟩ := (memM' y).mp hy
    show (led row f x.1).length = n
    rw [led_len (by rw [C.wM x hx, hflen]), hflen]
  · intro r hr
    rcases List.mem_append.mp hr with hr | hr
    · obtain ⟨q, hq, rfl⟩ := List.mem_map.mp hr
      rw [led_len (by rw [C.wR q hq, hflen]), hflen]
    · rw [List.mem_singleton.mp hr]; exact hflen
  · intro y hy
    obtain ⟨x, hx, hp, rfl⟩ := (memM' y).mp hy
    exact prim_led (by rw [C.wM x hx, hflen]) fun e => lne x hx hp (by rw [e]; rfl)
  · intro r hr
    have hne := D.ne (vz r) ⟨r, hr, rfl⟩
    rcases List.mem_append.mp hr with hr | hr
    · obtain ⟨q, hq, rfl⟩ := List.mem_map.mp hr
      exact prim_led (by rw [C.wR q hq, hflen]) hne
    · rw [List.mem_singleton.mp hr]; exact pf_
  · have tl : ∀ r ∈ R, ∀ a ∈ A, dt n (vz a) (vz (led row f r)) = 0 ↔ dt n (vz a) (vz r) = 0 := fun r hr a ha => by
      obtain ⟨g, g0, e⟩ := hledr r hr
      have h2 : (0 : Rat) < (dI row f : Int) := Rat.intCast_pos.mpr hpos
      rw [e, dt_sm, dt_sub, dt_sm, dt_sm, fvan a ha]
      constructor
      · intro h
        rcases Rat.mul_eq_zero.mp h with h | h
        · grind
        · have : ((dI row f : Int) : Rat) * dt n (vz a) (vz r) = 0 := by grind
          rcases Rat.mul_eq_zero.mp this with h | h
          · grind
          · exact h
      · intro h; rw [h]; grind
    have nd : (R.map (led row f)).Nodup := by
      refine List.pairwise_map.mpr (C.nR.imp_of_mem ?_)
      intro r q hr hq hne e
      refine hne ?_
      have := C.dd.min (vz r) (vz q) ⟨r, hr, rfl⟩ ⟨q, hq, rfl⟩ fun a ha h => by
        obtain ⟨a', ha', rfl⟩ := List.mem_map.mp ha
        exact (tl q hq a' ha').mp (e ▸ (tl r hr a' ha').mpr h)
      exact vz_inj (by rw [C.wR r hr, C.wR q hq]) this
    refine List.nodup_append.mpr ⟨nd, by simp, fun x hx y hy e => ?_⟩
    · obtain ⟨r, hr, rfl⟩ := List.mem_map.mp hx
      rw [List.mem_singleton.mp hy] at e
      obtain ⟨g, g0, e3⟩ := hledr r hr
      have : dt n (vz row) (vz f) = 0 := by
        rw [← e, e3, dt_sm, dt_sub, dt_sm, dt_sm, dt_vz hrow hflen, dt_vz hrow (C.wR r hr)]; grind
      rw [this] at hbf; exact Rat.lt_irrefl hbf
  · refine ⟨?_, ?_, ?_, ?_, ?_, ?_⟩
    · rw [CI.fst2, ← hM', List.map_map]
      have hnd : (M.map (·.2)).Nodup := by have := C.ln.nod; rwa [CI.fst2] at this
      exact hnd.sublist (List.filter_sublist.map _)
    · intro y hy
      obtain ⟨z, hz, rfl⟩ := List.mem_map.mp hy
      obtain ⟨w, hw, _, rfl⟩ := (memM' z).mp hz
      exact C.ln.lt (vz w.1, w.2) (hmm hw)
    · intro y hy
      obtain ⟨z, hz, rfl⟩ := List.mem_map.mp hy
      obtain ⟨x, hx, _, rfl⟩ := (memM' z).mp hz
      exact su_vz (by rw [led_len (by rw [C.wM x hx, hflen]), hflen])
    · intro y hy
      obtain ⟨z, hz, rfl⟩ := List.mem_map.mp hy
      obtain ⟨x, hx, hp, rfl⟩ := (memM' z).mp hz
      exact lne x hx hp
    · intro y hy y' hy' hne
      obtain ⟨z, hz, rfl⟩ := List.mem_map.mp hy
      obtain ⟨x, hx, hp, rfl⟩ := (memM' z).mp hz
      obtain ⟨z', hz', rfl⟩ := List.mem_map.mp hy'
      obtain ⟨x', hx', hp', rfl⟩ := (memM' z').mp hz'
      obtain ⟨g, g0, e⟩ := hledx x hx
      show vz (led row f x.1) x'.2 = 0
      have h1 : vz x.1 x'.2 = 0 := C.ln.off _ (hmm hx) _ (hmm hx') hne
      rw [e, sm_at, sub_at, sm_at, sm_at, h1, foff x' hx' hp']; grind
    · intro y hy a ha
      obtain ⟨z, hz, rfl⟩ := List.mem_map.mp hy
      obtain ⟨x, hx, hp, rfl⟩ := (memM' z).mp hz
      obtain ⟨g, g0, e⟩ := hledx x hx
      obtain ⟨a', ha', rfl⟩ := List.mem_map.mp ha
      show dt n (vz a') (vz (led row f x.1)) = 0
      rw [e, dt_sm, dt_sub, dt_sm, dt_sm]
      rcases List.mem_append.mp ha' with ha' | ha'
      · have h1 : dt n (vz a') (vz x.1) = 0 := C.ln.van _ (hmm hx) _ (List.mem_map.mpr ⟨a', ha', rfl⟩)
        rw [h1, fvan a' ha']; grind
      · rw [List.mem_singleton.mp ha', dt_vz hrow hflen, dt_vz hrow (C.wM x hx)]; grind
end
end CM

/-! The program's cut of rays keeps the invariant; the whole cone. -/
namespace CM
open CH (gcdI gcdL lowL bl gcdL_dvd lowL_mul lowL_len getD_bl gcdI_nn gcdL_nn)
open Classical
theorem range_getD {α : Type} (d : α) (L : List α) : (List.range L.length).map (fun k => L.getD k d) = L := by
  apply List.ext_getElem (by simp)
  intro i h1 h2
  rw [List.getElem_map, List.getElem_range, gD_lt _ h2]
theorem range_filter_len {α : Type} (d : α) (L : List α) (p : α → Bool) : ((List.range L.length).filter fun k => p (L.getD k d)).length = (L.filter p).length := by
  conv => rhs; rw [← range_getD d L, List.filter_map, List.length_map]
  rfl
section
variable {n : Nat} {A : List Vec} {M : List (Vec × Nat)} {R : List Vec}
theorem mem_tightL {A : List Vec} {r : Vec} {k : Nat} : k ∈ tightL A r ↔ k < A.length ∧ dI (A.getD k []) r = 0 := by
  unfold tightL; rw [List.mem_filter, List.mem_range, decide_eq_true_eq]
theorem tight_at {A R : List Vec} {i : Nat} (hi : i < R.length) : (R.map (tightL A)).getD i [] = tightL A R[i] := by
  rw [gD_lt _ (by simpa using hi), List.getElem_map]
theorem both_mem {A R : List Vec} {i j : Nat} (hi : i < R.length) (hj : j < R.length) {k : Nat} : k ∈ bothL (R.map (tightL A)) i j ↔ k < A.length ∧ dI (A.getD k []) R[i] = 0 ∧ dI (A.getD k []) R[j] = 0 := by
  unfold bothL
  rw [tight_at hi, tight_at hj, List.mem_filter, decide_eq_true_eq, mem_tightL, mem_tightL]
  constructor
  · rintro ⟨⟨a, b⟩, _, c⟩; exact ⟨a, b, c⟩
  · rintro ⟨a, b, c⟩; exact ⟨⟨a, b⟩, a, c⟩
theorem both_len (wA : ∀ a ∈ A, a.length = n) (wR : ∀ r ∈ R, r.length = n) {i j : Nat} (hi : i < R.length) (hj : j < R.length) : (bothL (R.map (tightL A)) i j).length = cnt2 n (A.map vz) (vz R[i]) (vz R[j]) := by
  unfold bothL cnt2
  rw [tight_at hi, tight_at hj, List.filter_map, List.length_map]
  rw [List.filter_congr (p := fun k => decide (k ∈ tightL A R[j])) (q := fun k => decide (dI (A.getD k []) R[j] = 0)) fun k hk => ?_]
  · rw [show tightL A R[i] = (List.range A.length).filter fun k => decide (dI (A.getD k []) R[i] = 0) from rfl, List.filter_filter]
    rw [range_filter_len [] A fun a => decide (dI a R[j] = 0) && decide (dI a R[i] = 0)]
    congr 1
    apply List.filter_congr
    intro a ha
    have h1 := dt_vz (wA a ha) (wR R[i] (List.getElem_mem hi))
    have h2 := dt_vz (wA a ha) (wR R[j] (List.getElem_mem hj))
    have e1 : (dt n (vz a) (vz R[i]) = 0) ↔ dI a R[i] = 0 := by
      rw [h1]; exact ⟨fun h => Rat.intCast_inj.mp h, fun h => by rw [h]; rfl⟩
    have e2 : (dt n (vz a) (vz R[j]) = 0) ↔ dI a R[j] = 0 := by
      rw [h2]; exact ⟨fun h => Rat.intCast_inj.mp h, fun h => by rw [h]; rfl⟩
    show (decide (dI a R[j] = 0) && decide (dI a R[i] = 0)) = decide (dt n (vz a) (vz R[i]) = 0 ∧ dt n (vz a) (vz R[j]) = 0)
    rw [decide_eq_decide.mpr (and_congr e1 e2), Bool.decide_and, Bool.and_comm]
  · have hk := (mem_tightL.mp hk).1
    have : k ∈ tightL A R[j] ↔ dI (A.getD k []) R[j] = 0 := by rw [mem_tightL]; exact ⟨fun h => h.2, fun h => ⟨hk, h⟩⟩
    exact decide_eq_decide.mpr this
theorem dt0_iff {a r : Vec} (ha : a.length = n) (hr : r.length = n) : dt n (vz a) (vz r) = 0 ↔ dI a r = 0 := by
  rw [dt_vz ha hr]; exact ⟨fun h => Rat.intCast_inj.mp h, fun h => by rw [h]; rfl⟩
theorem dtp_iff {a r : Vec} (ha : a.length = n) (hr : r.length = n) : 0 < dt n (vz a) (vz r) ↔ 0 < dI a r := by
  rw [dt_vz ha hr]; exact Rat.intCast_pos
theorem dtn_iff {a r : Vec} (ha : a.length = n) (hr : r.length = n) : dt n (vz a) (vz r) < 0 ↔ dI a r < 0 := by
  rw [dt_vz ha hr]; exact Rat.intCast_neg_iff
theorem dtnn_iff {a r : Vec} (ha : a.length = n) (hr : r.length = n) : 0 ≤ dt n (vz a) (vz r) ↔ 0 ≤ dI a r := by
  rw [dt_vz ha hr]; exact Rat.intCast_nonneg
theorem CI.side (C : CI n A M R) {i j : Nat} (hi : i < R.length) (hj : j < R.length) :
    sideL (R.map (tightL A)) i j ((n : Int) - (M.length : Int) - 2) = true ↔ Adj n (A.map vz) (fun x => ∃ r ∈ R, x = vz r) (vz R[i]) (vz R[j]) := by
  have wRi := fun i (h : i < R.length) => C.wR R[i] (List.getElem_mem h)
  have hall : ∀ t, (ht : t < R.length) → (((bothL (R.map (tightL A)) i j).all fun k => decide (k ∈ (R.map (tightL A)).getD t [])) = true ↔ ∀ a ∈ A.map vz, dt n a (vz R[i]) = 0 → dt n a (vz R[j]) = 0 → dt n a (vz R[t]) = 0) := by
    intro t ht
    rw [List.all_eq_true]
    constructor
    · intro h a ha h1 h2
      obtain ⟨a, ha', rfl⟩ := List.mem_map.mp ha
      obtain ⟨k, hk, rfl⟩ := List.mem_iff_getElem.mp ha'
      have hw := C.wA _ ha'
      have := h k ((both_mem hi hj).mpr ⟨hk, by rw [gD_lt _ hk]; exact (dt0_iff hw (wRi i hi)).mp h1, by rw [gD_lt _ hk]; exact (dt0_iff hw (wRi j hj)).mp h2⟩)
      rw [decide_eq_true_eq, tight_at ht, mem_tightL, gD_lt _ hk] at this
      exact (dt0_iff hw (wRi t ht)).mpr this.2
    · intro h k hk
      obtain ⟨h0, h1, h2⟩ := (both_mem hi hj).mp hk
      rw [gD_lt _ h0] at h1 h2
      have hw := C.wA _ (List.getElem_mem h0)
      rw [decide_eq_true_eq, tight_at ht, mem_tightL, gD_lt _ h0]
      exact ⟨h0, (dt0_iff hw (wRi t ht)).mp (h _ (List.mem_map.mpr ⟨_, List.getElem_mem h0, rfl⟩) ((dt0_iff hw (wRi i hi)).mpr h1) ((dt0_iff hw (wRi j hj)).mpr h2))⟩
  have inj : ∀ s t, (hs : s < R.length) → (ht : t < R.length) → (vz R[s] = vz R[t] ↔ s = t) := fun s t hs ht =>
    ⟨fun e => (List.getElem_inj C.nR).mp (vz_inj (by rw [wRi s hs, wRi t ht]) e), fun e => by subst e; rfl⟩
  unfold sideL
  rw [Bool.and_eq_true, List.all_eq_true, Bool.not_eq_true', decide_eq_false_iff_not, List.length_map]
  constructor
  · rintro ⟨_, h⟩ t ⟨r, hr, rfl⟩ n1 n2 h3
    obtain ⟨t, ht, rfl⟩ := List.mem_iff_getElem.mp hr
    have := h t (List.mem_range.mpr ht)
    rw [(hall t ht).mpr h3, decide_eq_false fun e => n1 ((inj t i ht hi).mpr e), decide_eq_false fun e => n2 ((inj t j ht hj).mpr e)] at this
    cases this
  · intro ad
    refine ⟨?_, fun t ht => ?_⟩
    · have hA : ∀ a ∈ A.map vz, Su n a := fun a ha => by obtain ⟨b, hb, rfl⟩ := List.mem_map.mp ha; exact su_vz (C.wA b hb)
      have := adj_least hA C.ln (by rw [CI.fst2]; exact C.dd) ⟨_, List.getElem_mem hi, rfl⟩ ⟨_, List.getElem_mem hj, rfl⟩ ad
      rw [List.length_map] at this
      rw [both_len C.wA C.wR hi hj]
      omega
    · have ht := List.mem_range.mp ht
      by_cases e1 : t = i
      · rw [decide_eq_true e1]; rfl
      · by_cases e2 : t = j
        · rw [decide_eq_true e2]; simp
        · rw [decide_eq_false e1, decide_eq_false e2]
          have := ad (vz R[t]) ⟨_, List.getElem_mem ht, rfl⟩ (fun e => e1 ((inj t i ht hi).mp e)) (fun e => e2 ((inj t j ht hj).mp e))
          rw [← hall t ht, Bool.not_eq_true] at this
          rw [this]; rfl
theorem mate_len {row p q : Vec} (h : p.length = q.length) : (mate row p q).length = p.length := by
  unfold mate; rw [lowL_len, CH.bl_len]; omega
theorem vz_mate {row p q : Vec} (hr : row.length = n) (hp : p.length = n) (hq : q.length = n) : ∃ g : Rat, 0 < g ∧ vz (mate row p q) = sm g (mixr n (vz row) (vz p) (vz q)) := by
  obtain ⟨g, g0, e⟩ := vz_low (bl p (0 - dI row q) q (dI row p))
  refine ⟨g, g0, ?_⟩
  unfold mate mixr
  rw [e, vz_bl (by rw [hp, hq]), dt_vz hr hp, dt_vz hr hq]
  rw [show ((0 - dI row q : Int) : Rat) = -((dI row q : Int) : Rat) by rw [← Rat.intCast_neg]; congr 1; omega]
theorem prim_mate {row p q : Vec} (hn : vz (mate row p q) ≠ 0) : Prim (mate row p q) := by
  unfold mate at *
  refine prim_low (vz_ne fun e => hn ?_)
  obtain ⟨g, _, e2⟩ := vz_low (bl p (0 - dI row q) q (dI row p))
  rw [e2, e, sm_zero]
theorem CI.cut (C : CI n A M R) {row : Vec} (hrow : row.length = n) (h0 : ∀ x ∈ M, dI row x.1 = 0) :
    CI n (A ++ [row]) M (cutL R row (R.map (tightL A)) ((n : Int) - (M.length : Int) - 2)) := by
  have wRi := fun i (h : i < R.length) => C.wR R[i] (List.getElem_mem h)
  have hbl : ∀ p q, (∃ r ∈ R, p = vz r) → (∃ r ∈ R, q = vz r) → 0 < dt n (vz row) p → dt n (vz row) q < 0 → ∃ c, 0 < c ∧ lift2 R (mate row) p q = sm c (mixr n (vz row) p q) := by
    rintro p q ⟨p, hp, rfl⟩ ⟨q, hq, rfl⟩ _ _
    rw [lift2_eq C.wR _ hp hq]
    exact vz_mate hrow (C.wR p hp) (C.wR q hq)
  have D := C.dd.cut hbl
  -- members of the made ones
  have mm : ∀ x, x ∈ cutL R row (R.map (tightL A)) ((n : Int) - (M.length : Int) - 2) ↔ (x ∈ R ∧ 0 ≤ dI row x) ∨ ∃ i j, ∃ (hi : i < R.length) (hj : j < R.length), 0 < dI row R[i] ∧ dI row R[j] < 0 ∧ Adj n (A.map vz) (fun x => ∃ r ∈ R, x = vz r) (vz R[i]) (vz R[j]) ∧ x = mate row R[i] R[j] := by
    intro x
    unfold cutL
    rw [List.mem_append, List.mem_filter, decide_eq_true_eq]
    refine or_congr Iff.rfl ?_
    rw [List.mem_flatMap]
    constructor
    · rintro ⟨i, hi, h⟩
      obtain ⟨j, hj, rfl⟩ := List.mem_map.mp h
      obtain ⟨hj, h2⟩ := List.mem_filter.mp hj
      have hi := List.mem_range.mp hi
      have hj := List.mem_range.mp hj
      rw [Bool.and_eq_true, Bool.and_eq_true, decide_eq_true_eq, decide_eq_true_eq, gD_lt _ hi, gD_lt _ hj, C.side hi hj] at h2
      exact ⟨i, j, hi, hj, h2.1.1, h2.1.2, h2.2, by rw [gD_lt _ hi, gD_lt _ hj]⟩
    · rintro ⟨i, j, hi, hj, h1, h2, h3, rfl⟩
      refine ⟨i, List.mem_range.mpr hi, List.mem_map.mpr ⟨j, List.mem_filter.mpr ⟨List.mem_range.mpr hj, ?_⟩, by rw [gD_lt _ hi, gD_lt _ hj]⟩⟩
      rw [Bool.and_eq_true, Bool.and_eq_true, decide_eq_true_eq, decide_eq_true_eq, gD_lt _ hi, gD_lt _ hj, C.side hi hj]
      exact ⟨⟨h1, h2⟩, h3⟩
  have eR : Cut n (A.map vz) (fun x => ∃ r ∈ R, x = vz r) (vz row) (lift2 R (mate row)) = fun x => ∃ r ∈ cutL R row (R.map (tightL A)) ((n : Int) - (M.length : Int) - 2), x = vz r := by
    funext x
    apply propext
    constructor
    · rintro (⟨⟨r, hr, rfl⟩, h⟩ | ⟨p, q, ⟨p, hp, rfl⟩, ⟨q, hq, rfl⟩, h1, h2, ad, rfl⟩)
      · exact ⟨r, (mm r).mpr (.inl ⟨hr, (dtnn_iff hrow (C.wR r hr)).mp h⟩), rfl⟩
      · obtain ⟨i, hi, rfl⟩ := List.mem_iff_getElem.mp hp
        obtain ⟨j, hj, rfl⟩ := List.mem_iff_getElem.mp hq
        exact ⟨_, (mm _).mpr (.inr ⟨i, j, hi, hj, (dtp_iff hrow (wRi i hi)).mp h1, (dtn_iff hrow (wRi j hj)).mp h2, ad, rfl⟩), lift2_eq C.wR _ hp hq⟩
    · rintro ⟨r, hr, rfl⟩
      rcases (mm r).mp hr with ⟨hr, h⟩ | ⟨i, j, hi, hj, h1, h2, ad, rfl⟩
      · exact .inl ⟨⟨r, hr, rfl⟩, (dtnn_iff hrow (C.wR r hr)).mpr h⟩
      · exact .inr ⟨_, _, ⟨_, List.getElem_mem hi, rfl⟩, ⟨_, List.getElem_mem hj, rfl⟩, (dtp_iff hrow (wRi i hi)).mpr h1, (dtn_iff hrow (wRi j hj)).mpr h2, ad, (lift2_eq C.wR _ (List.getElem_mem hi) (List.getElem_mem hj)).symm⟩
  rw [eR, show A.map vz ++ [vz row] = (A ++ [row]).map vz by simp] at D
  refine ⟨?_, C.wM, ?_, C.pM, ?_, ?_, ⟨C.ln.nod, C.ln.lt, C.ln.su, C.ln.ne, C.ln.off, ?_⟩, D⟩
  · intro a ha
    rcases List.mem_append.mp ha with ha | ha
    · exact C.wA a ha
    · rw [List.mem_singleton.mp ha]; exact hrow
  · intro r hr
    rcases (mm r).mp hr with ⟨hr, h⟩ | ⟨i, j, hi, hj, h1, h2, ad, rfl⟩
    · exact C.wR r hr
    · rw [mate_len (by rw [wRi i hi, wRi j hj]), wRi i hi]
  · intro r hr
    have hne := D.ne (vz r) ⟨r, hr, rfl⟩
    rcases (mm r).mp hr with ⟨hr, h⟩ | ⟨i, j, hi, hj, h1, h2, ad, rfl⟩
    · exact C.pR r hr
    · exact prim_mate hne
  · unfold cutL
    have memj : ∀ i j, j ∈ ((List.range R.length).filter fun j => decide (0 < dI row (R.getD i [])) && decide (dI row (R.getD j []) < 0) && sideL (R.map (tightL A)) i j ((n : Int) - (M.length : Int) - 2)) → (hi : i < R.length) → ∃ hj : j < R.length, 0 < dI row R[i] ∧ dI row R[j] < 0 ∧ Adj n (A.map vz) (fun x => ∃ r ∈ R, x = vz r) (vz R[i]) (vz R[j]) := by
      intro i j hj hi
      obtain ⟨hj, h2⟩ := List.mem_filter.mp hj
      have hj := List.mem_range.mp hj
      rw [Bool.and_eq_true, Bool.and_eq_true, decide_eq_true_eq, decide_eq_true_eq, gD_lt _ hi, gD_lt _ hj, C.side hi hj] at h2
      exact ⟨hj, h2.1.1, h2.1.2, h2.2⟩
    have uq : ∀ i j i' j', (hi : i < R.length) → (hj : j < R.length) → (hi' : i' < R.length) → (hj' : j' < R.length) → 0 < dI row R[i] → dI row R[j] < 0 → Adj n (A.map vz) (fun x => ∃ r ∈ R, x = vz r) (vz R[i]) (vz R[j]) → 0 < dI row R[i'] → dI row R[j'] < 0 → mate row R[i] R[j] = mate row R[i'] R[j'] → i' = i ∧ j' = j := by
      intro i j i' j' hi hj hi' hj' h1 h2 ad h1' h2' e
      have := made_uniq C.dd hbl ⟨_, List.getElem_mem hi, rfl⟩ ⟨_, List.getElem_mem hj, rfl⟩ ((dtp_iff hrow (wRi i hi)).mpr h1) ((dtn_iff hrow (wRi j hj)).mpr h2) ad ⟨_, List.getElem_mem hi', rfl⟩ ⟨_, List.getElem_mem hj', rfl⟩ ((dtp_iff hrow (wRi i' hi')).mpr h1') ((dtn_iff hrow (wRi j' hj')).mpr h2') (by
        rw [lift2_eq C.wR _ (List.getElem_mem hi) (List.getElem_mem hj), lift2_eq C.wR _ (List.getElem_mem hi') (List.getElem_mem hj'), e])
      exact ⟨(List.getElem_inj C.nR).mp (vz_inj (by rw [wRi i' hi', wRi i hi]) this.1), (List.getElem_inj C.nR).mp (vz_inj (by rw [wRi j' hj', wRi j hj]) this.2)⟩
    refine List.nodup_append.mpr ⟨C.nR.sublist List.filter_sublist, ?_, fun x hx y hy e => ?_⟩
    · refine List.pairwise_flatMap.mpr ⟨fun i hi => ?_, ?_⟩
      · have hi := List.mem_range.mp hi
        refine List.pairwise_map.mpr ?_
        have nd : ((List.range R.length).filter fun j => decide (0 < dI row (R.getD i [])) && decide (dI row (R.getD j []) < 0) && sideL (R.map (tightL A)) i j ((n : Int) - (M.length : Int) - 2)).Nodup := List.nodup_range.sublist List.filter_sublist
        refine nd.imp_of_mem ?_
        intro j j' hj hj' hne e
        obtain ⟨hj1, a1, a2, a3⟩ := memj i j hj hi
        obtain ⟨hj2, b1, b2, b3⟩ := memj i j' hj' hi
        rw [gD_lt _ hi, gD_lt _ hj1, gD_lt _ hj2] at e
        exact hne (uq i j i j' hi hj1 hi hj2 a1 a2 a3 b1 b2 e).2.symm
      · refine (List.nodup_range (n := R.length)).imp_of_mem ?_
        intro i i' hi hi' hne x hx y hy e
        have hi := List.mem_range.mp hi
        have hi' := List.mem_range.mp hi'
        obtain ⟨j, hj, rfl⟩ := List.mem_map.mp hx
        obtain ⟨j', hj', rfl⟩ := List.mem_map.mp hy
        obtain ⟨hj1, a1, a2, a3⟩ := memj i j hj hi
        obtain ⟨hj2, b1, b2, b3⟩ := memj i' j' hj' hi'
        rw [gD_lt _ hi, gD_lt _ hj1, gD_lt _ hi', gD_lt _ hj2] at e
        exact hne (uq i j i' j' hi hj1 hi' hj2 a1 a2 a3 b1 b2 e).1.symm
    · obtain ⟨hx1, _⟩ := List.mem_filter.mp hx
      obtain ⟨i, hi, hy⟩ := List.mem_flatMap.mp hy
      have hi := List.mem_range.mp hi
      obtain ⟨j, hj, rfl⟩ := List.mem_map.mp hy
      obtain ⟨hj1, a1, a2, a3⟩ := memj i j hj hi
      rw [gD_lt _ hi, gD_lt _ hj1] at e
      exact made_new C.dd hbl ⟨_, List.getElem_mem hi, rfl⟩ ⟨_, List.getElem_mem hj1, rfl⟩ ((dtp_iff hrow (wRi i hi)).mpr a1) ((dtn_iff hrow (wRi j hj1)).mpr a2) a3 ⟨x, hx1, rfl⟩ (by
        rw [lift2_eq C.wR _ (List.getElem_mem hi) (List.getElem_mem hj1), e])
  · intro x hx a ha
    obtain ⟨y, hy, rfl⟩ := List.mem_map.mp hx
    obtain ⟨b, hb, rfl⟩ := List.mem_map.mp ha
    rcases List.mem_append.mp hb with hb | hb
    · exact C.ln.van _ hx _ (List.mem_map.mpr ⟨b, hb, rfl⟩)
    · rw [List.mem_singleton.mp hb]
      exact (dt0_iff hrow (C.wM y hy)).mpr (h0 y hy)
end
theorem unitL_len (n k : Nat) : (unitL n k).length = n := by simp [unitL]
theorem vz_unit {n k : Nat} (h : k < n) : vz (unitL n k) = un k := by
  funext i
  unfold vz un unitL
  by_cases hi : i < n
  · rw [gD_lt _ (by simpa using hi), List.getElem_map, List.getElem_range]
    by_cases e : i = k
    · rw [if_pos e, if_pos e]; rfl
    · rw [if_neg e, if_neg e]; rfl
  · rw [gD_ge _ (by simpa using Nat.le_of_not_lt hi), if_neg (by omega)]; rfl
theorem prim_unit {n k : Nat} (h : k < n) : Prim (unitL n k) := by
  have h1 : (1 : Int) ∈ unitL n k := List.mem_map.mpr ⟨k, List.mem_range.mpr h, by simp⟩
  have := gcdL_dvd h1
  exact Int.eq_one_of_dvd_one (gcdL_nn _) this
theorem CI.init (n : Nat) : CI n [] ((List.range n).map fun k => (unitL n k, k)) [] where
  wA := fun _ h => nomatch h
  wM := fun x hx => by obtain ⟨k, _, rfl⟩ := List.mem_map.mp hx; exact unitL_len n k
  wR := fun _ h => nomatch h
  pM := fun x hx => by obtain ⟨k, hk, rfl⟩ := List.mem_map.mp hx; exact prim_unit (List.mem_range.mp hk)
  pR := fun _ h => nomatch h
  nR := List.nodup_nil
  ln := by
    refine ⟨?_, ?_, ?_, ?_, ?_, fun _ _ _ h => nomatch h⟩
    · rw [CI.fst2, List.map_map]
      have : ((fun x : Vec × Nat => x.2) ∘ fun k => (unitL n k, k)) = id := rfl
      rw [this, List.map_id]; exact List.nodup_range
    · intro x hx
      obtain ⟨y, hy, rfl⟩ := List.mem_map.mp hx
      obtain ⟨k, hk, rfl⟩ := List.mem_map.mp hy
      exact List.mem_range.mp hk
    · intro x hx
      obtain ⟨y, hy, rfl⟩ := List.mem_map.mp hx
      obtain ⟨k, hk, rfl⟩ := List.mem_map.mp hy
      exact su_vz (unitL_len n k)
    · intro x hx
      obtain ⟨y, hy, rfl⟩ := List.mem_map.mp hx
      obtain ⟨k, hk, rfl⟩ := List.mem_map.mp hy
      show vz (unitL n k) k ≠ 0
      rw [vz_unit (List.mem_range.mp hk)]; simp [un]
    · intro x hx x' hx' hne
      obtain ⟨y, hy, rfl⟩ := List.mem_map.mp hx
      obtain ⟨k, hk, rfl⟩ := List.mem_map.mp hy
      obtain ⟨y', hy', rfl⟩ := List.mem_map.mp hx'
      obtain ⟨k', hk', rfl⟩ := List.mem_map.mp hy'
      show vz (unitL n k) k' = 0
      rw [vz_unit (List.mem_range.mp hk)]
      unfold un; rw [if_neg fun e => hne e.symm]
  dd := by
    have h0 : ∀ x, Off n (((List.range n).map fun k => (unitL n k, k)).map (·.2)) x → x = 0 := fun x hx => by
      funext i
      by_cases hi : i < n
      · exact hx.2 i (List.mem_map.mpr ⟨(unitL n i, i), List.mem_map.mpr ⟨i, List.mem_range.mpr hi, rfl⟩, rfl⟩)
      · exact hx.1 i (by omega)
    refine ⟨fun x hx => hx.1, ⟨Su.zero, fun _ _ => rfl⟩, fun x y hx hy => ?_, fun c x hx => ?_, fun x hx _ => h0 x hx, ?_, ?_, ?_, fun x hx _ => ?_, ?_⟩
    · rw [h0 x hx, h0 y hy, add_zero']; exact ⟨Su.zero, fun _ _ => rfl⟩
    · rw [h0 x hx, sm_zero]; exact ⟨Su.zero, fun _ _ => rfl⟩
    · rintro r ⟨_, h, _⟩; cases h
    · rintro r ⟨_, h, _⟩; cases h
    · rintro r ⟨_, h, _⟩; cases h
    · rw [h0 x hx]; exact .zero
    · rintro r _ ⟨_, h, _⟩; cases h
theorem coneK_ok {rows : List Vec} {n : Nat} (hr : ∀ r ∈ rows, r.length = n) : ∀ k, k ≤ rows.length → ∃ M R, coneK rows n k = (M.map (·.1), R) ∧ CI n (rows.take k) M R
  | 0, _ => ⟨(List.range n).map fun k => (unitL n k, k), [], by unfold coneK; rw [List.map_map]; rfl, by rw [List.take_zero]; exact CI.init n⟩
  | k + 1, hk => by
    obtain ⟨M, R, e, C⟩ := coneK_ok hr k (by omega)
    have hk2 : k < rows.length := by omega
    have hrow := hr rows[k] (List.getElem_mem hk2)
    unfold coneK
    rw [e]
    unfold coneStep
    dsimp only
    rw [gD_lt _ hk2, show rows.take (k + 1) = rows.take k ++ [rows[k]] from (List.take_append_getElem hk2).symm]
    cases hc : crossing rows[k] (M.map (·.1)) with
    | cons f L =>
      have hf : f ∈ crossing rows[k] (M.map (·.1)) := by rw [hc]; exact List.mem_cons_self
      obtain ⟨h1, h2⟩ := List.mem_filter.mp hf
      obtain ⟨M', e1, C', _⟩ := C.turn hrow h1 (by simpa using h2)
      exact ⟨M', _, by rw [← e1], C'⟩
    | nil =>
      refine ⟨M, _, by rw [List.length_map], C.cut hrow fun x hx => ?_⟩
      apply Classical.byContradiction
      intro hn
      have : x.1 ∈ crossing rows[k] (M.map (·.1)) := List.mem_filter.mpr ⟨List.mem_map.mpr ⟨x, hx, rfl⟩, by simpa using hn⟩
      rw [hc] at this; cases this
theorem coneL_ok {rows : List Vec} {n : Nat} (hr : ∀ r ∈ rows, r.length = n) : ∃ M R, coneL rows n = (M.map (·.1), R) ∧ CI n rows M R := by
  obtain ⟨M, R, e, C⟩ := coneK_ok hr rows.length (Nat.le_refl _)
  exact ⟨M, R, e, by rwa [List.take_length] at C⟩
end CM

/-! How large and how many rays and lines are. -/
namespace CM
open CH (gcdI gcdL lowL bl gcdL_dvd lowL_mul lowL_len getD_bl gcdI_nn gcdL_nn)
open Classical
theorem rat_den (c : Rat) : c * (c.den : Rat) = (c.num : Rat) := by
  have h1 : c = (c.num : Rat) / (c.den : Rat) := by
    have := Rat.mkRat_eq_div c.num c.den
    rw [Rat.mkRat_self] at this
    rw [← this]
  have h2 : (c.den : Rat) ≠ 0 := fun e => c.den_nz (Rat.natCast_inj.mp e)
  conv => lhs; lhs; rw [h1]
  exact Rat.div_mul_cancel h2
theorem prim_small {v : Vec} (hv : Prim v) {y : Nat → Int} {c : Rat} (hc : c ≠ 0) (h : ∀ i, ((y i : Int) : Rat) = c * vz v i) {K : Nat} (hy : ∀ i, (y i).natAbs ≤ K) : ∀ z ∈ v, z.natAbs ≤ K := by
  have key : ∀ i (hi : i < v.length), y i * (c.den : Int) = c.num * v[i] := fun i hi => by
    have h1 := h i
    unfold vz at h1
    rw [gD_lt _ hi] at h1
    have h2 : ((y i : Int) : Rat) * ((c.den : Int) : Rat) = (c.num : Rat) * (v[i] : Int) := by
      rw [h1, ← rat_den c, Rat.intCast_natCast]; grind
    rw [← Rat.intCast_mul, ← Rat.intCast_mul] at h2
    exact Rat.intCast_inj.mp h2
  have hd : c.den = 1 := by
    have : ((c.den : Nat) : Int) ∣ gcdL v := dvd_gcdL fun z hz => by
      obtain ⟨i, hi, rfl⟩ := List.mem_iff_getElem.mp hz
      have h1 : ((c.den : Nat) : Int) ∣ c.num * v[i] := ⟨y i, by rw [← key i hi, Int.mul_comm]⟩
      have h2 : c.den ∣ c.num.natAbs * (v[i]).natAbs := by
        have := Int.natAbs_dvd_natAbs.mpr h1
        rwa [Int.natAbs_mul, Int.natAbs_natCast] at this
      have h3 : c.den ∣ (v[i]).natAbs := (Nat.Coprime.symm c.reduced).dvd_of_dvd_mul_left h2
      exact Int.ofNat_dvd_left.mpr h3
    rw [hv] at this
    have := Int.ofNat_dvd_left.mp this
    exact Nat.eq_one_of_dvd_one this
  intro z hz
  obtain ⟨i, hi, rfl⟩ := List.mem_iff_getElem.mp hz
  have h1 := key i hi
  rw [hd] at h1
  have h2 : c.num ≠ 0 := fun e => hc (Rat.num_eq_zero.mp e)
  have h3 : (y i).natAbs = c.num.natAbs * (v[i]).natAbs := by rw [← Int.natAbs_mul, ← h1]; simp
  have h4 := hy i
  have h5 : 1 ≤ c.num.natAbs := by omega
  calc (v[i]).natAbs = 1 * (v[i]).natAbs := (Nat.one_mul _).symm
    _ ≤ c.num.natAbs * (v[i]).natAbs := Nat.mul_le_mul_right _ h5
    _ ≤ K := by omega
theorem off_len {n : Nat} {ps : List Nat} (hd : ps.Nodup) (hlt : ∀ p ∈ ps, p < n) : ((List.range n).filter fun i => !decide (i ∈ ps)).length + ps.length = n := by
  have h1 : ((List.range n).filter fun i => decide (i ∈ ps)).length = ps.length := by
    refine Nat.le_antisymm ?_ ?_
    · exact inj_len (f := id) (List.nodup_range.sublist List.filter_sublist) (fun x hx => by simpa using (List.mem_filter.mp hx).2) fun _ _ _ _ h => h
    · exact inj_len (f := id) hd (fun x hx => List.mem_filter.mpr ⟨List.mem_range.mpr (hlt x hx), by simpa using hx⟩) fun _ _ _ _ h => h
  have h2 : ∀ L : List Nat, (L.filter fun i => !decide (i ∈ ps)).length + (L.filter fun i => decide (i ∈ ps)).length = L.length := by
    intro L
    induction L with
    | nil => rfl
    | cons a L ih =>
      by_cases e : a ∈ ps
      · rw [List.filter_cons_of_neg (by simp [e]), List.filter_cons_of_pos (by simp [e])]; simp; omega
      · rw [List.filter_cons_of_pos (by simp [e]), List.filter_cons_of_neg (by simp [e])]; simp; omega
  have := h2 (List.range n)
  rw [h1, List.length_range] at this
  exact this
/-- a vector in lowest terms that spans a kernel is small -/
theorem kernel_small {n : Nat} {A : List Vec} (hA : ∀ a ∈ A, a.length = n) {C : Nat} (hC : 1 ≤ C) (hAC : ∀ a ∈ A, ∀ z ∈ a, z.natAbs ≤ C) {T : List V} (hT : T.Sublist (A.map vz)) {ps : List Nat} (hps : ps.Nodup) (hlt : ∀ p ∈ ps, p < n)
    {v : Vec} (hv : Prim v) (hvl : v.length = n)
    (h : ∀ x, (Su n x ∧ (∀ p ∈ ps, x p = 0) ∧ ∀ t ∈ T, dt n t x = 0) ↔ Sp (· ∈ [vz v]) x) :
    ∀ z ∈ v, z.natAbs ≤ (2 * (n - ps.length) * C) ^ (n - ps.length - 1) := by
  have hTs : ∀ t ∈ T, Su n t := fun t ht => by
    obtain ⟨a, ha, rfl⟩ := List.mem_map.mp (hT.subset ht); exact su_vz (hA a ha)
  obtain ⟨B, b1, b2, b3⟩ := kernel_basis1 hTs hps hlt (prim_ne hv) (su_vz hvl) h
  obtain ⟨L, l1, rfl⟩ := List.sublist_map_iff.mp (b1.trans hT)
  rw [List.length_map] at b2
  have hq := off_len hps hlt
  obtain ⟨y, y0, y1, y2, y3⟩ := siegel (n := n) (Z := L.map fun a i => a.getD i 0) hC (fun z hz i => by
    obtain ⟨a, ha, rfl⟩ := List.mem_map.mp hz
    show (a.getD i 0).natAbs ≤ C
    by_cases hi : i < a.length
    · rw [gD_lt _ hi]; exact hAC a (l1.subset ha) _ (List.getElem_mem hi)
    · rw [gD_ge _ (Nat.le_of_not_lt hi)]; exact Nat.zero_le _) (Q := (List.range n).filter fun i => !decide (i ∈ ps)) (List.nodup_range.sublist List.filter_sublist) (fun q hq => List.mem_range.mp (List.mem_filter.mp hq).1) (by rw [List.length_map]; omega)
  have hsp := b3 (rz y) ⟨fun i hi => by
      show ((y i : Int) : Rat) = 0
      rw [y1 i fun hm => by have := List.mem_range.mp (List.mem_filter.mp hm).1; omega]; rfl, fun p hp => by
      show ((y p : Int) : Rat) = 0
      rw [y1 p fun hm => by have := (List.mem_filter.mp hm).2; simp [hp] at this]; rfl, fun b hb => by
      obtain ⟨a, ha, rfl⟩ := List.mem_map.mp hb
      exact y2 _ (List.mem_map.mpr ⟨a, ha, rfl⟩)⟩
  obtain ⟨c, hc⟩ := sp_one hsp
  have hc0 : c ≠ 0 := fun e => y0 (by rw [hc, e, zero_sm])
  rw [show ((List.range n).filter fun i => !decide (i ∈ ps)).length = n - ps.length by omega, List.length_map, show L.length = n - ps.length - 1 by omega] at y3
  exact prim_small hv hc0 (fun i => congrFun hc i) y3
section
variable {n : Nat} {A : List Vec} {M : List (Vec × Nat)} {R : List Vec}
theorem CI.nodM (C : CI n A M R) : (M.map (·.2)).Nodup := by have := C.ln.nod; rwa [CI.fst2] at this
theorem CI.ltM (C : CI n A M R) : ∀ p ∈ M.map (·.2), p < n := fun p hp => by
  obtain ⟨x, hx, rfl⟩ := List.mem_map.mp hp
  exact C.ln.lt (vz x.1, x.2) (List.mem_map.mpr ⟨x, hx, rfl⟩)
theorem CI.suA (C : CI n A M R) : ∀ a ∈ A.map vz, Su n a := fun a ha => by
  obtain ⟨b, hb, rfl⟩ := List.mem_map.mp ha; exact su_vz (C.wA b hb)
theorem CI.ray_kernel (C : CI n A M R) {r : Vec} (hr : r ∈ R) (x : V) : (Su n x ∧ (∀ p ∈ M.map (·.2), x p = 0) ∧ ∀ t ∈ (A.map vz).filter (fun a => decide (dt n a (vz r) = 0)), dt n t x = 0) ↔ Sp (· ∈ [vz r]) x := by
  have hro := C.dd.rw (vz r) ⟨r, hr, rfl⟩
  constructor
  · rintro ⟨h1, h2, h3⟩
    have := C.dd.face_span hro (C.dd.pos _ ⟨r, hr, rfl⟩) (x := x) ⟨h1, h2⟩ fun a ha h0 => h3 a (List.mem_filter.mpr ⟨ha, decide_eq_true h0⟩)
    refine this.mono fun q hq => ?_
    rw [C.dd.min (vz r) q ⟨r, hr, rfl⟩ hq.1 hq.2]; exact List.mem_singleton.mpr rfl
  · intro h
    obtain ⟨c, rfl⟩ := sp_one h
    refine ⟨hro.1.sm c, fun p hp => ?_, fun t ht => ?_⟩
    · rw [sm_at, hro.2 p hp]; grind
    · rw [dt_sm, of_decide_eq_true (List.mem_filter.mp ht).2]; grind
theorem CI.ray_small (C : CI n A M R) {c : Nat} (hc : 1 ≤ c) (hAc : ∀ a ∈ A, ∀ z ∈ a, z.natAbs ≤ c) {r : Vec} (hr : r ∈ R) : ∀ z ∈ r, z.natAbs ≤ (2 * (n - M.length) * c) ^ (n - M.length - 1) := by
  have := kernel_small C.wA hc hAc (T := (A.map vz).filter fun a => decide (dt n a (vz r) = 0)) List.filter_sublist C.nodM C.ltM (C.pR r hr) (C.wR r hr) (C.ray_kernel hr)
  rwa [List.length_map] at this
theorem CI.line_small (C : CI n A M R) {c : Nat} (hc : 1 ≤ c) (hAc : ∀ a ∈ A, ∀ z ∈ a, z.natAbs ≤ c) {x0 : Vec × Nat} (hx : x0 ∈ M) : ∀ z ∈ x0.1, z.natAbs ≤ (2 * (n - (M.length - 1)) * c) ^ (n - (M.length - 1) - 1) := by
  have hmm : ∀ {x : Vec × Nat}, x ∈ M → (vz x.1, x.2) ∈ M.map fun x => (vz x.1, x.2) := fun hx => List.mem_map.mpr ⟨_, hx, rfl⟩
  have hlen := piv_len (f1 := x0.1) (pf := x0.2) C.nodM hx
  have hne : vz x0.1 x0.2 ≠ 0 := C.ln.ne _ (hmm hx)
  have := kernel_small C.wA hc hAc (T := A.map vz) (List.Sublist.refl _) (ps := (M.filter fun x => !decide (x.2 = x0.2)).map (·.2)) (C.nodM.sublist (List.filter_sublist.map _)) (fun p hp => by
    obtain ⟨x, hx, rfl⟩ := List.mem_map.mp hp
    exact C.ltM _ (List.mem_map.mpr ⟨x, (List.mem_filter.mp hx).1, rfl⟩)) (C.pM x0 hx) (C.wM x0 hx) (fun x => by
    constructor
    · rintro ⟨h1, h2, h3⟩
      have h4 : x - sm (x x0.2 / vz x0.1 x0.2) (vz x0.1) = 0 := C.dd.pt _ ⟨h1.sub ((su_vz (C.wM x0 hx)).sm _), fun p hp => by
        obtain ⟨y, hy, rfl⟩ := List.mem_map.mp hp
        by_cases e : y.2 = x0.2
        · rw [e, sub_at, sm_at, Rat.div_mul_cancel hne]; grind
        · have h5 : vz x0.1 y.2 = 0 := C.ln.off _ (hmm hx) _ (hmm hy) fun q => e q.symm
          rw [sub_at, sm_at, h5, h2 y.2 (List.mem_map.mpr ⟨y, List.mem_filter.mpr ⟨hy, by simpa using e⟩, rfl⟩)]; grind⟩ fun a ha => by
        rw [dt_sub, dt_sm, h3 a ha, C.ln.van _ (hmm hx) a ha]; grind
      have h6 : x = sm (x x0.2 / vz x0.1 x0.2) (vz x0.1) := by
        funext i; have := congrFun h4 i; simp at this ⊢; grind
      rw [h6]; exact .sm _ (.mem (List.mem_singleton.mpr rfl))
    · intro h
      obtain ⟨c, rfl⟩ := sp_one h
      refine ⟨(su_vz (C.wM x0 hx)).sm c, fun p hp => ?_, fun t ht => ?_⟩
      · obtain ⟨y, hy, rfl⟩ := List.mem_map.mp hp
        obtain ⟨hy, h2⟩ := List.mem_filter.mp hy
        have h5 : vz x0.1 y.2 = 0 := C.ln.off _ (hmm hx) _ (hmm hy) fun q => by simp at h2; exact h2 q.symm
        rw [sm_at, h5]; grind
      · rw [dt_sm, C.ln.van _ (hmm hx) t ht]; grind)
  rwa [List.length_map, show (M.filter fun x => !decide (x.2 = x0.2)).length = M.length - 1 by omega] at this
theorem CI.lenM (C : CI n A M R) : M.length ≤ n := by
  have := off_len C.nodM C.ltM
  rw [List.length_map] at this; omega
/-- how many rays there are at the most -/
theorem CI.count (C : CI n A M R) : R.length ≤ ch A.length (n - M.length - 1) := by
  have key : ∀ r ∈ R, ∃ B : List V, B.Sublist (A.map vz) ∧ B.length = n - M.length - 1 ∧ ∀ x, Off n (M.map (·.2)) x → ((∀ b ∈ B, dt n b x = 0) ↔ Sp (· ∈ [vz r]) x) := fun r hr => by
    obtain ⟨B, b1, b2, b3⟩ := kernel_basis1 (n := n) (T := (A.map vz).filter fun a => decide (dt n a (vz r) = 0)) (fun t ht => C.suA t (List.mem_filter.mp ht).1) C.nodM C.ltM (prim_ne (C.pR r hr)) (su_vz (C.wR r hr)) (C.ray_kernel hr)
    rw [List.length_map] at b2
    refine ⟨B, b1.trans List.filter_sublist, by omega, fun x hx => ⟨fun h => b3 x ⟨hx.1, hx.2, h⟩, fun h b hb => ?_⟩⟩
    obtain ⟨c, rfl⟩ := sp_one h
    rw [dt_sm, of_decide_eq_true (List.mem_filter.mp (b1.subset hb)).2]; grind
  have := inj_len (L := R) (K := sl (n - M.length - 1) (A.map vz)) (f := fun r => if h : r ∈ R then (key r h).choose else []) C.nR (fun r hr => by
    rw [dif_pos hr]
    have h := (key r hr).choose_spec
    have h2 := mem_sl h.1
    have h3 := h.2.1
    generalize (key r hr).choose = X at h2 h3 ⊢
    rwa [h3] at h2) fun r hr q hq e => by
    rw [dif_pos hr, dif_pos hq] at e
    have h1 := (key r hr).choose_spec.2.2
    have h2 := (key q hq).choose_spec.2.2
    rw [e] at h1
    have h3 := (h1 (vz q) (C.dd.rw _ ⟨q, hq, rfl⟩)).mp ((h2 (vz q) (C.dd.rw _ ⟨q, hq, rfl⟩)).mpr (.mem (List.mem_singleton.mpr rfl)))
    obtain ⟨c, hc⟩ := sp_one h3
    exact vz_inj (by rw [C.wR r hr, C.wR q hq]) (C.dd.min (vz r) (vz q) ⟨r, hr, rfl⟩ ⟨q, hq, rfl⟩ fun a ha h0 => by rw [hc, dt_sm, h0]; grind)
  rwa [sl_len, List.length_map] at this
end
end CM

set_option maxRecDepth 100000
/-! Reckoning: products, opposites, units, tight rows. -/
namespace CH
open PySem
open CM (dI opp unitL tightL bothL sideL cutL turnL turnF led mate coneK coneStep coneL crossing gD_lt gD_ge)
theorem dot_ok {a b : List Int} (s : S) {i j : Nat} (ha : Bd i a) (hb : Bd j b) (hi : i ≤ 60000000) (hj : j ≤ 60000000) (hl : a.length < line) : fdot [vec a, vec b] s = some (.int (dI a b), s) := by
  have hle : ((a.zip b).map fun p => D.tup [.int p.1, .int p.2]).length < line := by
    rw [List.length_map, List.length_zip]; omega
  have hc : ∀ x2 x3, compE (mBdT [2, 3]) mTrue (mBin .Mult (mB 2) (mB 3)) [.v (vec a), .v (vec b), x2, x3] ((a.zip b).map fun p => D.tup [.int p.1, .int p.2]) s = some ((a.zip b).map fun p => D.int (p.1 * p.2), s) := by
    intro x2 x3
    refine compE_map (fun p : Int × Int => D.tup [.int p.1, .int p.2]) (fun p => D.int (p.1 * p.2)) (a.zip b) fun p hp => ⟨_, rfl, rfl, ?_⟩
    have h1 := ha _ (List.of_mem_zip hp).1
    have h2 := hb _ (List.of_mem_zip hp).2
    simp [o_mul (fits_k h1 hi) (fits_k h2 hj)]
  have hz : zipD (vec a) (vec b) = some ((a.zip b).map fun p => D.tup [.int p.1, .int p.2]) := by
    show some (List.zipWith _ (zs a) (zs b)) = _
    rw [zip_zs]
  refine dfn_rt rfl ?_
  simp [hz]
  rw [if_pos (by simpa using hle)]
  simp [hc, b_sum (asInts_map _ _), dI]
theorem opp_ok {a : List Int} (s : S) (hl : a.length < line) : fopposite [vec a] s = some (vec (opp a), s) := by
  have hc : compE (mBd 1) mTrue (mBin .Sub (mK (.int 0)) (mB 1)) [.v (vec a), .un] (a.map D.int) s = some (a.map fun x => D.int (0 - x), s) :=
    compE_map D.int (fun x => D.int (0 - x)) a fun x _ => ⟨_, rfl, rfl, by simp⟩
  refine dfn_rt rfl ?_
  have hz : zs (opp a) = a.map fun x => D.int (0 - x) := by simp [zs, opp]
  have hl2 : (zs a).length < line := by rw [zs_len]; exact hl
  rw [show vec (opp a) = D.tup (a.map fun x => D.int (0 - x)) from congrArg D.tup hz]
  have hc2 : compE (mBd 1) mTrue (mBin .Sub (mK (.int 0)) (mB 1)) [.v (vec a), .un] (zs a) s = some (a.map fun x => D.int (0 - x), s) := hc
  simp [-Int.zero_sub, hl2, hc2]
theorem unit_ok {n k : Nat} (s : S) (hn : n ≤ 1000000) : funit [.int n, .int k] s = some (vec (unitL n k), s) := by
  have hr : rangeD 0 (n : Int) = some ((List.range n).map fun (k : Nat) => D.int (k : Int)) := by rw [r_dom (by omega) (by omega), Int.toNat_natCast]
  have hc : compE (mBd 2) mTrue (mBlt "int" [(mCmp .Eq (mB 2) (mB 1))]) [.v (.int n), .v (.int k), .un] ((List.range n).map fun (k : Nat) => D.int (k : Int)) s = some ((List.range n).map fun i => D.int (if i = k then 1 else 0), s) :=
    compE_map (fun (k : Nat) => D.int (k : Int)) (fun i => D.int (if i = k then 1 else 0)) (List.range n) fun i _ => ⟨_, rfl, rfl, by
      by_cases e : i = k
      · subst e; simp
      · have : ¬ (i : Int) = (k : Int) := by omega
        simp [e, this]⟩
  have hl : n < line := by rw [line_val]; omega
  refine dfn_rt rfl ?_
  have hz : zs (unitL n k) = (List.range n).map fun i => D.int (if i = k then 1 else 0) := by simp [zs, unitL]
  rw [show vec (unitL n k) = D.tup ((List.range n).map fun i => D.int (if i = k then 1 else 0)) from congrArg D.tup hz]
  simp [hr, hl, hc]
def nats (l : List Nat) : List D := l.map fun (k : Nat) => D.int (k : Int)
theorem nats_zs (l : List Nat) : nats l = zs (l.map fun (k : Nat) => (k : Int)) := by simp [nats, zs]
theorem r_nat {n : Nat} (hn : n ≤ 1000000) : rangeD 0 (n : Int) = some (nats (List.range n)) := by rw [r_dom (by omega) (by omega), Int.toNat_natCast]; rfl
theorem nats_len (l : List Nat) : (nats l).length = l.length := by simp [nats]
theorem at_vecs {L : List (List Int)} {k : Nat} (h : k < L.length) : atD (vecs L) (k : Int) = some (vec (L.getD k [])) := by
  have h1 : k < (vecs L).length := by rw [vecs_len]; exact h
  rw [at_nat h1, gD_lt _ h]
  simp [vecs]
theorem getD_mem {L : List (List Int)} {k : Nat} (h : k < L.length) : L.getD k [] ∈ L := by rw [gD_lt _ h]; exact List.getElem_mem h
theorem tight_ok {rows : List (List Int)} {ray : List Int} (s : S) {i j n : Nat} (ha : ∀ a ∈ rows, Bd i a) (hw : ∀ a ∈ rows, a.length = n) (hr : Bd j ray) (hi : i ≤ 60000000) (hj : j ≤ 60000000) (hn : n ≤ 1000) (hl : rows.length ≤ 1000000) :
    ftight_of [.lst (vecs rows), vec ray] s = some (.lst (nats (tightL rows ray)), s) := by
  have hc : ∀ x2, compE (mBd 2) (tE (mCmp .Eq (mCall fdot [(mIx (mB 0) (mV 2)), (mV 1)]) (mK (.int 0)))) (mV 2) [.v (.lst (vecs rows)), .v (vec ray), x2] (nats (List.range rows.length)) s = some (nats (tightL rows ray), s) := fun x2 =>
    compE_filter (fun (k : Nat) => D.int (k : Int)) (fun k => decide (dI (rows.getD k []) ray = 0)) (fun (k : Nat) => D.int (k : Int)) (List.range rows.length) fun k hk => by
      have hk := List.mem_range.mp hk
      have hm := getD_mem hk
      exact ⟨_, rfl, by simp [-List.getD_eq_getElem?_getD, at_vecs hk, dot_ok s (ha _ hm) hr hi hj (by rw [hw _ hm, line_val]; omega)], fun _ => by simp⟩
  have hlr : rows.length < line := by rw [line_val]; omega
  refine dfn_rt rfl ?_
  simp [vecs_len, r_nat hl, nats_len, hlr, hc]
theorem inD_zs (i : Int) (l : List Int) : inD (.int i) (.lst (zs l)) = some (decide (i ∈ l)) := by
  obtain ⟨q, h1, h2, h3⟩ := D.pls_py (zs l) (pls_zs l)
  unfold inD
  dsimp only
  rw [show (D.int i).toPy = some (.int i) from rfl, h1]
  have hs : SeqAt.shaped (.list q) = true := by
    show (PyData.canLay0 (.list q) && decide ((PyData.list q).depth ≤ 64)) = true
    have : PyData.canLay0 (.list q) = true := h2
    rw [this]
    have : (PyData.list q).depth ≤ 64 := by
      show PyData.depthAll q + 1 ≤ 64
      rw [h3, dps_zs]; decide
    simpa using this
  have hi : SeqAt.shaped (.int i) = true := rfl
  dsimp only
  rw [hi, hs]
  rw [Bool.and_self, if_pos rfl]
  congr 1
  have : ∀ (l : List Int) (q : List PyData), D.toPys (zs l) = some q → (q.any fun z => PyData.eqv z (.int i)) = decide (i ∈ l) := by
    intro l
    induction l with
    | nil => intro q hq; cases hq; rfl
    | cons x l ih =>
      intro q hq
      have hq : (match D.toPy (.int x), D.toPys (zs l) with
        | some p, some q => some (p :: q)
        | _, _ => none) = some q := hq
      cases hz : D.toPys (zs l) with
      | none => rw [hz] at hq; cases hq
      | some q' =>
        rw [hz] at hq
        cases hq
        rw [List.any_cons, ih q' hz]
        have : PyData.eqv (.int x) (.int i) = decide (x = i) := rfl
        rw [this]
        by_cases e : x = i
        · subst e; simp
        · have : ¬ i = x := fun q => e q.symm
          simp [e, this]
  exact this l q h1
theorem inD_nats (k : Nat) (l : List Nat) : inD (.int (k : Int)) (.lst (nats l)) = some (decide (k ∈ l)) := by
  rw [nats_zs, inD_zs]
  congr 1
  apply decide_eq_decide.mpr
  rw [List.mem_map]
  constructor
  · rintro ⟨a, ha, e⟩; have : a = k := by omega
    exact this ▸ ha
  · intro h; exact ⟨k, h, rfl⟩
theorem c_in (a b : D) : cmpD .In a b = inD a b := rfl
theorem c_nin (a b : D) : cmpD .NotIn a b = (inD a b).map (!·) := rfl
theorem hasall_ok (s : S) (some_ others : List Nat) : fhas_all [.lst (nats some_), .lst (nats others)] s = some (.bl (others.all fun k => decide (k ∈ some_)), s) := by
  have key : ∀ (l : List Nat) (x2 : Slot), (∃ y, forE (mBd 2) (sq [sIf [] (tE (mCmp .NotIn (mB 2) (mB 0))) [sRet (mK (.bl false))] []]) (nats l) [.v (.lst (nats some_)), .v (.lst (nats others)), x2] s = some (.nx [.v (.lst (nats some_)), .v (.lst (nats others)), y] s) ∧ (l.all fun k => decide (k ∈ some_)) = true) ∨
      (forE (mBd 2) (sq [sIf [] (tE (mCmp .NotIn (mB 2) (mB 0))) [sRet (mK (.bl false))] []]) (nats l) [.v (.lst (nats some_)), .v (.lst (nats others)), x2] s = some (.rt (.bl false) s) ∧ (l.all fun k => decide (k ∈ some_)) = false) := by
    intro l
    induction l with
    | nil => intro x2; exact .inl ⟨x2, rfl, rfl⟩
    | cons k l ih =>
      intro x2
      by_cases h : k ∈ some_
      · have hstep : sq [sIf [] (tE (mCmp .NotIn (mB 2) (mB 0))) [sRet (mK (.bl false))] []] [.v (.lst (nats some_)), .v (.lst (nats others)), .v (.int (k : Int))] s = some (.nx [.v (.lst (nats some_)), .v (.lst (nats others)), .v (.int (k : Int))] s) := by
          simp [c_nin, inD_nats, h]
        have e : forE (mBd 2) (sq [sIf [] (tE (mCmp .NotIn (mB 2) (mB 0))) [sRet (mK (.bl false))] []]) (nats (k :: l)) [.v (.lst (nats some_)), .v (.lst (nats others)), x2] s = forE (mBd 2) (sq [sIf [] (tE (mCmp .NotIn (mB 2) (mB 0))) [sRet (mK (.bl false))] []]) (nats l) [.v (.lst (nats some_)), .v (.lst (nats others)), .v (.int (k : Int))] s := by
          show forE _ _ (D.int (k : Int) :: nats l) _ _ = _
          rw [forE, x_bd]
          dsimp only [List.set_cons_succ, List.set_cons_zero]
          rw [hstep]
        rw [e, List.all_cons, decide_eq_true h, Bool.true_and]
        exact ih _
      · right
        have hstep : sq [sIf [] (tE (mCmp .NotIn (mB 2) (mB 0))) [sRet (mK (.bl false))] []] [.v (.lst (nats some_)), .v (.lst (nats others)), .v (.int (k : Int))] s = some (.rt (.bl false) s) := by
          simp [c_nin, inD_nats, h]
        refine ⟨?_, by rw [List.all_cons, decide_eq_false h]; rfl⟩
        show forE _ _ (D.int (k : Int) :: nats l) _ _ = _
        rw [forE, x_bd]
        dsimp only [List.set_cons_succ, List.set_cons_zero]
        rw [hstep]
  refine dfn_rt rfl ?_
  rcases key others .un with ⟨y, h1, h2⟩ | ⟨h1, h2⟩
  · rw [h2]; simp only [mhas_all, q_cons, z_for, List.map_cons, List.map_nil, List.length_cons, List.length_nil]
    simp at h1 ⊢
    rw [h1]; simp
  · rw [h2]; simp at h1 ⊢
    rw [h1]; simp
end CH

set_option maxRecDepth 100000
/-! Reckoning: the cone. -/
namespace CH
open PySem
open CM (dI opp unitL tightL bothL sideL cutL turnL turnF led mate coneK coneStep coneL crossing gD_lt gD_ge)
/-! more slots -/
@[simp] theorem gS10 (a0 a1 a2 a3 a4 a5 a6 a7 a8 a9 x : Slot) (r : Rho) : getS (a0 :: a1 :: a2 :: a3 :: a4 :: a5 :: a6 :: a7 :: a8 :: a9 :: x :: r) 10 = x := rfl
@[simp] theorem gS11 (a0 a1 a2 a3 a4 a5 a6 a7 a8 a9 a10 x : Slot) (r : Rho) : getS (a0 :: a1 :: a2 :: a3 :: a4 :: a5 :: a6 :: a7 :: a8 :: a9 :: a10 :: x :: r) 11 = x := rfl
@[simp] theorem gS12 (a0 a1 a2 a3 a4 a5 a6 a7 a8 a9 a10 a11 x : Slot) (r : Rho) : getS (a0 :: a1 :: a2 :: a3 :: a4 :: a5 :: a6 :: a7 :: a8 :: a9 :: a10 :: a11 :: x :: r) 12 = x := rfl
@[simp] theorem gS13 (a0 a1 a2 a3 a4 a5 a6 a7 a8 a9 a10 a11 a12 x : Slot) (r : Rho) : getS (a0 :: a1 :: a2 :: a3 :: a4 :: a5 :: a6 :: a7 :: a8 :: a9 :: a10 :: a11 :: a12 :: x :: r) 13 = x := rfl
@[simp] theorem gS14 (a0 a1 a2 a3 a4 a5 a6 a7 a8 a9 a10 a11 a12 a13 x : Slot) (r : Rho) : getS (a0 :: a1 :: a2 :: a3 :: a4 :: a5 :: a6 :: a7 :: a8 :: a9 :: a10 :: a11 :: a12 :: a13 :: x :: r) 14 = x := rfl
@[simp] theorem gS15 (a0 a1 a2 a3 a4 a5 a6 a7 a8 a9 a10 a11 a12 a13 a14 x : Slot) (r : Rho) : getS (a0 :: a1 :: a2 :: a3 :: a4 :: a5 :: a6 :: a7 :: a8 :: a9 :: a10 :: a11 :: a12 :: a13 :: a14 :: x :: r) 15 = x := rfl
@[simp] theorem gS16 (a0 a1 a2 a3 a4 a5 a6 a7 a8 a9 a10 a11 a12 a13 a14 a15 x : Slot) (r : Rho) : getS (a0 :: a1 :: a2 :: a3 :: a4 :: a5 :: a6 :: a7 :: a8 :: a9 :: a10 :: a11 :: a12 :: a13 :: a14 :: a15 :: x :: r) 16 = x := rfl
@[simp] theorem gS17 (a0 a1 a2 a3 a4 a5 a6 a7 a8 a9 a10 a11 a12 a13 a14 a15 a16 x : Slot) (r : Rho) : getS (a0 :: a1 :: a2 :: a3 :: a4 :: a5 :: a6 :: a7 :: a8 :: a9 :: a10 :: a11 :: a12 :: a13 :: a14 :: a15 :: a16 :: x :: r) 17 = x := rfl
@[simp] theorem gS18 (a0 a1 a2 a3 a4 a5 a6 a7 a8 a9 a10 a11 a12 a13 a14 a15 a16 a17 x : Slot) (r : Rho) : getS (a0 :: a1 :: a2 :: a3 :: a4 :: a5 :: a6 :: a7 :: a8 :: a9 :: a10 :: a11 :: a12 :: a13 :: a14 :: a15 :: a16 :: a17 :: x :: r) 18 = x := rfl
@[simp] theorem gS19 (a0 a1 a2 a3 a4 a5 a6 a7 a8 a9 a10 a11 a12 a13 a14 a15 a16 a17 a18 x : Slot) (r : Rho) : getS (a0 :: a1 :: a2 :: a3 :: a4 :: a5 :: a6 :: a7 :: a8 :: a9 :: a10 :: a11 :: a12 :: a13 :: a14 :: a15 :: a16 :: a17 :: a18 :: x :: r) 19 = x := rfl
@[simp] theorem gS20 (a0 a1 a2 a3 a4 a5 a6 a7 a8 a9 a10 a11 a12 a13 a14 a15 a16 a17 a18 a19 x : Slot) (r : Rho) : getS (a0 :: a1 :: a2 :: a3 :: a4 :: a5 :: a6 :: a7 :: a8 :: a9 :: a10 :: a11 :: a12 :: a13 :: a14 :: a15 :: a16 :: a17 :: a18 :: a19 :: x :: r) 20 = x := rfl
@[simp] theorem gS21 (a0 a1 a2 a3 a4 a5 a6 a7 a8 a9 a10 a11 a12 a13 a14 a15 a16 a17 a18 a19 a20 x : Slot) (r : Rho) : getS (a0 :: a1 :: a2 :: a3 :: a4 :: a5 :: a6 :: a7 :: a8 :: a9 :: a10 :: a11 :: a12 :: a13 :: a14 :: a15 :: a16 :: a17 :: a18 :: a19 :: a20 :: x :: r) 21 = x := rfl
@[simp] theorem gS22 (a0 a1 a2 a3 a4 a5 a6 a7 a8 a9 a10 a11 a12 a13 a14 a15 a16 a17 a18 a19 a20 a21 x : Slot) (r : Rho) : getS (a0 :: a1 :: a2 :: a3 :: a4 :: a5 :: a6 :: a7 :: a8 :: a9 :: a10 :: a11 :: a12 :: a13 :: a14 :: a15 :: a16 :: a17 :: a18 :: a19 :: a20 :: a21 :: x :: r) 22 = x := rfl
@[simp] theorem gS23 (a0 a1 a2 a3 a4 a5 a6 a7 a8 a9 a10 a11 a12 a13 a14 a15 a16 a17 a18 a19 a20 a21 a22 x : Slot) (r : Rho) : getS (a0 :: a1 :: a2 :: a3 :: a4 :: a5 :: a6 :: a7 :: a8 :: a9 :: a10 :: a11 :: a12 :: a13 :: a14 :: a15 :: a16 :: a17 :: a18 :: a19 :: a20 :: a21 :: a22 :: x :: r) 23 = x := rfl
@[simp] theorem gS24 (a0 a1 a2 a3 a4 a5 a6 a7 a8 a9 a10 a11 a12 a13 a14 a15 a16 a17 a18 a19 a20 a21 a22 a23 x : Slot) (r : Rho) : getS (a0 :: a1 :: a2 :: a3 :: a4 :: a5 :: a6 :: a7 :: a8 :: a9 :: a10 :: a11 :: a12 :: a13 :: a14 :: a15 :: a16 :: a17 :: a18 :: a19 :: a20 :: a21 :: a22 :: a23 :: x :: r) 24 = x := rfl
@[simp] theorem gS25 (a0 a1 a2 a3 a4 a5 a6 a7 a8 a9 a10 a11 a12 a13 a14 a15 a16 a17 a18 a19 a20 a21 a22 a23 a24 x : Slot) (r : Rho) : getS (a0 :: a1 :: a2 :: a3 :: a4 :: a5 :: a6 :: a7 :: a8 :: a9 :: a10 :: a11 :: a12 :: a13 :: a14 :: a15 :: a16 :: a17 :: a18 :: a19 :: a20 :: a21 :: a22 :: a23 :: a24 :: x :: r) 25 = x := rfl
@[simp] theorem gS26 (a0 a1 a2 a3 a4 a5 a6 a7 a8 a9 a10 a11 a12 a13 a14 a15 a16 a17 a18 a19 a20 a21 a22 a23 a24 a25 x : Slot) (r : Rho) : getS (a0 :: a1 :: a2 :: a3 :: a4 :: a5 :: a6 :: a7 :: a8 :: a9 :: a10 :: a11 :: a12 :: a13 :: a14 :: a15 :: a16 :: a17 :: a18 :: a19 :: a20 :: a21 :: a22 :: a23 :: a24 :: a25 :: x :: r) 26 = x := rfl
@[simp] theorem gS27 (a0 a1 a2 a3 a4 a5 a6 a7 a8 a9 a10 a11 a12 a13 a14 a15 a16 a17 a18 a19 a20 a21 a22 a23 a24 a25 a26 x : Slot) (r : Rho) : getS (a0 :: a1 :: a2 :: a3 :: a4 :: a5 :: a6 :: a7 :: a8 :: a9 :: a10 :: a11 :: a12 :: a13 :: a14 :: a15 :: a16 :: a17 :: a18 :: a19 :: a20 :: a21 :: a22 :: a23 :: a24 :: a25 :: a26 :: x :: r) 27 = x := rfl
@[simp] theorem gS28 (a0 a1 a2 a3 a4 a5 a6 a7 a8 a9 a10 a11 a12 a13 a14 a15 a16 a17 a18 a19 a20 a21 a22 a23 a24 a25 a26 a27 x : Slot) (r : Rho) : getS (a0 :: a1 :: a2 :: a3 :: a4 :: a5 :: a6 :: a7 :: a8 :: a9 :: a10 :: a11 :: a12 :: a13 :: a14 :: a15 :: a16 :: a17 :: a18 :: a19 :: a20 :: a21 :: a22 :: a23 :: a24 :: a25 :: a26 :: a27 :: x :: r) 28 = x := rfl
@[simp] theorem gS29 (a0 a1 a2 a3 a4 a5 a6 a7 a8 a9 a10 a11 a12 a13 a14 a15 a16 a17 a18 a19 a20 a21 a22 a23 a24 a25 a26 a27 a28 x : Slot) (r : Rho) : getS (a0 :: a1 :: a2 :: a3 :: a4 :: a5 :: a6 :: a7 :: a8 :: a9 :: a10 :: a11 :: a12 :: a13 :: a14 :: a15 :: a16 :: a17 :: a18 :: a19 :: a20 :: a21 :: a22 :: a23 :: a24 :: a25 :: a26 :: a27 :: a28 :: x :: r) 29 = x := rfl
/-! loops -/
theorem forE_ret {α : Type} {bd : D → Rho → Option Rho} {body : Rho → S → Option Out} {s : S} (f : α → D) (P : α → Bool) (d : D) (J : Rho → Prop) : ∀ (l : List α),
    (∀ x ∈ l, ∀ r, J r → ∃ r1, bd (f x) r = some r1 ∧ (P x = true → ∃ r2, body r1 s = some (.nx r2 s) ∧ J r2) ∧ (P x = false → body r1 s = some (.rt d s))) →
    ∀ r, J r → (l.all P = true ∧ ∃ r', forE bd body (l.map f) r s = some (.nx r' s) ∧ J r') ∨ (l.all P = false ∧ forE bd body (l.map f) r s = some (.rt d s))
  | [], _, r, j => .inl ⟨rfl, r, rfl, j⟩
  | x :: l, h, r, j => by
    obtain ⟨r1, h1, h2, h3⟩ := h x List.mem_cons_self r j
    cases hp : P x with
    | true =>
      obtain ⟨r2, h4, j2⟩ := h2 hp
      have e : forE bd body ((x :: l).map f) r s = forE bd body (l.map f) r2 s := by
        rw [List.map_cons, forE, h1]
        dsimp only
        rw [h4]
      rw [e, List.all_cons, hp, Bool.true_and]
      exact forE_ret f P d J l (fun y hy => h y (List.mem_cons_of_mem _ hy)) r2 j2
    | false =>
      refine .inr ⟨by rw [List.all_cons, hp]; rfl, ?_⟩
      rw [List.map_cons, forE, h1]
      dsimp only
      rw [h3 hp]
theorem forE_fold {α β : Type} {bd : D → Rho → Option Rho} {body : Rho → S → Option Out} {s : S} (f : α → D) (g : β → α → β) (J : β → Rho → Prop) : ∀ (l : List α),
    (∀ x ∈ l, ∀ a r, J a r → ∃ r1 r2, bd (f x) r = some r1 ∧ body r1 s = some (.nx r2 s) ∧ J (g a x) r2) →
    ∀ a r, J a r → ∃ r', forE bd body (l.map f) r s = some (.nx r' s) ∧ J (l.foldl g a) r'
  | [], _, a, r, j => ⟨r, rfl, j⟩
  | x :: l, h, a, r, j => by
    obtain ⟨r1, r2, h1, h2, j2⟩ := h x List.mem_cons_self a r j
    obtain ⟨r', h3, j3⟩ := forE_fold f g J l (fun y hy => h y (List.mem_cons_of_mem _ hy)) _ r2 j2
    refine ⟨r', ?_, j3⟩
    rw [List.map_cons, forE, h1]
    dsimp only
    rw [h2]
    exact h3
theorem forE_range {bd : D → Rho → Option Rho} {body : Rho → S → Option Out} {s : S} (J : Nat → Rho → Prop) (m : Nat) (h : ∀ k, k < m → ∀ r, J k r → ∃ r1 r2, bd (.int (k : Int)) r = some r1 ∧ body r1 s = some (.nx r2 s) ∧ J (k + 1) r2) (r : Rho) (j : J 0 r) :
    ∃ r', forE bd body (nats (List.range m)) r s = some (.nx r' s) ∧ J m r' := by
  have key : ∀ c a, a + c = m → ∀ r, J a r → ∃ r', forE bd body (nats (List.range' a c)) r s = some (.nx r' s) ∧ J m r' := by
    intro c
    induction c with
    | zero => intro a e r j; exact ⟨r, rfl, by rw [← e]; exact j⟩
    | succ c ih =>
      intro a e r j
      obtain ⟨r1, r2, h1, h2, j2⟩ := h a (by omega) r j
      obtain ⟨r', h3, j3⟩ := ih (a + 1) (by omega) r2 j2
      refine ⟨r', ?_, j3⟩
      show forE bd body (D.int (a : Int) :: nats (List.range' (a + 1) c)) r s = _
      rw [forE, h1]
      dsimp only
      rw [h2]
      exact h3
  rw [List.range_eq_range']
  exact key m 0 (by omega) r j
theorem foldl_fm {α β : Type} (p : α → Bool) (g : α → β) : ∀ (l : List α) (acc : List β), l.foldl (fun acc x => if p x = true then acc ++ [g x] else acc) acc = acc ++ (l.filter p).map g
  | [], acc => by simp
  | x :: l, acc => by
    rw [List.foldl_cons, foldl_fm p g l]
    by_cases h : p x = true
    · rw [if_pos h, List.filter_cons_of_pos h]; simp
    · rw [if_neg h, List.filter_cons_of_neg h]
theorem foldl_flat {α β : Type} (g : α → List β) : ∀ (l : List α) (acc : List β), l.foldl (fun acc x => acc ++ g x) acc = acc ++ l.flatMap g
  | [], acc => by simp
  | x :: l, acc => by rw [List.foldl_cons, foldl_flat g l]; simp
/-! sizes -/
theorem dI_bd {a b : List Int} {i j : Nat} (ha : Bd i a) (hb : Bd j b) (hl : a.length ≤ 1000) : (dI a b).natAbs < 2 ^ (i + j + 10) := by
  have key : ∀ (a b : List Int), Bd i a → Bd j b → (dI a b).natAbs ≤ a.length * 2 ^ (i + j) := by
    intro a
    induction a with
    | nil => intro b _ _; show (0 : Nat) ≤ _; exact Nat.zero_le _
    | cons x a ih =>
      intro b ha hb
      cases b with
      | nil => show (0 : Nat) ≤ _; exact Nat.zero_le _
      | cons y b =>
        have e : dI (x :: a) (y :: b) = x * y + dI a b := by simp [dI]
        have h1 := ih b (fun z hz => ha z (List.mem_cons_of_mem _ hz)) (fun z hz => hb z (List.mem_cons_of_mem _ hz))
        have h2 := mul_lt (ha x List.mem_cons_self) (hb y List.mem_cons_self)
        rw [e, List.length_cons, Nat.succ_mul]
        omega
  have h := key a b ha hb
  have h1 : a.length * 2 ^ (i + j) ≤ 1000 * 2 ^ (i + j) := Nat.mul_le_mul_right _ hl
  have h2 : 2 ^ (i + j + 10) = 1024 * 2 ^ (i + j) := by rw [Nat.pow_add, Nat.mul_comm]
  have h3 : 0 < 2 ^ (i + j) := Nat.pow_pos (by decide)
  omega
theorem opp_bd {a : List Int} {i : Nat} (h : Bd i a) : Bd i (opp a) := fun z hz => by
  obtain ⟨x, hx, rfl⟩ := List.mem_map.mp hz
  have := h x hx
  omega
theorem neg0_bd {x : Int} {i : Nat} (h : x.natAbs < 2 ^ i) : (0 - x).natAbs < 2 ^ i := by omega
/-- a blend with products as factors -/
theorem blend2_ok {a b : List Int} {m n : Int} (s : S) {i B : Nat} (ha : Bd B a) (hb : Bd B b) (hm : m.natAbs < 2 ^ (i + B + 10)) (hn : n.natAbs < 2 ^ (i + B + 10)) (hk : 2 * B + i + 10 ≤ 59999999) (hl : a.length ≤ 1000) :
    fblend [vec a, .int m, vec b, .int n] s = some (vec (lowL (bl a m b n)), s) :=
  blend_ok s (i := B) (j := B) (k := 2 * B + i + 10) ha hb (by rw [show 2 * B + i + 10 - B = i + B + 10 by omega]; exact hm) (by rw [show 2 * B + i + 10 - B = i + B + 10 by omega]; exact hn) (by omega) (by omega) hk hl
/-! side by side -/
def natss (T : List (List Nat)) : List D := T.map fun t => .lst (nats t)
theorem natss_len (T : List (List Nat)) : (natss T).length = T.length := by simp [natss]
theorem at_natss {T : List (List Nat)} {k : Nat} (h : k < T.length) : atD (natss T) (k : Int) = some (.lst (nats (T.getD k []))) := by
  have h1 : k < (natss T).length := by rw [natss_len]; exact h
  rw [at_nat h1, gD_lt _ h]
  simp [natss]
theorem side_ok {T : List (List Nat)} (s : S) {i j : Nat} (least : Int) (hi : i < T.length) (hj : j < T.length) (hT : T.length ≤ 1000000) (hl : ∀ t ∈ T, t.length < line) :
    fside_by_side [.lst (natss T), .int i, .int j, .int least] s = some (.bl (sideL T i j least), s) := by
  have hb : ∀ x4 x5, compE (mBd 6) (tE (mCmp .In (mB 6) (mIx (mB 0) (mV 2)))) (mV 6) [.v (.lst (natss T)), .v (.int i), .v (.int j), .v (.int least), x4, x5, .un] (nats (T.getD i [])) s = some (nats (bothL T i j), s) := fun x4 x5 =>
    compE_filter (fun (k : Nat) => D.int (k : Int)) (fun k => decide (k ∈ T.getD j [])) (fun (k : Nat) => D.int (k : Int)) (T.getD i []) fun k _ =>
      ⟨_, rfl, by simp [-List.getD_eq_getElem?_getD, at_natss hj, c_in, inD_nats], fun _ => by simp⟩
  have hli : (T.getD i []).length < line := by rw [gD_lt _ hi]; exact hl _ (List.getElem_mem hi)
  refine dfn_rt rfl ?_
  by_cases hs : ((bothL T i j).length : Int) < least
  · have e : sideL T i j least = false := by unfold sideL; rw [decide_eq_true hs]; rfl
    rw [e]
    simp [-List.getD_eq_getElem?_getD, at_natss hi, nats_len, hli, hb, hs]
  · have key := forE_ret (s := s) (bd := mBd 5) (body := sq [sIf [5, 4] (tAnd [(tE (mCmp .NotEq (mB 5) (mB 1))), (tE (mCmp .NotEq (mB 5) (mB 2))), (tE (mCall fhas_all [(mIx (mB 0) (mV 5)), (mV 4)]))]) [sRet (mK (.bl false))] []]) (fun (k : Nat) => D.int (k : Int))
      (fun t => !(!decide (t = i) && !decide (t = j) && (bothL T i j).all fun k => decide (k ∈ T.getD t []))) (.bl false) (fun r => ∃ x5, r = [.v (.lst (natss T)), .v (.int i), .v (.int j), .v (.int least), .v (.lst (nats (bothL T i j))), x5, .un]) (List.range T.length) (by
        intro t ht r hr
        obtain ⟨x5, rfl⟩ := hr
        have ht := List.mem_range.mp ht
        refine ⟨_, rfl, fun h => ?_, fun h => ?_⟩
        · refine ⟨[.v (.lst (natss T)), .v (.int i), .v (.int j), .v (.int least), .v (.lst (nats (bothL T i j))), .v (.int t), .un], ?_, _, rfl⟩
          by_cases e1 : t = i
          · subst e1; simp
          · have e1' : ¬ (t : Int) = (i : Int) := by omega
            by_cases e2 : t = j
            · subst e2; simp [e1']
            · have e2' : ¬ (t : Int) = (j : Int) := by omega
              rw [decide_eq_false e1, decide_eq_false e2] at h
              have h : ((bothL T i j).all fun k => decide (k ∈ T.getD t [])) = false := by simpa using h
              simp [-List.getD_eq_getElem?_getD, e1', e2', at_natss ht, hasall_ok, h]
        · have h : (!decide (t = i) && !decide (t = j) && (bothL T i j).all fun k => decide (k ∈ T.getD t [])) = true := by rw [← Bool.not_eq_false', h]
          rw [Bool.and_eq_true, Bool.and_eq_true] at h
          have e1 : ¬ (t : Int) = (i : Int) := by have := h.1.1; simp at this; omega
          have e2 : ¬ (t : Int) = (j : Int) := by have := h.1.2; simp at this; omega
          simp [-List.getD_eq_getElem?_getD, e1, e2, at_natss ht, hasall_ok, h.2]) _ ⟨.un, rfl⟩
    have e : sideL T i j least = (List.range T.length).all fun t => !(!decide (t = i) && !decide (t = j) && (bothL T i j).all fun k => decide (k ∈ T.getD t [])) := by unfold sideL; rw [decide_eq_false hs]; rfl
    rw [e]
    rcases key with ⟨h1, r', h2, x5, rfl⟩ | ⟨h1, h2⟩
    · rw [h1]
      simp [-List.getD_eq_getElem?_getD, at_natss hi, nats_len, hli, hb, hs, natss_len, r_nat hT]
      rw [show nats (List.range T.length) = (List.range T.length).map fun (k : Nat) => D.int (k : Int) from rfl, h2]
      simp
    · rw [h1]
      simp [-List.getD_eq_getElem?_getD, at_natss hi, nats_len, hli, hb, hs, natss_len, r_nat hT]
      rw [show nats (List.range T.length) = (List.range T.length).map fun (k : Nat) => D.int (k : Int) from rfl, h2]
      simp
end CH

set_option maxRecDepth 100000
namespace CH
open PySem
open CM (dI opp unitL tightL bothL sideL cutL turnL turnF led mate coneK coneStep coneL crossing gD_lt gD_ge opp_len)
theorem forE_pre {α : Type} {bd : D → Rho → Option Rho} {body : Rho → S → Option Out} {s : S} (f : α → D) (J : List α → Rho → Prop) (l : List α)
    (h : ∀ pre x post, l = pre ++ x :: post → ∀ r, J pre r → ∃ r1 r2, bd (f x) r = some r1 ∧ body r1 s = some (.nx r2 s) ∧ J (pre ++ [x]) r2) (r : Rho) (j : J [] r) :
    ∃ r', forE bd body (l.map f) r s = some (.nx r' s) ∧ J l r' := by
  have key : ∀ post pre, l = pre ++ post → ∀ r, J pre r → ∃ r', forE bd body (post.map f) r s = some (.nx r' s) ∧ J l r' := by
    intro post
    induction post with
    | nil => intro pre e r j; exact ⟨r, rfl, by rw [e, List.append_nil]; exact j⟩
    | cons x post ih =>
      intro pre e r j
      obtain ⟨r1, r2, h1, h2, j2⟩ := h pre x post e r j
      obtain ⟨r', h3, j3⟩ := ih (pre ++ [x]) (by rw [e]; simp) r2 j2
      refine ⟨r', ?_, j3⟩
      rw [List.map_cons, forE, h1]
      dsimp only
      rw [h2]
      exact h3
  exact key l [] rfl r j
@[simp] theorem line1 : 1 ≤ line := by decide
@[simp] theorem line2 : 2 ≤ line := by decide
@[simp] theorem line3 : 3 ≤ line := by decide
@[simp] theorem line4 : 4 ≤ line := by decide
theorem vecs_snoc' (L : List (List Int)) (v : List Int) : vecs L ++ [vec v] = vecs (L ++ [v]) := by simp [vecs]
theorem vecs_app (L K : List (List Int)) : vecs L ++ vecs K = vecs (L ++ K) := by simp [vecs]
theorem fm_snoc {α β : Type} (p : α → Bool) (g : α → β) (pre : List α) (x : α) : ((pre ++ [x]).filter p).map g = (pre.filter p).map g ++ (if p x = true then [g x] else []) := by
  rw [List.filter_append, List.map_append]
  congr 1
  by_cases h : p x = true
  · rw [if_pos h, List.filter_cons_of_pos h]; rfl
  · rw [if_neg h, List.filter_cons_of_neg h]; rfl
/-- lengths and sizes of some vectors -/
structure VB (n B : Nat) (L : List (List Int)) : Prop where
  w : ∀ v ∈ L, v.length = n
  b : ∀ v ∈ L, Bd B v
theorem turn_ok {L R : List (List Int)} {row f0 : List Int} (s : S) {n b B : Nat} (hL : VB n B L) (hR : VB n B R) (hrow : row.length = n) (hrb : Bd b row) (hf : f0.length = n) (hfb : Bd B f0) (hn : n ≤ 1000) (hB : 2 * B + b + 10 ≤ 59999999) (hl : L.length < line) (hr : R.length + 1 ≤ line) :
    fturned_line [.lst (vecs L), .lst (vecs R), vec row, vec f0] s = some (.tup [.lst (vecs (turnL L R row f0).1), .lst (vecs (turnL L R row f0).2)], s) := by
  have hnl : n < line := by rw [line_val]; omega
  have dok : ∀ v : List Int, v.length = n → Bd B v → fdot [vec row, vec v] s = some (.int (dI row v), s) := fun v hv hb => dot_ok s hrb hb (by omega) (by omega) (by rw [hrow]; exact hnl)
  obtain ⟨f, hff⟩ : ∃ f, turnF row f0 = f := ⟨_, rfl⟩
  have hflen : f.length = n := by rw [← hff]; unfold turnF; split; rw [opp_len, hf]; exact hf
  have hfbd : Bd B f := by rw [← hff]; unfold turnF; split; exact opp_bd hfb; exact hfb
  have hm := dI_bd hrb hfbd (by rw [hrow]; exact hn)
  have bok : ∀ v : List Int, v.length = n → Bd B v → fblend [vec v, .int (dI row f), vec f, .int (0 - dI row v)] s = some (vec (led row f v), s) := fun v hv hb =>
    blend2_ok s (i := b) hb hfbd hm (neg0_bd (dI_bd hrb hb (by rw [hrow]; exact hn))) (by omega) (by rw [hv]; exact hn)
  have ook := opp_ok (a := f) s (by rw [hflen]; exact hnl)
  have h0 : ∀ (x4 x5 x6 x7 x8 : Slot), sIf [2, 3] (tE (mCmp .Lt (mCall fdot [(mV 2), (mV 3)]) (mK (.int 0)))) [sSet 3 [3] (mCall fopposite [(mV 3)])] [] [.v (.lst (vecs L)), .v (.lst (vecs R)), .v (vec row), .v (vec f0), x4, x5, x6, x7, x8] s = some (.nx [.v (.lst (vecs L)), .v (.lst (vecs R)), .v (vec row), .v (vec f), x4, x5, x6, x7, x8] s) := by
    intro x4 x5 x6 x7 x8
    have o0 := opp_ok (a := f0) s (by rw [hf]; exact hnl)
    by_cases h : dI row f0 < 0
    · have : f = opp f0 := by rw [← hff]; unfold turnF; rw [if_pos h]
      simp [dok f0 hf hfb, h, o0, this]
    · have : f = f0 := by rw [← hff]; unfold turnF; rw [if_neg h]
      simp [dok f0 hf hfb, h, this]
  obtain ⟨r', h2, x6, rfl⟩ := forE_pre (s := s) (bd := mBd 6) (body := sq [sIf [3] (tAnd [(tE (mCmp .NotEq (mB 6) (mB 3))), (tE (mCmp .NotEq (mB 6) (mCall fopposite [(mV 3)])))])
        [sApp 5 [6, 4, 3, 2, 6] (mCall fblend [(mV 6), (mV 4), (mV 3), (mBin .Sub (mK (.int 0)) (mCall fdot [(mV 2), (mV 6)]))])]
        []]) vec (fun pre r => ∃ x6 : Slot, r = [.v (.lst (vecs L)), .v (.lst (vecs R)), .v (vec row), .v (vec f), .v (.int (dI row f)), .own (vecs ((pre.filter fun l => !decide (l = f) && !decide (l = opp f)).map (led row f))), x6, .un, .un]) L (by
      rintro pre l post e r ⟨x6, rfl⟩
      have hl' : l ∈ L := by rw [e]; simp
      refine ⟨_, _, rfl, ?_, .v (vec l), rfl⟩
      rw [fm_snoc]
      have hlen : ((pre.filter fun l => !decide (l = f) && !decide (l = opp f)).map (led row f)).length < line := by
        rw [List.length_map]
        have h1 := List.length_filter_le (fun l => !decide (l = f) && !decide (l = opp f)) pre
        have h2 : pre.length < L.length := by rw [e]; simp
        omega
      have hlen2 : (vecs ((pre.filter fun l => !decide (l = f) && !decide (l = opp f)).map (led row f))).length < line := by rw [vecs_len]; exact hlen
      by_cases h1 : l = f
      · simp [h1]
      · by_cases h2 : l = opp f
        · have h1' : ¬ opp f = f := fun q => h1 (h2.trans q)
          rw [h2]
          simp [h1', ook]
        · simp [-Int.zero_sub, h1, h2, ook, dok l (hL.w l hl') (hL.b l hl'), bok l (hL.w l hl') (hL.b l hl')]
          rw [if_pos (by simpa using hlen2)]
          simp [vecs]) [.v (.lst (vecs L)), .v (.lst (vecs R)), .v (vec row), .v (vec f), .v (.int (dI row f)), .own [], .un, .un, .un] ⟨.un, rfl⟩
  have h3 : ∀ x6, compE (mBd 8) mTrue (mCall fblend [(mV 8), (mV 4), (mV 3), (mBin .Sub (mK (.int 0)) (mCall fdot [(mV 2), (mV 8)]))]) [.v (.lst (vecs L)), .v (.lst (vecs R)), .v (vec row), .v (vec f), .v (.int (dI row f)), .own (vecs ((L.filter fun l => !decide (l = f) && !decide (l = opp f)).map (led row f))), x6, .un, .un] (vecs R) s = some (vecs (R.map (led row f)), s) := fun x6 =>
    mapv_ev (led row f) R fun v hv => ⟨_, rfl, rfl, by simp [-Int.zero_sub, dok v (hR.w v hv) (hR.b v hv), bok v (hR.w v hv) (hR.b v hv)]⟩
  have hrl : (vecs R).length < line := by rw [vecs_len]; omega
  have e : turnL L R row f0 = ((L.filter fun l => !decide (l = f) && !decide (l = opp f)).map (led row f), R.map (led row f) ++ [f]) := by unfold turnL; rw [hff]
  rw [e]
  refine dfn_rt rfl ?_
  unfold mturned_line
  rw [q_cons, show List.map Slot.v [.lst (vecs L), .lst (vecs R), vec row, vec f0] ++ List.replicate (9 - [D.lst (vecs L), .lst (vecs R), vec row, vec f0].length) .un = [.v (.lst (vecs L)), .v (.lst (vecs R)), .v (vec row), .v (vec f0), .un, .un, .un, .un, .un] from rfl, h0]
  have h2 : forE (mBd 6) (sq [sIf [3] (tAnd [(tE (mCmp .NotEq (mB 6) (mB 3))), (tE (mCmp .NotEq (mB 6) (mCall fopposite [(mV 3)])))])
        [sApp 5 [6, 4, 3, 2, 6] (mCall fblend [(mV 6), (mV 4), (mV 3), (mBin .Sub (mK (.int 0)) (mCall fdot [(mV 2), (mV 6)]))])]
        []]) (vecs L) [.v (.lst (vecs L)), .v (.lst (vecs R)), .v (vec row), .v (vec f), .v (.int (dI row f)), .own [], .un, .un, .un] s = _ := h2
  simp [-Int.zero_sub, -List.map_map, dok f hflen hfbd] at h2 ⊢
  rw [h2]
  have hop : opD .Add (.lst (vecs (R.map (led row f)))) (.lst [vec f]) = some (.lst (vecs (R.map (led row f) ++ [f]))) := by
    show (if _ then _ else _) = _
    rw [if_pos (by simpa [vecs_len] using hr), vecs_snoc']
  simp [-Int.zero_sub, -List.map_map, hrl, h3, hop]
end CH

set_option maxRecDepth 100000
namespace CH
open PySem
open CM (dI opp unitL tightL bothL sideL cutL turnL turnF led mate coneK coneStep coneL crossing gD_lt gD_ge opp_len)
theorem fmj_len {α β : Type} (g : α → List β) : ∀ (pre l : List α) (x : α) (post : List α), l = pre ++ x :: post → (pre.flatMap g).length + (g x).length ≤ (l.flatMap g).length
  | pre, l, x, post, e => by rw [e]; simp [List.flatMap_append]
theorem cut_ok {R : List (List Int)} {row : List Int} {T : List (List Nat)} (least : Int) (s : S) {n b B : Nat} (hR : VB n B R) (hrow : row.length = n) (hrb : Bd b row) (hn : n ≤ 1000) (hB : 2 * B + b + 10 ≤ 59999999) (hr : R.length ≤ 1000000) (hT : T.length = R.length) (hTl : ∀ t ∈ T, t.length < line)
    (hc : (cutL R row T least).length ≤ line) :
    fcut_rays [.lst (vecs R), vec row, .lst (natss T), .int least] s = some (.lst (vecs (cutL R row T least)), s) := by
  have hnl : n < line := by rw [line_val]; omega
  have dok : ∀ v : List Int, v.length = n → Bd B v → fdot [vec row, vec v] s = some (.int (dI row v), s) := fun v hv hb => dot_ok s hrb hb (by omega) (by omega) (by rw [hrow]; exact hnl)
  have dbd : ∀ v : List Int, Bd B v → (dI row v).natAbs < 2 ^ (b + B + 10) := fun v hb => dI_bd hrb hb (by rw [hrow]; exact hn)
  have hrl : (vecs R).length < line := by rw [vecs_len, line_val]; omega
  obtain ⟨W, hW⟩ : ∃ W, (R.map fun r => dI row r) = W := ⟨_, rfl⟩
  have hWl : W.length = R.length := by rw [← hW]; simp
  have atW : ∀ k, k < R.length → atD (zs W) (k : Int) = some (.int (dI row (R.getD k []))) := fun k hk => by
    rw [at_zs (by rw [hWl]; exact hk), ← hW, gD_lt _ (by simpa using hk), List.getElem_map, gD_lt _ hk]
  have h1 : ∀ x4 x5 x6 x7, compE (mBd 8) mTrue (mCall fdot [(mV 1), (mV 8)]) [.v (.lst (vecs R)), .v (vec row), .v (.lst (natss T)), .v (.int least), x4, x5, x6, x7, .un, .un] (vecs R) s = some (zs W, s) := by
    intro x4 x5 x6 x7
    have := compE_map (bd := mBd 8) (t := mTrue) (e := mCall fdot [(mV 1), (mV 8)]) (r := [.v (.lst (vecs R)), .v (vec row), .v (.lst (natss T)), .v (.int least), x4, x5, x6, x7, .un, .un]) (s := s) vec (fun r => D.int (dI row r)) R fun v hv => ⟨_, rfl, rfl, by simp [dok v (hR.w v hv) (hR.b v hv)]⟩
    show compE _ _ _ _ (R.map vec) s = _
    rw [this, ← hW]; simp [zs]
  have h2 : ∀ x5 x6 x7 x8, compE (mBd 9) (tE (mCmp .GtE (mIx (mB 4) (mV 9)) (mK (.int 0)))) (mIx (mB 0) (mV 9)) [.v (.lst (vecs R)), .v (vec row), .v (.lst (natss T)), .v (.int least), .v (.lst (zs W)), x5, x6, x7, x8, .un] (nats (List.range R.length)) s = some (vecs (R.filter fun r => decide (0 ≤ dI row r)), s) := by
    intro x5 x6 x7 x8
    have := compE_filter (bd := mBd 9) (t := (tE (mCmp .GtE (mIx (mB 4) (mV 9)) (mK (.int 0))))) (e := mIx (mB 0) (mV 9)) (r := [.v (.lst (vecs R)), .v (vec row), .v (.lst (natss T)), .v (.int least), .v (.lst (zs W)), x5, x6, x7, x8, .un]) (s := s) (fun (k : Nat) => D.int (k : Int)) (fun k => decide (0 ≤ dI row (R.getD k []))) (fun k => vec (R.getD k [])) (List.range R.length) fun k hk => by
      have hk := List.mem_range.mp hk
      exact ⟨_, rfl, by simp [-List.getD_eq_getElem?_getD, atW k hk], fun _ => by simp [-List.getD_eq_getElem?_getD, at_vecs hk]⟩
    refine (show compE _ _ _ _ ((List.range R.length).map fun (k : Nat) => D.int (k : Int)) s = _ from this).trans ?_
    congr 2
    conv => rhs; rw [← CM.range_getD [] R, List.filter_map]
    simp [vecs]; rfl
  -- the two loops
  obtain ⟨G, hG⟩ : ∃ G : Nat → List (List Int), (fun i => ((List.range R.length).filter fun j => decide (0 < dI row (R.getD i [])) && decide (dI row (R.getD j []) < 0) && sideL T i j least).map fun j => mate row (R.getD i []) (R.getD j [])) = G := ⟨_, rfl⟩
  have hcut : cutL R row T least = (R.filter fun r => decide (0 ≤ dI row r)) ++ (List.range R.length).flatMap G := by rw [← hG]; rfl
  have inner : ∀ i, i < R.length → ∀ (acc : List (List Int)) (x7 : Slot), acc.length + (G i).length ≤ line → ∃ y7, forE (mBd 7) (sq [sIf [6, 7, 2, 6, 7, 3] (tAnd [(tE (mCmp .Gt (mIx (mB 4) (mV 6)) (mK (.int 0)))), (tE (mCmp .Lt (mIx (mB 4) (mV 7)) (mK (.int 0)))), (tE (mCall fside_by_side [(mV 2), (mV 6), (mV 7), (mV 3)]))])
           [sApp 5 [6, 7, 7, 6] (mCall fblend [(mIx (mB 0) (mV 6)), (mBin .Sub (mK (.int 0)) (mIx (mB 4) (mV 7))), (mIx (mB 0) (mV 7)), (mIx (mB 4) (mV 6))])]
           []]) (nats (List.range R.length)) [.v (.lst (vecs R)), .v (vec row), .v (.lst (natss T)), .v (.int least), .v (.lst (zs W)), .own (vecs acc), .v (.int i), x7, .un, .un] s = some (.nx [.v (.lst (vecs R)), .v (vec row), .v (.lst (natss T)), .v (.int least), .v (.lst (zs W)), .own (vecs (acc ++ G i)), .v (.int i), y7, .un, .un] s) := by
    intro i hi acc x7 hacc
    obtain ⟨p, hp⟩ : ∃ p : Nat → Bool, (fun j => decide (0 < dI row (R.getD i [])) && decide (dI row (R.getD j []) < 0) && sideL T i j least) = p := ⟨_, rfl⟩
    have hGi : G i = ((List.range R.length).filter p).map fun j => mate row (R.getD i []) (R.getD j []) := by rw [← hG, ← hp]
    obtain ⟨r', e1, y7, rfl⟩ := forE_pre (s := s) (bd := mBd 7) (body := sq [sIf [6, 7, 2, 6, 7, 3] (tAnd [(tE (mCmp .Gt (mIx (mB 4) (mV 6)) (mK (.int 0)))), (tE (mCmp .Lt (mIx (mB 4) (mV 7)) (mK (.int 0)))), (tE (mCall fside_by_side [(mV 2), (mV 6), (mV 7), (mV 3)]))])
           [sApp 5 [6, 7, 7, 6] (mCall fblend [(mIx (mB 0) (mV 6)), (mBin .Sub (mK (.int 0)) (mIx (mB 4) (mV 7))), (mIx (mB 0) (mV 7)), (mIx (mB 4) (mV 6))])]
           []]) (fun (k : Nat) => D.int (k : Int)) (fun pre r => ∃ y7 : Slot, r = [.v (.lst (vecs R)), .v (vec row), .v (.lst (natss T)), .v (.int least), .v (.lst (zs W)), .own (vecs (acc ++ (pre.filter p).map fun j => mate row (R.getD i []) (R.getD j []))), .v (.int i), y7, .un, .un]) (List.range R.length) (by
        rintro pre j post e r ⟨y7, rfl⟩
        have hj : j < R.length := List.mem_range.mp (by rw [e]; simp)
        refine ⟨_, _, rfl, ?_, .v (.int j), rfl⟩
        rw [fm_snoc]
        have hi' := getD_mem hi
        have hj' := getD_mem hj
        by_cases c1 : 0 < dI row (R.getD i [])
        · by_cases c2 : dI row (R.getD j []) < 0
          · have hsd := side_ok (T := T) s least (i := i) (j := j) (by rw [hT]; exact hi) (by rw [hT]; exact hj) (by rw [hT]; exact hr) hTl
            cases c3 : sideL T i j least with
            | false =>
              have hpj : p j = false := by rw [← hp]; simp [c3]
              simp [-List.getD_eq_getElem?_getD, atW i hi, atW j hj, c1, c2, hsd, c3, hpj]
            | true =>
              have hpj : p j = true := by rw [← hp]; simp [-List.getD_eq_getElem?_getD, c1, c2, c3]
              have hlen : (vecs (acc ++ (pre.filter p).map fun j => mate row (R.getD i []) (R.getD j []))).length < line := by
                rw [vecs_len, List.length_append]
                have h3 : ((pre ++ [j]).filter p).length ≤ ((List.range R.length).filter p).length := by
                  rw [e, show pre ++ j :: post = (pre ++ [j]) ++ post by simp, List.filter_append (pre ++ [j]) post, List.length_append]
                  omega
                rw [List.filter_append, List.length_append, List.filter_cons_of_pos hpj] at h3
                rw [hGi, List.length_map] at hacc
                simp at h3 ⊢
                omega
              have hbl := blend2_ok s (i := b) (B := B) (a := R.getD i []) (b := R.getD j []) (m := 0 - dI row (R.getD j [])) (n := dI row (R.getD i [])) (hR.b _ hi') (hR.b _ hj') (neg0_bd (dbd _ (hR.b _ hj'))) (dbd _ (hR.b _ hi')) hB (by rw [hR.w _ hi']; exact hn)
              simp [-Int.zero_sub, -List.getD_eq_getElem?_getD, -List.map_append, atW i hi, atW j hj, c1, c2, hsd, c3, hpj, at_vecs hi, at_vecs hj, hbl]
              rw [if_pos (by simpa [-List.getD_eq_getElem?_getD] using hlen), vecs_snoc']
              simp [-List.getD_eq_getElem?_getD, mate]
          · have hpj : p j = false := by rw [← hp]; simp [-List.getD_eq_getElem?_getD, c2]
            simp [-List.getD_eq_getElem?_getD, atW i hi, atW j hj, c1, c2, hpj]
        · have hpj : p j = false := by rw [← hp]; simp [-List.getD_eq_getElem?_getD, c1]
          simp [-List.getD_eq_getElem?_getD, atW i hi, atW j hj, c1, hpj]) [.v (.lst (vecs R)), .v (vec row), .v (.lst (natss T)), .v (.int least), .v (.lst (zs W)), .own (vecs acc), .v (.int i), x7, .un, .un] ⟨x7, by simp⟩
    exact ⟨y7, by rw [hGi]; exact e1⟩
  obtain ⟨r', e2, x6, x7, rfl⟩ := forE_pre (s := s) (bd := mBd 6) (body := sq [sFor [] (mRng (mBlt "len" [(mB 0)])) (mBd 7)
        [sIf [6, 7, 2, 6, 7, 3] (tAnd [(tE (mCmp .Gt (mIx (mB 4) (mV 6)) (mK (.int 0)))), (tE (mCmp .Lt (mIx (mB 4) (mV 7)) (mK (.int 0)))), (tE (mCall fside_by_side [(mV 2), (mV 6), (mV 7), (mV 3)]))])
           [sApp 5 [6, 7, 7, 6] (mCall fblend [(mIx (mB 0) (mV 6)), (mBin .Sub (mK (.int 0)) (mIx (mB 4) (mV 7))), (mIx (mB 0) (mV 7)), (mIx (mB 4) (mV 6))])]
           []]]) (fun (k : Nat) => D.int (k : Int)) (fun pre r => ∃ x6 x7 : Slot, r = [.v (.lst (vecs R)), .v (vec row), .v (.lst (natss T)), .v (.int least), .v (.lst (zs W)), .own (vecs ((R.filter fun r => decide (0 ≤ dI row r)) ++ pre.flatMap G)), x6, x7, .un, .un]) (List.range R.length) (by
      rintro pre i post e r ⟨x6, x7, rfl⟩
      have hi : i < R.length := List.mem_range.mp (by rw [e]; simp)
      obtain ⟨y7, h3⟩ := inner i hi ((R.filter fun r => decide (0 ≤ dI row r)) ++ pre.flatMap G) x7 (by
        have := fmj_len G pre _ i post e
        rw [hcut, List.length_append] at hc
        rw [List.length_append]; omega)
      refine ⟨_, _, rfl, ?_, .v (.int i), y7, rfl⟩
      simp only [q_cons, q_nil, z_for, fz_nil, x_rng, x_blt, x_seq, x_seq0, x_b, gS0, bOf_v, bnd_some, b_len2, Option.map_some, intK_int, vecs_len, r_nat hr, List.set_cons_succ, List.set_cons_zero]
      rw [h3]
      simp [List.flatMap_append]) [.v (.lst (vecs R)), .v (vec row), .v (.lst (natss T)), .v (.int least), .v (.lst (zs W)), .own (vecs (R.filter fun r => decide (0 ≤ dI row r))), .un, .un, .un, .un] ⟨.un, .un, by simp⟩
  have e2 : forE (mBd 6) (sq [sFor [] (mRng (mBlt "len" [(mB 0)])) (mBd 7)
        [sIf [6, 7, 2, 6, 7, 3] (tAnd [(tE (mCmp .Gt (mIx (mB 4) (mV 6)) (mK (.int 0)))), (tE (mCmp .Lt (mIx (mB 4) (mV 7)) (mK (.int 0)))), (tE (mCall fside_by_side [(mV 2), (mV 6), (mV 7), (mV 3)]))])
           [sApp 5 [6, 7, 7, 6] (mCall fblend [(mIx (mB 0) (mV 6)), (mBin .Sub (mK (.int 0)) (mIx (mB 4) (mV 7))), (mIx (mB 0) (mV 7)), (mIx (mB 4) (mV 6))])]
           []]]) (nats (List.range R.length)) _ s = _ := e2
  rw [← hcut] at e2
  have hrl' : R.length < line := by rw [line_val]; omega
  refine dfn_rt rfl ?_
  simp only [mcut_rays, q_cons, List.map_cons, List.map_nil, List.length_cons, List.length_nil, z_set, z_own, z_ret, z_for]
  simp [-List.map_map, hrl, h1, vecs_len, r_nat hr, nats_len, hrl', h2]
  rw [e2]
  simp
end CH

set_option maxRecDepth 100000
namespace CH
open PySem
open CM (dI opp unitL tightL bothL sideL cutL turnL turnF led mate coneK coneStep coneL crossing gD_lt gD_ge opp_len CI ch coneK_ok)
theorem cut_head {l : List D} {k : Nat} (h : k ≤ l.length) : cutD l none (some (k : Int)) = l.take k := by
  have h1 : ¬ ((k : Int) < 0) := by omega
  simp [cutD, sIx, h1]
theorem small_pow {n m c : Nat} (hc : 1 ≤ c) (h : m ≤ n) : (2 * m * c) ^ (m - 1) ≤ (2 * n * c) ^ (n - 1) := by
  rcases Nat.eq_zero_or_pos n with rfl | hn
  · have : m = 0 := by omega
    subst this; exact Nat.le_refl _
  · have h1 : (2 * m * c) ^ (m - 1) ≤ (2 * n * c) ^ (m - 1) := Nat.pow_le_pow_left (Nat.mul_le_mul_right _ (Nat.mul_le_mul_left _ h)) _
    exact Nat.le_trans h1 (Nat.pow_le_pow_right (Nat.mul_pos (by omega) hc) (by omega))
/-- what is asked of rows, that their cone is reckoned within the model's limits -/
structure Rk (n b B : Nat) (rows : List (List Int)) : Prop where
  w : ∀ a ∈ rows, a.length = n
  bd : ∀ a ∈ rows, Bd b a
  n1 : 1 ≤ n
  n2 : n ≤ 1000
  B1 : (2 * n * 2 ^ b) ^ (n - 1) < 2 ^ B
  B2 : 2 * B + b + 10 ≤ 59999999
  len : rows.length ≤ 1000000
  cnt : ∀ k, k ≤ rows.length → ∀ j, j < n → ch k j ≤ 1000000
theorem Rk.state {n b B : Nat} {rows : List (List Int)} (H : Rk n b B rows) (k : Nat) (hk : k ≤ rows.length) :
    VB n B (coneK rows n k).1 ∧ VB n B (coneK rows n k).2 ∧ (coneK rows n k).1.length ≤ n ∧ (coneK rows n k).2.length ≤ 1000000 := by
  obtain ⟨M, R, e, C⟩ := coneK_ok H.w k hk
  rw [e]
  have hc : 1 ≤ 2 ^ b := Nat.pow_pos (by decide)
  have hA : ∀ a ∈ rows.take k, ∀ z ∈ a, z.natAbs ≤ 2 ^ b := fun a ha z hz => Nat.le_of_lt (H.bd a (List.mem_of_mem_take ha) z hz)
  refine ⟨⟨?_, ?_⟩, ⟨C.wR, ?_⟩, by rw [List.length_map]; exact C.lenM, ?_⟩
  · intro v hv
    obtain ⟨x, hx, rfl⟩ := List.mem_map.mp hv
    exact C.wM x hx
  · intro v hv
    obtain ⟨x, hx, rfl⟩ := List.mem_map.mp hv
    intro z hz
    have h1 := C.line_small hc hA hx z hz
    have h2 := small_pow (m := n - (M.length - 1)) (n := n) hc (by omega)
    exact Nat.lt_of_le_of_lt (Nat.le_trans h1 h2) H.B1
  · intro r hr z hz
    have h1 := C.ray_small hc hA hr z hz
    have h2 := small_pow (m := n - M.length) (n := n) hc (by omega)
    exact Nat.lt_of_le_of_lt (Nat.le_trans h1 h2) H.B1
  · have h1 := C.count
    have h2 := H.cnt k hk (n - M.length - 1) (by have := H.n1; omega)
    rw [List.length_take, Nat.min_eq_left hk] at h1
    exact Nat.le_trans h1 h2
theorem coneK_succ (rows : List (List Int)) (n k : Nat) : coneK rows n (k + 1) = coneStep rows n k (coneK rows n k) := rfl
theorem cone_ok {n b B : Nat} {rows : List (List Int)} (s : S) (H : Rk n b B rows) : fcone [.lst (vecs rows), .int n] s = some (.tup [.lst (vecs (coneL rows n).1), .lst (vecs (coneL rows n).2)], s) := by
  have hn2 := H.n2
  have hnl : n < line := by rw [line_val]; omega
  have hu : ∀ x2 x3, compE (mBd 4) mTrue (mCall funit [(mV 1), (mV 4)]) [.v (.lst (vecs rows)), .v (.int n), x2, x3, .un, .un, .un, .un, .un] (nats (List.range n)) s = some (vecs ((List.range n).map (unitL n)), s) := by
    intro x2 x3
    have := compE_map (bd := mBd 4) (t := mTrue) (e := mCall funit [(mV 1), (mV 4)]) (r := [.v (.lst (vecs rows)), .v (.int n), x2, x3, .un, .un, .un, .un, .un]) (s := s) (fun (k : Nat) => D.int (k : Int)) (fun k => vec (unitL n k)) (List.range n) fun k _ => ⟨_, rfl, rfl, by simp [unit_ok s (show n ≤ 1000000 by omega)]⟩
    refine (show compE _ _ _ _ ((List.range n).map fun (k : Nat) => D.int (k : Int)) s = _ from this).trans ?_
    simp [vecs]
  have hrn : rangeD 0 (n : Int) = some (nats (List.range n)) := r_nat (by omega)
  have hrm : rangeD 0 (rows.length : Int) = some (nats (List.range rows.length)) := r_nat H.len
  obtain ⟨r', e, x4, x5, x6, x7, x8, rfl⟩ := forE_range (s := s) (bd := mBd 4) (body := sq [sSet 5 [4] (mComp (mIts (mB 2)) (mBd 7) (tE (mCmp .NotEq (mCall fdot [(mIx (mB 0) (mV 4)), (mV 7)]) (mK (.int 0)))) (mV 7) [7]),
      sIf [] (tE (mCmp .Gt (mBlt "len" [(mB 5)]) (mK (.int 0))))
        [sTup [2, 3] [2, 3, 4] (mCall fturned_line [(mV 2), (mV 3), (mIx (mB 0) (mV 4)), (mIx (mB 5) (mK (.int 0)))])]
        [sSet 6 [4] (mComp (mIts (mB 3)) (mBd 8) mTrue (mCall ftight_of [(mSl (mB 0) none (some (mV 4))), (mV 8)]) [8]),
         sSet 3 [3, 4, 6] (mCall fcut_rays [(mV 3), (mIx (mB 0) (mV 4)), (mV 6), (mBin .Sub (mBin .Sub (mB 1) (mBlt "len" [(mB 2)])) (mK (.int 2)))])]])
    (fun k r => ∃ x4 x5 x6 x7 x8 : Slot, r = [.v (.lst (vecs rows)), .v (.int n), .v (.lst (vecs (coneK rows n k).1)), .v (.lst (vecs (coneK rows n k).2)), x4, x5, x6, x7, x8]) rows.length (by
      rintro k hk r ⟨x4, x5, x6, x7, x8, rfl⟩
      obtain ⟨hL, hR, lL, lR⟩ := H.state k (by omega)
      obtain ⟨_, _, _, lR'⟩ := H.state (k + 1) (by omega)
      rw [coneK_succ] at lR' ⊢
      obtain ⟨L, R, e⟩ : ∃ L R, coneK rows n k = (L, R) := ⟨_, _, rfl⟩
      rw [e] at hL hR lL lR lR' ⊢
      dsimp only at hL hR lL lR
      have hrm := getD_mem hk
      obtain ⟨row, hrow⟩ : ∃ row, rows.getD k [] = row := ⟨_, rfl⟩
      rw [hrow] at hrm
      have hrw := H.w row hrm
      have hrb := H.bd row hrm
      have hat : atD (vecs rows) (k : Int) = some (vec row) := by rw [at_vecs hk, hrow]
      have hB2 := H.B2
      have dok : ∀ v : List Int, v ∈ L → fdot [vec row, vec v] s = some (.int (dI row v), s) := fun v hv => dot_ok s hrb (hL.b v hv) (by omega) (by omega) (by rw [hrw]; exact hnl)
      have hc : ∀ x5 x6 x8, compE (mBd 7) (tE (mCmp .NotEq (mCall fdot [(mIx (mB 0) (mV 4)), (mV 7)]) (mK (.int 0)))) (mV 7) [.v (.lst (vecs rows)), .v (.int n), .v (.lst (vecs L)), .v (.lst (vecs R)), .v (.int k), x5, x6, .un, x8] (vecs L) s = some (vecs (crossing row L), s) := fun x5 x6 x8 =>
        compE_filter vec (fun l => !decide (dI row l = 0)) vec L fun v hv => ⟨_, rfl, by simp [hat, dok v hv], fun _ => by simp⟩
      have hLl : (vecs L).length < line := by rw [vecs_len, line_val]; omega
      have hRl : (vecs R).length < line := by rw [vecs_len, line_val]; omega
      unfold coneStep at lR' ⊢
      rw [hrow] at lR' ⊢
      dsimp only at lR' ⊢
      cases hcr : crossing row L with
      | cons f L' =>
        rw [hcr] at hc lR'
        have hfL : f ∈ L := by
          have : f ∈ crossing row L := by rw [hcr]; exact List.mem_cons_self
          exact (List.mem_filter.mp this).1
        have ht := turn_ok (L := L) (R := R) (row := row) (f0 := f) s hL hR hrw hrb (hL.w f hfL) (hL.b f hfL) hn2 (by omega) (by rw [vecs_len] at hLl; exact hLl) (by rw [line_val]; omega)
        have hpos : 0 < (vecs (f :: L')).length := by rw [vecs_len]; simp
        have hat0 : atD (vecs (f :: L')) 0 = some (vec f) := at0 (vec f) (vecs L')
        refine ⟨_, _, rfl, ?_, .v (.int k), .v (.lst (vecs (f :: L'))), x6, x7, x8, rfl⟩
        simp [hLl, hc, hpos, hat, hat0, ht]
      | nil =>
        rw [hcr] at hc lR'
        dsimp only at lR'
        have htk : ∀ v ∈ R, ftight_of [.lst (vecs (rows.take k)), vec v] s = some (.lst (nats (tightL (rows.take k) v)), s) := fun v hv =>
          tight_ok s (i := b) (j := B) (n := n) (fun a ha => H.bd a (List.mem_of_mem_take ha)) (fun a ha => H.w a (List.mem_of_mem_take ha)) (hR.b v hv) (by omega) (by omega) hn2 (by rw [List.length_take]; have := H.len; omega)
        have hsl : cutD (vecs rows) none (some (k : Int)) = vecs (rows.take k) := by
          rw [cut_head (by rw [vecs_len]; omega)]; simp [vecs]
        have ht : ∀ x6 x7, compE (mBd 8) mTrue (mCall ftight_of [(mSl (mB 0) none (some (mV 4))), (mV 8)]) [.v (.lst (vecs rows)), .v (.int n), .v (.lst (vecs L)), .v (.lst (vecs R)), .v (.int k), .v (.lst (vecs [])), x6, x7, .un] (vecs R) s = some (natss (R.map (tightL (rows.take k))), s) := by
          intro x6 x7
          have := compE_map (bd := mBd 8) (t := mTrue) (e := mCall ftight_of [(mSl (mB 0) none (some (mV 4))), (mV 8)]) (r := [.v (.lst (vecs rows)), .v (.int n), .v (.lst (vecs L)), .v (.lst (vecs R)), .v (.int k), .v (.lst (vecs [])), x6, x7, .un]) (s := s) vec (fun r => .lst (nats (tightL (rows.take k) r))) R fun v hv => ⟨_, rfl, rfl, by simp [hsl, htk v hv]⟩
          refine (show compE _ _ _ _ (R.map vec) s = _ from this).trans ?_
          simp [natss]
        have hct := cut_ok (R := R) (row := row) (T := R.map (tightL (rows.take k))) ((n : Int) - (L.length : Int) - 2) s hR hrw hrb hn2 (by omega) lR (by simp) (fun t ht => by
          obtain ⟨v, hv, rfl⟩ := List.mem_map.mp ht
          have h1 : (tightL (rows.take k) v).length ≤ (rows.take k).length := Nat.le_trans (List.length_filter_le _ _) (by simp)
          rw [List.length_take] at h1
          have := H.len
          rw [line_val]; omega) (by rw [line_val]; omega)
        refine ⟨_, _, rfl, ?_, .v (.int k), .v (.lst (vecs [])), .v (.lst (natss (R.map (tightL (rows.take k))))), x7, x8, rfl⟩
        have hneg : ¬ 0 < (vecs []).length := by simp [vecs]
        simp [-List.map_map, hLl, hRl, hc, hneg, ht, hat]
        simp [-List.map_map, vecs_len, hct]) [.v (.lst (vecs rows)), .v (.int n), .v (.lst (vecs ((List.range n).map (unitL n)))), .v (.lst []), .un, .un, .un, .un, .un] ⟨.un, .un, .un, .un, .un, rfl⟩
  refine dfn_rt rfl ?_
  have hnl' : n < line := hnl
  simp only [mcone, q_cons, z_set, z_for, z_ret, List.map_cons, List.map_nil, List.length_cons, List.length_nil]
  simp [-List.map_map, hrn, nats_len, hnl', hu, vecs_len, hrm]
  rw [e]
  simp [coneL]
end CH

set_option maxRecDepth 100000
/-! What all ends share: tables of names, the law's promise. -/
namespace CH
open PySem PySem.Spec PyProof.Rows L2
theorem bn_nil {mg : Str → Option Value} : ∀ x, inB [] x = true → mg x = none := fun x h => by cases h
theorem bn_cons {mg : Str → Option Value} {y : Str} {l : List Str} (h : mg y = none) (t : ∀ x, inB l x = true → mg x = none) : ∀ x, inB (y :: l) x = true → mg x = none := fun x hx => by
  have hx : (decide (y = x) || inB l x) = true := hx
  rw [Bool.or_eq_true, decide_eq_true_eq] at hx
  rcases hx with e | e
  · rw [← e]; exact h
  · exact t x e
def Tb (P : Program) (w : World) (K : PySem.W.Frag) (mg : Str → Option Value) (base : Heap) (cl : Addr) (k : Nat) (x : Str) (F : Sm) : Prop :=
  ∃ f fd ps, mg x = some (.ref f) ∧ PySem.W.keepIn K (.ref f) = true ∧ Binds K fd ps [] ∧ FnOk P w K mg base CX0 k f fd ps (spD K cl ps.length F) ∧ (x == ("__debug__" : Str)) = false ∧ ∀ ds s y, F ds s = some y → ds.length = ps.length
section
variable {P : Program} {w : World} {K : PySem.W.Frag} {mg : Str → Option Value} {base : Heap} {cl : Addr} {k : Nat}
theorem tab_nil {F : Str → Sm} : ∀ x, inB [] x = true → Tb P w K mg base cl k x (F x) := fun x h => by cases h
theorem tab_cons {F : Str → Sm} {y : Str} {l : List Str} {G : Sm} (e : F y = G) (h : Tb P w K mg base cl k y G) (t : ∀ x, inB l x = true → Tb P w K mg base cl k x (F x)) : ∀ x, inB (y :: l) x = true → Tb P w K mg base cl k x (F x) := fun x hx => by
  have hx : (decide (y = x) || inB l x) = true := hx
  rw [Bool.or_eq_true, decide_eq_true_eq] at hx
  rcases hx with z | z
  · rw [← z, e]; exact h
  · exact t x z
theorem dfn_len {n np : Nat} {b : List St} {ds : List D} {s : S} {y : D × S} (h : dfn n np b ds s = some y) : ds.length = np := by
  unfold dfn at h
  split at h
  · assumption
  · cases h
theorem Mb.mk {j : Nat} {m : Str} {F : Sm} {f : Addr} {fd : FuncData} {ps : List Str} {n np : Nat} {b : List St} (O : ObOk K cl) (M : Meth K cl m f) (G : FnOk P w K mg base CX0 j f fd ps (spD K cl ps.length F)) (hj : j ≤ k) (bd : Binds K fd ps [])
    (hne : m ≠ ("dim" : Str) ∧ m ≠ ("rows" : Str) ∧ m ≠ ("corners" : Str) ∧ m ≠ ("rays" : Str)) (e : F = dfn n np b) (hn : np = ps.length) : 
    ∃ np, C8.Met P w K mg base k cl m (spD K cl np F) [] ∧ (m ≠ ("dim" : Str) ∧ m ≠ ("rows" : Str) ∧ m ≠ ("corners" : Str) ∧ m ≠ ("rays" : Str)) ∧ ∀ ds s y, F ds s = some y → ds.length = np :=
  ⟨_, ⟨⟨f, fd, ps, [], O.c, M, G.mono hj, bd, .nil⟩⟩, hne, fun ds s y h => by rw [e] at h; exact (dfn_len h).trans hn⟩
theorem Tb.mk {j : Nat} {x : Str} {F : Sm} {f : Addr} {fd : FuncData} {ps : List Str} {n np : Nat} {b : List St} (G : FnOk P w K mg base CX0 j f fd ps (spD K cl ps.length F)) (hj : j ≤ k) (g : mg x = some (.ref f)) (kp : PySem.W.keepIn K (.ref f) = true) (bd : Binds K fd ps [])
    (hd : (x == ("__debug__" : Str)) = false) (e : F = dfn n np b) (hn : np = ps.length) : Tb P w K mg base cl k x F :=
  ⟨f, fd, ps, g, kp, bd, G.mono hj, hd, fun ds s y h => by rw [e] at h; exact (dfn_len h).trans hn⟩
end
/-! ### constants, classes, methods -/
theorem ks_nil {mg : Str → Option Value} : ∀ (x : Str) (i : Int), (none : Option Int) = some i → ∃ u, mg x = some u ∧ RelV (.int i) u := fun _ _ h => by cases h
theorem ks_cons {mg : Str → Option Value} {y : Str} {z : Int} {t : Tok} {g : Str → Option Int} (h : mg y = some (.int z t)) (r : ∀ (x : Str) (i : Int), g x = some i → ∃ u, mg x = some u ∧ RelV (.int i) u) :
    ∀ (x : Str) (i : Int), (if x = y then some z else g x) = some i → ∃ u, mg x = some u ∧ RelV (.int i) u := fun x i e => by
  by_cases hx : x = y
  · rw [if_pos hx] at e
    cases e
    rw [hx]
    exact ⟨_, h, ⟨t, rfl⟩⟩
  · rw [if_neg hx] at e
    exact r x i e
section
variable {P : Program} {w : World} {K : PySem.W.Frag} {mg : Str → Option Value} {base : Heap} {cl : Addr} {k : Nat}
theorem cls_nil : ∀ x, inB [] x = true → ∃ j, j + 1 ≤ k ∧ C8.Mak P w K mg base j x cl (spI cl) [] ∧ (x == ("__debug__" : Str)) = false := fun x h => by cases h
theorem cls_one {y : Str} {j : Nat} (hj : j + 1 ≤ k) (h : C8.Mak P w K mg base j y cl (spI cl) []) (hd : (y == ("__debug__" : Str)) = false) : ∀ x, inB [y] x = true → ∃ j, j + 1 ≤ k ∧ C8.Mak P w K mg base j x cl (spI cl) [] ∧ (x == ("__debug__" : Str)) = false := fun x hx => by
  have hx : (decide (y = x) || false) = true := hx
  rw [Bool.or_false, decide_eq_true_eq] at hx
  subst hx
  exact ⟨j, hj, h, hd⟩
def Mb (P : Program) (w : World) (K : PySem.W.Frag) (mg : Str → Option Value) (base : Heap) (cl : Addr) (k : Nat) (m : Str) (F : Sm) : Prop :=
  ∃ np, C8.Met P w K mg base k cl m (spD K cl np F) [] ∧ (m ≠ ("dim" : Str) ∧ m ≠ ("rows" : Str) ∧ m ≠ ("corners" : Str) ∧ m ≠ ("rays" : Str)) ∧ ∀ ds s y, F ds s = some y → ds.length = np
theorem mt_nil {F : Str → Sm} : ∀ x, inB [] x = true → Mb P w K mg base cl k x (F x) := fun x h => by cases h
theorem mt_cons {F : Str → Sm} {y : Str} {l : List Str} {G : Sm} (e : F y = G) (h : Mb P w K mg base cl k y G) (t : ∀ x, inB l x = true → Mb P w K mg base cl k x (F x)) : ∀ x, inB (y :: l) x = true → Mb P w K mg base cl k x (F x) := fun x hx => by
  have hx : (decide (y = x) || inB l x) = true := hx
  rw [Bool.or_eq_true, decide_eq_true_eq] at hx
  rcases hx with z | z
  · rw [← z, e]; exact h
  · exact t x z
end
/-! ### a larger written part -/
def Sub (K K2 : PySem.W.Frag) : Prop := ∀ a o, K.lookup a = some o → K2.lookup a = some o
section
open PySem.W
variable {K K2 : PySem.W.Frag} (h : Sub K K2)
include h
theorem Sub.code {cd : Value} {q : Str} (e : codeIn K cd q = true) : codeIn K2 cd q = true := by
  unfold codeIn at e ⊢
  split at e
  · rename_i c
    split at e
    · rename_i x1 x2 x3 x4 hl
      rw [h _ _ hl]
      exact e
    · cases e
  · cases e
theorem Sub.ns {a : Addr} {x : Str} {r : Option Value} (e : nsIn K a x = some r) : nsIn K2 a x = some r := by
  unfold nsIn at e ⊢
  split at e
  · rename_i hl
    rw [h _ _ hl]
    exact e
  · cases e
theorem Sub.own {x : Str} {v : Value} {r : Option Value} (e : ownIn K x v = some r) : ownIn K2 x v = some r := by
  cases v with
  | ref a =>
    have e' : (match K.lookup a with
      | some ⟨_, _, .cls cd, _⟩ => nsIn K cd.ns x
      | _ => none) = some r := e
    show (match K2.lookup a with
      | some ⟨_, _, .cls cd, _⟩ => nsIn K2 cd.ns x
      | _ => none) = some r
    split at e'
    · rename_i hl
      rw [h _ _ hl]
      exact h.ns e'
    · cases e'
  | _ => exact e
theorem Sub.along {x : Str} : ∀ {l : List Value} {r : Option Value}, alongIn K x l = some r → alongIn K2 x l = some r
  | [], r, e => e
  | c :: l, r, e => by
    have e' : (match ownIn K x c with
      | some (some v) => some (some v)
      | some none => alongIn K x l
      | none => none) = some r := e
    show (match ownIn K2 x c with
      | some (some v) => some (some v)
      | some none => alongIn K2 x l
      | none => none) = some r
    cases q : ownIn K x c with
    | none => rw [q] at e'; cases e'
    | some o =>
      rw [q] at e'
      rw [h.own q]
      cases o with
      | none => exact Sub.along e'
      | some v => exact e'
theorem Sub.find {t : Value} {x : Str} {r : Option Value} (e : findIn K t x = some r) : findIn K2 t x = some r := by
  cases t with
  | ref a =>
    have e' : (match K.lookup a with
      | some ⟨_, _, .cls cd, _⟩ => alongIn K x cd.mro
      | _ => none) = some r := e
    show (match K2.lookup a with
      | some ⟨_, _, .cls cd, _⟩ => alongIn K2 x cd.mro
      | _ => none) = some r
    split at e'
    · rename_i hl
      rw [h _ _ hl]
      exact h.along e'
    · cases e'
  | _ => exact e
theorem Sub.type {v t : Value} (e : typeIn K v = some t) : typeIn K2 v = some t := by
  cases v with
  | ref a =>
    obtain ⟨o, h1, h2⟩ := Option.map_eq_some_iff.mp (show (K.lookup a).map (·.cls) = some t from e)
    show (K2.lookup a).map (·.cls) = some t
    rw [h _ _ h1]
    exact congrArg some h2
  | _ => exact e
theorem Sub.special {v : Value} {x : Str} {r : Option Value} (e : specialIn K v x = some r) : specialIn K2 v x = some r := by
  obtain ⟨t, a, b⟩ := Option.bind_eq_some_iff.mp e
  exact Option.bind_eq_some_iff.mpr ⟨t, h.type a, h.find b⟩
theorem Sub.cls {C : Addr} {cd : ClassData} (e : clsIn K C = some cd) : clsIn K2 C = some cd := by
  unfold clsIn at e ⊢
  split at e
  · rename_i hl
    rw [h _ _ hl]
    exact e
  · cases e
theorem Sub.sub {t b : Value} {r : Bool} (e : subIn K t b = some r) : subIn K2 t b = some r := by
  cases t with
  | ref C =>
    obtain ⟨cd, a1, a2⟩ := Option.bind_eq_some_iff.mp (show (clsIn K C).bind _ = some r from e)
    exact Option.bind_eq_some_iff.mpr ⟨cd, h.cls a1, a2⟩
  | _ => exact e
theorem Sub.inst {v b : Value} {r : Bool} (e : instIn K v b = some r) : instIn K2 v b = some r := by
  obtain ⟨t, a1, a2⟩ := Option.bind_eq_some_iff.mp e
  exact Option.bind_eq_some_iff.mpr ⟨t, h.type a1, h.sub a2⟩
theorem beq_some {α : Type} [BEq α] [LawfulBEq α] {o : Option α} {x : α} (e : (o == some x) = true) : o = some x := by
  cases o with
  | none => cases e
  | some y => exact congrArg some (eq_of_beq (show (y == x) = true from e))
theorem Sub.keep {v : Value} (e : keepIn K v = true) : keepIn K2 v = true := by
  cases v with
  | ref a =>
    have e' : (match K.lookup a with
      | some ⟨_, _, .func _, _⟩ => true
      | some ⟨_, _, .cls _, _⟩ => specialIn K (.ref a) "__call__" == some (some (.builtin "type.__call__"))
      | _ => false) = true := e
    show (match K2.lookup a with
      | some ⟨_, _, .func _, _⟩ => true
      | some ⟨_, _, .cls _, _⟩ => specialIn K2 (.ref a) "__call__" == some (some (.builtin "type.__call__"))
      | _ => false) = true
    split at e'
    · rename_i hl
      rw [h _ _ hl]
    · rename_i hl
      rw [h _ _ hl]
      dsimp only
      rw [h.special (eq_of_beq e')]
      exact beq_self_eq_true _
    · cases e'
  | _ => exact e
theorem Sub.isFn {v : Value} (e : isFn K v = true) : isFn K2 v = true := by
  have := h.type (eq_of_beq (show (typeIn K v == some (.type "function")) = true from e))
  show (typeIn K2 v == some (.type "function")) = true
  rw [this]
  exact beq_self_eq_true _
theorem Sub.plainGet {C : Addr} {x : Str} (e : plainGet K C x = true) : plainGet K2 C x = true := by
  have e' : (findIn K (.ref C) "__getattribute__" == some (some (.builtin "object.__getattribute__")) && findIn K (.ref C) "__getattr__" == some none) = true := e
  rw [Bool.and_eq_true] at e'
  show (findIn K2 (.ref C) "__getattribute__" == some (some (.builtin "object.__getattribute__")) && findIn K2 (.ref C) "__getattr__" == some none) = true
  rw [h.find (eq_of_beq e'.1), h.find (eq_of_beq e'.2), beq_self_eq_true, beq_self_eq_true]
  rfl
theorem Sub.hasDict {C : Addr} (e : hasDictIn K C = true) : hasDictIn K2 C = true := by
  have e' : (clsIn K C).any (·.hasDict) = true := e
  show (clsIn K2 C).any (·.hasDict) = true
  cases q : clsIn K C with
  | none => rw [q] at e'; cases e'
  | some cd => rw [q] at e'; rw [h.cls q]; exact e'
theorem Sub.over {C : Addr} (e : plainOver K C = true) : plainOver K2 C = true := by
  have e' : (clsIn K C).any (fun cd => onlyObject cd.mro) = true := e
  show (clsIn K2 C).any (fun cd => onlyObject cd.mro) = true
  cases q : clsIn K C with
  | none => rw [q] at e'; cases e'
  | some cd => rw [q] at e'; rw [h.cls q]; exact e'
theorem Sub.makes {C : Addr} (e : makesIn K C = true) : makesIn K2 C = true := by
  unfold makesIn at e ⊢
  split at e
  · rename_i hl
    rw [h _ _ hl]
    simp only [Bool.and_eq_true] at e ⊢
    obtain ⟨⟨e1, e2⟩, e3⟩ := e
    refine ⟨⟨e1, ?_⟩, ?_⟩
    · rw [h.special (eq_of_beq e2)]; exact beq_self_eq_true _
    · rw [h.inst (eq_of_beq e3)]; exact beq_self_eq_true _
  · cases e
end
/-! ### the heap's own tables -/
def pick (h : Heap) : List Addr → PySem.W.Frag
  | [] => []
  | a :: l => match h.get? a with
    | some o => (a, o) :: pick h l
    | none => pick h l
theorem pick_in {h : Heap} : ∀ {l : List Addr} {a : Addr} {o : Obj}, (pick h l).lookup a = some o → h.get? a = some o
  | [], a, o, e => by cases e
  | b :: l, a, o, e => by
    unfold pick at e
    cases q : h.get? b with
    | none => rw [q] at e; exact pick_in e
    | some o' =>
      rw [q] at e
      simp only [List.lookup] at e
      split at e
      · rename_i hb
        cases e
        rw [eq_of_beq hb]
        exact q
      · exact pick_in e
theorem pick_at {h : Heap} {a : Addr} {o : Obj} (e : h.get? a = some o) : ∀ {l : List Addr}, a ∈ l → (pick h l).lookup a = some o
  | b :: l, hm => by
    unfold pick
    by_cases hb : a = b
    · subst hb
      rw [e]
      simp [List.lookup]
    · have := pick_at e ((List.mem_cons.mp hm).resolve_left hb)
      cases q : h.get? b with
      | none => exact this
      | some o' =>
        simp only [List.lookup]
        rw [beq_eq_false_iff_ne.mpr hb]
        exact this
theorem lookup_app {K J : PySem.W.Frag} {a : Addr} {o : Obj} (e : (K ++ J).lookup a = some o) : K.lookup a = some o ∨ J.lookup a = some o := by
  induction K with
  | nil => exact .inr e
  | cons p K ih =>
    obtain ⟨b, x⟩ := p
    simp only [List.cons_append, List.lookup] at e ⊢
    split at e
    · exact .inl e
    · exact ih e
theorem lookup_left {K J : PySem.W.Frag} {a : Addr} {o : Obj} (e : K.lookup a = some o) : (K ++ J).lookup a = some o := by
  induction K with
  | nil => cases e
  | cons p K ih =>
    obtain ⟨b, x⟩ := p
    simp only [List.cons_append, List.lookup] at e ⊢
    split at e
    · exact e
    · exact ih e
theorem lookup_right {K J : PySem.W.Frag} {a : Addr} {o : Obj} (n : K.lookup a = none) (e : J.lookup a = some o) : (K ++ J).lookup a = some o := by
  induction K with
  | nil => exact e
  | cons p K ih =>
    obtain ⟨b, x⟩ := p
    simp only [List.cons_append, List.lookup] at n ⊢
    split at n
    · cases n
    · exact ih n
theorem Ns.at {h h' : Heap} {a : Addr} {m : Str → Option Value} (x : h.Ns a m) (k : ∀ o, h.get? a = some o → h'.get? a = some o) : h'.Ns a m :=
  let ⟨o, es, ep, e, r⟩ := x; ⟨o, es, ep, k _ e, r⟩
theorem seer_part {K : PySem.W.Frag} {h : Heap} (X : K.In h) (S : h.NoSeer) : ∃ K2 : PySem.W.Frag, Sub K K2 ∧ K2.In h ∧ ∀ base : Heap, K2.In base → base.NoSeer := by
  obtain ⟨⟨mc, s1, s2⟩, ⟨mm, m1, m2⟩, ⟨mb, b1, b2⟩, ⟨mg, bm, ob, g1, g2, g3, g4⟩⟩ := S
  refine ⟨K ++ pick h [cStatics, sysModules, builtinsNs, mainGlobals, bm], fun a o e => lookup_left e, fun a o e => (lookup_app e).elim (X a o) pick_in, fun base hb => ?_⟩
  have key : ∀ a ∈ [cStatics, sysModules, builtinsNs, mainGlobals, bm], ∀ o, h.get? a = some o → base.get? a = some o := fun a ha o e => by
    refine hb a o ?_
    cases q : K.lookup a with
    | none => exact lookup_right q (pick_at e ha)
    | some o' =>
      have := X a o' q
      rw [e] at this
      cases this
      exact lookup_left q
  exact ⟨⟨mc, Ns.at s1 (key _ (by simp)), s2⟩, ⟨mm, Ns.at m1 (key _ (by simp)), m2⟩, ⟨mb, Ns.at b1 (key _ (by simp)), b2⟩, ⟨mg, bm, ob, Ns.at g1 (key _ (by simp)), g2, key _ (by simp) _ g3, g4⟩⟩
/-- the law's promise -/
def spL (K : PySem.W.Frag) : Sp := fun vs H Q _ => ∃ (a : Addr) (ns : List Int), vs = [.ref a] ∧ ns.length ≤ 63 ∧ (∀ z ∈ ns, Builtin.Int.intBits z ≤ 1048576) ∧ Only H ∧ SqL K H a (ns.map V.int) ∧ ∀ H', Q (.bl true) H'
def Law (F : Sm) : Prop := ∀ ns : List Int, ns.length ≤ 63 → (∀ z ∈ ns, Builtin.Int.intBits z ≤ 1048576) → ∃ s', F [.scr ns] none = some (.bl true, s')
theorem spL_of {K : PySem.W.Frag} {cl : Addr} {F : Sm} (h : Law F) : ∀ vs H Q E, spL K vs H Q E → spD K cl 1 F vs H Q E := fun vs H Q E hs => by
  obtain ⟨a, ns, rfl, h1, h2, h3, h4, q⟩ := hs
  obtain ⟨s', e⟩ := h ns h1 h2
  have fz : FzL K H a (ns.map V.int) := by
    rcases h4 with (h4 | ⟨o, h4⟩) | h4
    · rcases h3 a with z | ⟨o, xs, z⟩
      · rw [z] at h4; cases h4
      · rw [z] at h4; cases h4
    · exact .inl ⟨o, h4⟩
    · exact .inr fun _ => .inr h4
  have fz2 : FzL K (minus H fun _ => False) a (ns.map V.int) := by
    rcases fz with ⟨o, z⟩ | z
    · exact .inl ⟨o, minus_some.mpr ⟨fun x => x, z⟩⟩
    · exact .inr z
  refine ⟨rfl, fun _ => False, [.scr ns], none, none, .bl true, s', e, .cons (.scr fz2) .nil, rfl, fun a z => z.elim, fun v H' a1 _ _ r _ => ?_⟩
  cases r
  exact q H'
/-- the walk's end, with room for long divisions -/
theorem walk_pl {l : PySem.W.OpenLaw} {k : Nat} {q : Program} {loose : List Str} {XP : (Str → Option Value) → Heap → Prop} {YP : World → Heap → Prop} {d : DefRec} {K : Params → PySem.W.Frag} {x : Str}
    (hn : l.most = some 63) (hdf : d.params.defaults = []) (hr : Room k callerA) (himp : importsNone q = true)
    (hY : ∀ (w : World) (h : Heap), YP w h → (K w.params).In h)
    (F : ∀ (w : World) (mg : Str → Option Value) (fa : Addr) (h : Heap), (K w.params).In h → h.Ns mainGlobals mg → mg d.name = some (.ref fa) →
      ∃ fd : FuncData, (∀ (s : Shared) (u : Value), BindsTo s fd ⟨[u], []⟩ [(x, u)]) ∧
        ∀ K2 : PySem.W.Frag, Sub (K w.params) K2 → ∀ base : Heap, K2.In base → base.Ns mainGlobals mg → base.NoSeer → FnOk l.prog w K2 mg base CX0 k fa fd [x] (spL K2)) :
    PySem.W.WalkO q loose XP YP l.row.toRowW d [] (fun f vs => PySem.call f vs) := by
  refine Att.attach_callB hn hdf fun w s₀ s₁ mg mb fa o pm cd doc a vs ns G Y ho hd hcd hmg hobj hints hlen hbits hg => ?_
  have KX := hY w _ Y
  obtain ⟨fd, hb, hF⟩ := F w mg fa _ KX G.T.g hmg
  obtain ⟨K2, sb, KX2, hs⟩ := seer_part KX (G.T.seer himp)
  exact law_call KX2 G.T.g G.T.b G.T.builtins G.T.nolimit hg hobj hints (Nat.le_trans hlen (by decide)) hr (fun base h1 h2 => hF K2 sb base h1 h2 (hs base h1)) hb
    (fun H hO hS => ⟨a, ns, rfl, hlen, hbits, hO, hS, fun _ => rfl⟩) fun H e s' z => z
end CH

set_option maxRecDepth 100000
/-! The laws' own products and their drawn rows. -/
namespace CH
open PySem
open CM (dI opp unitL coneL gD_lt gD_ge opp_len CI ch Prim)
theorem dI_snoc : ∀ {a b : List Int} {x y : Int}, a.length = b.length → dI (a ++ [x]) (b ++ [y]) = dI a b + x * y
  | [], [], x, y, _ => by simp [dI]
  | u :: a, v :: b, x, y, h => by
    have := dI_snoc (a := a) (b := b) (x := x) (y := y) (by simpa using h)
    simp only [dI, List.cons_append, List.zip_cons_cons, List.map_cons, List.sum_cons] at this ⊢
    omega
theorem ldot_ok {a b : List Int} (s : S) {i j : Nat} (ha : Bd i a) (hb : Bd j b) (hi : i ≤ 60000000) (hj : j ≤ 60000000) (hl : a.length ≤ 1000000) (hab : a.length = b.length) : f_law_dot [vec a, vec b] s = some (.int (dI a b), s) := by
  obtain ⟨r', e, x3, rfl⟩ := forE_range (s := s) (bd := mBd 3) (body := sq [sSet 2 [3, 3] (mBin .Add (mB 2) (mBin .Mult (mIx (mB 0) (mV 3)) (mIx (mB 1) (mV 3))))])
    (fun k r => ∃ x3 : Slot, r = [.v (vec a), .v (vec b), .v (.int (dI (a.take k) (b.take k))), x3]) a.length (by
      rintro k hk r ⟨x3, rfl⟩
      have hk2 : k < b.length := by omega
      refine ⟨_, _, rfl, ?_, .v (.int k), rfl⟩
      have e1 : a.take (k + 1) = a.take k ++ [a[k]] := (List.take_append_getElem hk).symm
      have e2 : b.take (k + 1) = b.take k ++ [b[k]] := (List.take_append_getElem hk2).symm
      rw [e1, e2, dI_snoc (by simp; omega)]
      have a1 := at_zs hk
      have a2 := at_zs hk2
      rw [gD_lt _ hk] at a1
      rw [gD_lt _ hk2] at a2
      simp [-List.map_take, a1, a2, o_mul (fits_k (ha _ (List.getElem_mem hk)) hi) (fits_k (hb _ (List.getElem_mem hk2)) hj)]) [.v (vec a), .v (vec b), .v (.int 0), .un] ⟨.un, rfl⟩
  rw [hab, List.take_length, ← hab, List.take_length] at e
  refine dfn_rt rfl ?_
  simp [zs_len, r_nat hl]
  rw [e]
  simp
theorem lislow_ok (l : List Int) (s : S) {k : Nat} (hb : Bd k l) (hk : k ≤ 60000000) : f_law_is_low [vec l] s = some (.bl (decide (gcdL l = 1)), s) := by
  obtain ⟨r', s', h1, h2⟩ := forE_inv (bd := mBd 2) (body := sq [sSet 3 [] (mBlt "abs" [(mB 2)]),
      sWh (tE (mCmp .NotEq (mB 3) (mK (.int 0))))
        [sPar 1 3 [3] (mV 3) (mBin .Mod (mB 1) (mB 3))]])
    (fun xs r s' => ∃ (m : List Int) (a : Int) (x2 x3 : Slot), xs = zs m ∧ (∀ z ∈ m, z ∈ l) ∧ 0 ≤ a ∧ r = [.v (vec l), .v (.int a), x2, x3] ∧ s' = s ∧ m.foldl gcdI a = gcdL l) (by
      rintro x xs r s1 ⟨m, a, x2, x3, e1, e2, e0, e3, e4, e5⟩
      cases m with
      | nil => cases e1
      | cons y m =>
        cases e1
        subst e3 e4
        refine ⟨_, _, _, rfl, ?_, m, gcdI a y, .v (.int y), .v (.int 0), rfl, fun z hz => e2 z (List.mem_cons_of_mem _ hz), gcdI_nn _ _, rfl, rfl, e5⟩
        have hy := hb y (e2 y List.mem_cons_self)
        have hy2 : (y.natAbs : Int) < 2 ^ k := by
          have : ((y.natAbs : Nat) : Int) < ((2 ^ k : Nat) : Int) := Int.ofNat_lt.mpr hy
          rwa [Int.natCast_pow] at this
        simp
        rw [abs_if, gcd_loop (fun a b => [.v (vec l), .v (.int a), .v (.int y), .v (.int b)]) ?_ ?_ k _ _ e0 (by omega) hy2 whF (by unfold whF; omega)]
        · have : gcdI a (y.natAbs : Int) = gcdI a y := by
            unfold gcdI
            rw [Int.gcd_eq_natAbs_gcd_natAbs, Int.gcd_eq_natAbs_gcd_natAbs, Int.natAbs_natCast]
          simp [this]
        · intro a b s; simp
        · intro a b s h; simp [o_mod h]) (zs l) [.v (vec l), .v (.int 0), .un, .un] s ⟨l, 0, .un, .un, rfl, fun _ h => h, by decide, rfl, rfl, rfl⟩
  obtain ⟨m, a, x2, x3, e1, e2, e0, e3, e4, e5⟩ := h2
  cases m with
  | cons y m => cases e1
  | nil =>
    subst e3 e4
    have ea : a = gcdL l := e5
    subst ea
    refine dfn_rt rfl ?_
    simp
    rw [h1]
    simp
theorem big_bd {z : Int} (h : Big z) : z.natAbs < 2 ^ 40 := by unfold Big at h; omega
theorem at_last' {L : List (List Int)} (h : 0 < L.length) : atD (vecs L) (-1) = some (vec (L.getLast (List.ne_nil_of_length_pos h))) := by
  have e : L = L.dropLast ++ [L.getLast (List.ne_nil_of_length_pos h)] := (List.dropLast_concat_getLast _).symm
  have h2 : vecs L = vecs L.dropLast ++ [vec (L.getLast (List.ne_nil_of_length_pos h))] := by
    conv => lhs; rw [e]
    simp [vecs]
  rw [h2]
  unfold atD ixN
  rw [if_neg (by decide), List.length_append, List.length_singleton, if_pos (by omega)]
  show (vecs L.dropLast ++ [vec (L.getLast (List.ne_nil_of_length_pos h))])[(-1 + (((vecs L.dropLast).length + 1 : Nat) : Int)).toNat]? = _
  rw [show (-1 + (((vecs L.dropLast).length + 1 : Nat) : Int)).toNat = (vecs L.dropLast).length by omega]
  simp
def bigs (n : Nat) (L : List (List Int)) : Prop := ∀ v ∈ L, v.length = n ∧ ∀ z ∈ v, Big z
def crB : List St := [sSet 5 [0, 1] (mCall f_law_numbers [(mV 0), (mV 1), (mK (.int 3))]),
      sIf [0] (tAnd [(tE (mCmp .Gt (mBlt "len" [(mB 2)]) (mK (.int 0)))), (tE (mCmp .Eq (mCall f_law_taken [(mV 0), (mK (.int 5))]) (mK (.int 4))))])
        [sSet 5 [] (mBlt "tuple" [(mComp (mIts (mIx (mB 2) (mNeg (mK (.int 1))))) (mBd 6) mTrue (mBin .Sub (mK (.int 0)) (mB 6)) [6])])]
        [],
      sApp 2 [5] (mV 5)]
theorem cr_row {t : LS} {n : Nat} {acc : List (List Int)} {x3 : Slot} (k : OkS t) (hn : n ≤ 1000) (hl : acc.length ≤ 1000) (hw : bigs n acc) (x4 x5 x6 : Slot) :
    ∃ (v : List Int) (t' : LS) (y5 y6 : Slot), sq crB [.v .hnd, .v (.int n), .own (vecs acc), x3, x4, x5, x6] (some t) = some (.nx [.v .hnd, .v (.int n), .own (vecs (acc ++ [v])), x3, x4, y5, y6] (some t')) ∧ OkS t' ∧ v.length = n ∧ ∀ z ∈ v, Big z := by
  obtain ⟨l, t1, e1, l1, b1, k1⟩ := numbers_ok k (n := n) (w := 3) (by omega) (by omega) (by decide) (by decide)
  rw [Int.toNat_natCast] at l1
  have hline : acc.length < line := by rw [line_val]; omega
  by_cases h0 : 0 < acc.length
  · obtain ⟨z, t2, e2, z0, z1, k2⟩ := taken_ok k1 (m := 5) (by decide) (by decide)
    by_cases h2 : z = 4
    · have hla := at_last' h0
      obtain ⟨u, hu⟩ : ∃ u, acc.getLast (List.ne_nil_of_length_pos h0) = u := ⟨_, rfl⟩
      have hum : u ∈ acc := hu ▸ List.getLast_mem _
      rw [hu] at hla
      have hul := (hw u hum).1
      have hc : ∀ x3 x4 x5, compE (mBd 6) mTrue (mBin .Sub (mK (.int 0)) (mB 6)) [.v .hnd, .v (.int n), .own (vecs acc), x3, x4, x5, .un] (zs u) (some t2) = some (zs (opp u), some t2) := by
        intro x3 x4 x5
        have := compE_map (bd := mBd 6) (t := mTrue) (e := mBin .Sub (mK (.int 0)) (mB 6)) (r := [.v .hnd, .v (.int n), .own (vecs acc), x3, x4, x5, .un]) (s := some t2) D.int (fun x => D.int (0 - x)) u fun x _ => ⟨_, rfl, rfl, by simp⟩
        refine (show compE _ _ _ _ (u.map D.int) _ = _ from this).trans ?_
        simp [zs, opp]
      have hul2 : (zs u).length < line := by rw [zs_len, hul, line_val]; omega
      refine ⟨opp u, t2, .v (vec (opp u)), x6, ?_, k2, by rw [opp_len, hul], fun z hz => ?_⟩
      · simp [-Int.zero_sub, crB, e1, vecs_len, h0, e2, h2, hla, hul2, hc, hline, vecs_snoc']
      · obtain ⟨x, hx, rfl⟩ := List.mem_map.mp hz
        have := (hw u hum).2 x hx
        unfold Big at *; omega
    · refine ⟨l, t2, .v (vec l), x6, ?_, k2, l1, b1⟩
      simp [crB, e1, vecs_len, h0, e2, h2, hline, vecs_snoc']
  · refine ⟨l, t1, .v (vec l), x6, ?_, k1, l1, b1⟩
    simp [crB, e1, vecs_len, h0, hline, vecs_snoc']
theorem conerows_ok {t : LS} {n : Nat} (k : OkS t) (hn : n ≤ 6) :
    ∃ (rows : List (List Int)) (t' : LS), f_law_cone_rows [.hnd, .int n] (some t) = some (.lst (vecs rows), some t') ∧ OkS t' ∧ bigs n rows ∧ rows.length ≤ 12 ∧ (rows.length ≤ 6 ∨ n < 5) := by
  obtain ⟨a, t1, e1, a0, a1, k1⟩ := taken_ok k (m := 7) (by decide) (by decide)
  obtain ⟨c, t2, e2, c0, c1, k2⟩ := taken_ok k1 (m := 4) (by decide) (by decide)
  -- how many
  obtain ⟨m, t3, hm, m0, m12, m6, k3⟩ : ∃ (m : Nat) (t3 : LS), (∀ x2 x3 x4 x5 x6 : Slot, mIx (mLst [(mCall f_law_taken [(mV 0), (mK (.int 7))]), (mBin .Add (mK (.int 9)) (mCall f_law_taken [(mV 0), (mK (.int 4))]))]) (mBlt "int" [(mAnd [(mCmp .Lt (mB 1) (mK (.int 5))), (mCmp .Eq (mCall f_law_taken [(mV 0), (mK (.int 6))]) (mK (.int 5)))])]) [.v .hnd, .v (.int n), x2, x3, x4, x5, x6] (some t) = some (.int m, some t3)) ∧ 0 ≤ m ∧ m ≤ 12 ∧ (m ≤ 6 ∨ n < 5) ∧ OkS t3 := by
    have at0' : ∀ (x y : D), atD [x, y] 0 = some x := fun _ _ => rfl
    have at1' : ∀ (x y : D), atD [x, y] 1 = some y := fun _ _ => rfl
    by_cases h5 : n < 5
    · obtain ⟨d, t3, e3, d0, d1, k3⟩ := taken_ok k2 (m := 6) (by decide) (by decide)
      have h5' : (n : Int) < 5 := by omega
      by_cases hd : d = 5
      · refine ⟨(9 + c).toNat, t3, fun x2 x3 x4 x5 x6 => ?_, by omega, by omega, .inr h5, k3⟩
        simp [e1, e2, h5', e3, hd, at1']; omega
      · refine ⟨a.toNat, t3, fun x2 x3 x4 x5 x6 => ?_, by omega, by omega, .inr h5, k3⟩
        simp [e1, e2, h5', e3, hd, at0']; omega
    · have h5' : ¬ (n : Int) < 5 := by omega
      refine ⟨a.toNat, t2, fun x2 x3 x4 x5 x6 => ?_, by omega, by omega, .inl (by omega), k2⟩
      simp [e1, e2, h5', at0']; omega
  obtain ⟨r', s', f1, f2⟩ := forE_inv (bd := mBd 4) (body := sq crB)
    (fun xs r s' => ∃ (acc : List (List Int)) (t : LS) (x4 x5 x6 : Slot), xs.length + acc.length = m ∧ r = [.v .hnd, .v (.int n), .own (vecs acc), .v (.int m), x4, x5, x6] ∧ s' = some t ∧ OkS t ∧ bigs n acc) (by
      rintro x xs r s ⟨acc, t, x4, x5, x6, i1, i2, i3, i4, i5⟩
      subst i2 i3
      obtain ⟨v, t', y5, y6, j1, j2, j3, j4⟩ := cr_row (n := n) (acc := acc) (x3 := .v (.int m)) i4 (by omega) (by simp at i1; omega) i5 (.v x) x5 x6
      refine ⟨_, _, _, rfl, j1, acc ++ [v], t', .v x, y5, y6, by simp at i1 ⊢; omega, rfl, rfl, j2, fun u hu => ?_⟩
      rcases List.mem_append.mp hu with w | w
      · exact i5 u w
      · rw [List.mem_singleton.mp w]; exact ⟨j3, j4⟩) (nats (List.range m)) [.v .hnd, .v (.int n), .own [], .v (.int m), .un, .un, .un] (some t3) ⟨[], t3, .un, .un, .un, by simp [nats_len], rfl, rfl, k3, fun _ h => nomatch h⟩
  obtain ⟨rows, t4, x4, x5, x6, i1, i2, i3, i4, i5⟩ := f2
  subst i2 i3
  simp at i1
  refine ⟨rows, t4, ?_, i4, i5, by omega, by omega⟩
  refine dfn_rt rfl ?_
  have hrm : rangeD 0 (m : Int) = some (nats (List.range m)) := r_nat (by omega)
  have hm' := hm (.own []) .un .un .un .un
  simp only [m_law_cone_rows, q_cons, z_own, z_set, z_for, z_ret, List.map_cons, List.map_nil, List.length_cons, List.length_nil]
  simp [-x_ix, -x_blt]
  rw [hm']
  simp only [crB] at f1
  simp [hrm]
  rw [f1]
  simp
end CH

set_option maxRecDepth 100000
/-! Elimination counts the rank. -/
namespace CM
open CH (nz nzs piv el stepN rkN cols Rows Norm norm_low norm_id piv_ok el_piv getD_bl nz_iff cols_pos)
open Classical
theorem rk_cons_not {f : V} {L : List V} (h : ¬ Sp (· ∈ L) f) : rk (f :: L) = rk L + 1 := by
  unfold rk; rw [if_neg h]; cases L <;> rfl
theorem nz_vz {v : Vec} : nz v = true ↔ vz v ≠ 0 := by
  rw [nz_iff]
  constructor
  · rintro ⟨j, hj, h⟩ e
    have := congrFun e j
    exact h (Rat.intCast_inj.mp this)
  · intro h
    apply Classical.byContradiction
    intro hn
    refine h ?_
    funext i
    show ((v.getD i 0 : Int) : Rat) = 0
    by_cases hi : i < v.length
    · have : v.getD i 0 = 0 := Classical.byContradiction fun e => hn ⟨i, hi, e⟩
      rw [this]; rfl
    · rw [gD_ge _ (Nat.le_of_not_lt hi)]; rfl
theorem vz_norm {norm : Vec → Vec} (N : Norm norm) (v : Vec) : ∃ g : Rat, 0 < g ∧ vz (norm v) = sm g (vz v) := by
  obtain ⟨g, g0, e⟩ := N.mul v
  have hg : (0 : Rat) < (g : Rat) := Rat.intCast_pos.mpr g0
  refine ⟨(g : Rat)⁻¹, Rat.inv_pos.mpr hg, ?_⟩
  have h1 : vz v = sm g (vz (norm v)) := by
    funext i
    show ((v.getD i 0 : Int) : Rat) = (g : Rat) * ((norm v).getD i 0 : Int)
    rw [← Rat.intCast_mul, ← CH.getD_map_mul g (norm v) i, ← e]
  rw [h1, sm_sm, Rat.inv_mul_cancel _ (by grind), one_sm]
theorem rk_step_eq {norm : Vec → Vec} (N : Norm norm) {w b : Nat} {f : Vec} {L : List Vec} (R : Rows w b (f :: L)) : rk ((f :: L).map vz) = rk ((stepN norm f L).map vz) + 1 := by
  have hf := R.w f List.mem_cons_self
  obtain ⟨_, p1, p2⟩ := piv_ok (R.z f List.mem_cons_self)
  have fp : vz f (piv f) ≠ 0 := fun e => p2 (Rat.intCast_inj.mp e)
  -- what is made of a row
  have made : ∀ v ∈ L, ∃ c : Rat, c ≠ 0 ∧ ∃ d : Rat, vz (norm (el f v)) = sm c (vz v) + sm d (vz f) := fun v hv => by
    obtain ⟨g, g0, e⟩ := vz_norm N (el f v)
    have hl : v.length = f.length := by rw [R.w v (List.mem_cons_of_mem _ hv), hf]
    refine ⟨g * (f.getD (piv f) 0 : Int), ?_, g * (0 - v.getD (piv f) 0 : Int), ?_⟩
    · intro h
      rcases Rat.mul_eq_zero.mp h with h | h
      · grind
      · exact fp h
    · rw [e]; unfold el; rw [vz_bl hl, sm_add, sm_sm, sm_sm]
  have memS : ∀ x, x ∈ (stepN norm f L).map vz → ∃ v ∈ L, x = vz (norm (el f v)) := fun x hx => by
    obtain ⟨u, hu, rfl⟩ := List.mem_map.mp hx
    obtain ⟨v, hv, rfl⟩ := List.mem_map.mp (List.mem_filter.mp hu).1
    exact ⟨v, hv, rfl⟩
  have hno : ¬ Sp (· ∈ (stepN norm f L).map vz) (vz f) := fun hs => by
    have : ∀ x, Sp (· ∈ (stepN norm f L).map vz) x → x (piv f) = 0 := fun x hx => by
      induction hx with
      | zero => rfl
      | @step y z c hb _ ih =>
        obtain ⟨v, hv, rfl⟩ := memS _ hb
        have h1 : vz (norm (el f v)) (piv f) = 0 := by
          show (((norm (el f v)).getD (piv f) 0 : Int) : Rat) = 0
          rw [(N.get0 (el f v) (piv f)).mpr (el_piv (by rw [R.w v (List.mem_cons_of_mem _ hv), hf]))]; rfl
        rw [add_at, sm_at, h1, ih]; grind
    exact fp (this _ hs)
  rw [← rk_cons_not hno]
  refine rk_eq_of_sp fun x => ⟨fun hx => hx.trans fun b hb => ?_, fun hx => hx.trans fun b hb => ?_⟩
  · rcases List.mem_cons.mp hb with rfl | hb
    · exact .mem List.mem_cons_self
    · obtain ⟨v, hv, rfl⟩ := List.mem_map.mp hb
      obtain ⟨c, c0, d, e⟩ := made v hv
      have hin : Sp (· ∈ vz f :: (stepN norm f L).map vz) (vz (norm (el f v))) := by
        by_cases hz : nz (norm (el f v)) = true
        · exact .mem (List.mem_cons_of_mem _ (List.mem_map.mpr ⟨_, List.mem_filter.mpr ⟨List.mem_map.mpr ⟨v, hv, rfl⟩, hz⟩, rfl⟩))
        · have : vz (norm (el f v)) = 0 := Classical.byContradiction fun h => hz (nz_vz.mpr h)
          rw [this]; exact .zero
      have h2 := (hin.sub (.sm d (.mem List.mem_cons_self))).sm c⁻¹
      have h3 := Rat.inv_mul_cancel c c0
      rwa [show sm c⁻¹ (vz (norm (el f v)) - sm d (vz f)) = vz v from by rw [e]; funext i; simp only [sm_at, sub_at, add_at]; grind] at h2
  · rcases List.mem_cons.mp hb with rfl | hb
    · exact .mem List.mem_cons_self
    · obtain ⟨v, hv, rfl⟩ := memS _ hb
      obtain ⟨c, c0, d, e⟩ := made v hv
      rw [e]
      exact .add (.sm _ (.mem (List.mem_map.mpr ⟨v, List.mem_cons_of_mem _ hv, rfl⟩))) (.sm _ (.mem List.mem_cons_self))
theorem rkN_rk {norm : Vec → Vec} (N : Norm norm) {w : Nat} : ∀ (m b : Nat) (L : List Vec), Rows w b L → (L.length ≤ m ∨ cols w L ≤ m) → rkN norm m L = rk (L.map vz)
  | 0, b, [], _, _ => rfl
  | 0, b, f :: L, R, hm => by
    have := cols_pos R
    rcases hm with h | h
    · simp at h
    · omega
  | m + 1, b, [], _, _ => rfl
  | m + 1, b, f :: L, R, hm => by
    obtain ⟨R', l', c'⟩ := R.step N
    rw [rk_step_eq N R, ← rkN_rk N m _ _ R' (by
      rcases hm with h | h
      · left; simp at h; omega
      · right; omega)]
    rfl
theorem rk_filter_nz (L : List Vec) : rk ((L.filter nz).map vz) = rk (L.map vz) := by
  refine rk_eq_of_sp fun x => ⟨fun hx => hx.mono fun b hb => ?_, fun hx => hx.trans fun b hb => ?_⟩
  · obtain ⟨v, hv, rfl⟩ := List.mem_map.mp hb
    exact List.mem_map.mpr ⟨v, (List.mem_filter.mp hv).1, rfl⟩
  · obtain ⟨v, hv, rfl⟩ := List.mem_map.mp hb
    by_cases hz : nz v = true
    · exact .mem (List.mem_map.mpr ⟨v, List.mem_filter.mpr ⟨hv, hz⟩, rfl⟩)
    · have : vz v = 0 := Classical.byContradiction fun h => hz (nz_vz.mpr h)
      rw [this]; exact .zero
/-- the law's rank -/
theorem rkN_all {norm : Vec → Vec} (N : Norm norm) {w b m : Nat} {L : List Vec} (hw : ∀ v ∈ L, v.length = w) (hb : ∀ v ∈ L, CH.Bd b v) (hm : L.length ≤ m ∨ w ≤ m) : rkN norm m (L.filter nz) = rk (L.map vz) := by
  have R : Rows w b (L.filter nz) := ⟨fun v hv => hw v (List.mem_filter.mp hv).1, fun v hv => (List.mem_filter.mp hv).2, fun v hv => hb v (List.mem_filter.mp hv).1⟩
  have hlf : (L.filter nz).length ≤ L.length := List.length_filter_le _ _
  have hcw : cols w (L.filter nz) ≤ w := Nat.le_trans (List.length_filter_le _ _) (by rw [List.length_range]; exact Nat.le_refl _)
  rw [rkN_rk N m b _ R (by omega), rk_filter_nz]
end CM

set_option maxRecDepth 100000
namespace CH
open PySem
open CM (dI opp unitL coneL gD_lt gD_ge opp_len CI ch Prim rk vz tightL rkN_all mem_tightL dt0_iff)
theorem lrank_rk {L : List (List Int)} {w b m : Nat} (s : S) (hw : ∀ v ∈ L, v.length = w) (hb : ∀ v ∈ L, Bd b v) (hw2 : w ≤ 1000) (hl : L.length ≤ 1000) (hm : L.length ≤ m ∨ w ≤ m) (hm2 : m ≤ 1000) (hbm : (b + 1) * 2 ^ m ≤ 20000000) :
    f_law_rank [.lst (vecs L)] s = some (.int (rk (L.map vz) : Nat), s) := by
  rw [lrank_ok s hw hb hw2 hl hm hm2 hbm, rkN_all norm_id hw hb hm]
theorem inD_inj {α : Type} [DecidableEq α] {f : α → D} {n : Nat} (hn : n < 60) (P : ∀ x, (f x).pl = true) (hd : ∀ x, (f x).dp ≤ n) (hi : ∀ x y, f x = f y → x = y) (x : α) (l : List α) : inD (f x) (.lst (l.map f)) = some (decide (x ∈ l)) := by
  obtain ⟨p, p1, p2, p3⟩ := D.pl_py (f x) (P x)
  obtain ⟨q, h1, h2, h3⟩ := D.pls_py (l.map f) (pls_map f P l)
  have hs1 : SeqAt.shaped p = true := by
    show (PyData.canLay0 p && decide (p.depth ≤ 64)) = true
    rw [p2, p3]
    have := hd x
    simp; omega
  have hs2 : SeqAt.shaped (.list q) = true := by
    show (PyData.canLay0 (.list q) && decide ((PyData.list q).depth ≤ 64)) = true
    have e1 : PyData.canLay0 (.list q) = true := h2
    have e2 : (PyData.list q).depth = PyData.depthAll q + 1 := rfl
    have := dps_map f hd l
    rw [e1, e2, h3]
    simp; omega
  unfold inD
  dsimp only
  rw [p1, h1]
  dsimp only
  rw [hs1, hs2, Bool.and_self, if_pos rfl]
  congr 1
  have key : ∀ (l : List α) (q : List PyData), D.toPys (l.map f) = some q → (q.any fun z => PyData.eqv z p) = decide (x ∈ l) := by
    intro l
    induction l with
    | nil => intro q hq; cases hq; rfl
    | cons y l ih =>
      intro q hq
      obtain ⟨py, y1, y2, y3⟩ := D.pl_py (f y) (P y)
      have hq : (match D.toPy (f y), D.toPys (l.map f) with
        | some p, some q => some (p :: q)
        | _, _ => none) = some q := hq
      rw [y1] at hq
      cases hz : D.toPys (l.map f) with
      | none => rw [hz] at hq; cases hq
      | some q' =>
        rw [hz] at hq
        cases hq
        rw [List.any_cons, ih q' hz]
        have he := D.pl_eqv (f y) (f x) py p (P y) (P x) y1 p1
        by_cases e : x = y
        · subst e
          rw [he.mpr rfl]; simp
        · have : PyData.eqv py p = false := by
            rw [← Bool.not_eq_true]; intro h; exact e (hi _ _ (he.mp h)).symm
          rw [this]; simp [e]
  exact key l q h1
theorem nats_inj {a b : List Nat} (h : nats a = nats b) : a = b := map_inj (f := fun (k : Nat) => D.int (k : Int)) (fun x y e => by injection e with e; omega) h
theorem natl_pl (t : List Nat) : (D.lst (nats t)).pl = true := by rw [nats_zs]; exact pls_zs _
theorem natl_dp (t : List Nat) : (D.lst (nats t)).dp ≤ 1 := by rw [nats_zs]; show D.dps (zs _) + 1 ≤ 1; rw [dps_zs]; exact Nat.le_refl _
theorem inD_natss (t : List Nat) (T : List (List Nat)) : inD (.lst (nats t)) (.lst (natss T)) = some (decide (t ∈ T)) := by
  refine (inD_inj (f := fun t => D.lst (nats t)) (n := 1) (by decide) natl_pl natl_dp (fun x y e => by injection e with e; exact nats_inj e) t T).trans ?_
  congr 1
  exact decide_eq_decide.mpr Iff.rfl
end CH

/-! Cones told by rows and by what makes them: each from the other; how many rays there are; sides. -/
namespace CM
open CH (gcdI gcdL lowL bl gcdL_dvd lowL_mul lowL_len getD_bl gcdI_nn gcdL_nn)
open Classical
def every (C : List Vec × List Vec) : List Vec := C.1 ++ C.1.map opp ++ C.2
/-- all that hold the rows; all that vectors make -/
abbrev Kv (n : Nat) (A : List Vec) (x : V) : Prop := Hd n (A.map vz) x
abbrev Cv (W : List Vec) (x : V) : Prop := Cn (· ∈ W.map vz) x
section
variable {n : Nat} {A : List Vec} {M : List (Vec × Nat)} {R : List Vec}
theorem sp_cn {B : V → Prop} {x : V} (h : Sp B x) : Cn (fun y => B y ∨ ∃ b, B b ∧ y = -b) x := by
  induction h with
  | zero => exact .zero
  | @step b y c h0 hb ih =>
    rcases @Rat.le_total 0 c with hc | hc
    · exact .add (.sm hc (.mem (.inl h0))) ih
    · have e : CM.sm c b = CM.sm (-c) (-b) := by funext i; simp; grind
      rw [e]
      exact .add (.sm (by grind) (.mem (.inr ⟨b, h0, rfl⟩))) ih
theorem mem_every {C : List Vec × List Vec} {e : Vec} : e ∈ every C ↔ e ∈ C.1 ∨ (∃ l ∈ C.1, e = opp l) ∨ e ∈ C.2 := by
  unfold every
  rw [List.mem_append, List.mem_append, List.mem_map]
  constructor
  · rintro ((h | ⟨l, h, rfl⟩) | h)
    · exact .inl h
    · exact .inr (.inl ⟨l, h, rfl⟩)
    · exact .inr (.inr h)
  · rintro (h | ⟨l, h, rfl⟩ | h)
    · exact .inl (.inl h)
    · exact .inl (.inr ⟨l, h, rfl⟩)
    · exact .inr h
theorem CI.lnm (C : CI n A M R) {l : Vec} (hl : l ∈ M.map (·.1)) : vz l ∈ (M.map fun x => (vz x.1, x.2)).map (·.1) := by
  obtain ⟨x, hx, rfl⟩ := List.mem_map.mp hl
  exact List.mem_map.mpr ⟨_, List.mem_map.mpr ⟨x, hx, rfl⟩, rfl⟩
theorem CI.lnz (C : CI n A M R) {l : Vec} (hl : l ∈ M.map (·.1)) : l.length = n ∧ ∀ a ∈ A.map vz, dt n a (vz l) = 0 := by
  obtain ⟨x, hx, rfl⟩ := List.mem_map.mp hl
  exact ⟨C.wM x hx, fun a ha => C.ln.van (vz x.1, x.2) (List.mem_map.mpr ⟨x, hx, rfl⟩) a ha⟩
theorem CI.hdE (C : CI n A M R) {e : Vec} (he : e ∈ every (M.map (·.1), R)) : e.length = n ∧ Kv n A (vz e) := by
  rcases mem_every.mp he with h | ⟨l, h, rfl⟩ | h
  · obtain ⟨h1, h2⟩ := C.lnz h
    exact ⟨h1, su_vz h1, fun a ha => by rw [h2 a ha]; exact Rat.le_refl⟩
  · obtain ⟨h1, h2⟩ := C.lnz h
    refine ⟨by rw [opp_len]; exact h1, ?_⟩
    rw [vz_opp]
    exact ⟨(su_vz h1).neg, fun a ha => by rw [dt_neg, h2 a ha]; decide⟩
  · exact ⟨C.wR e h, su_vz (C.wR e h), fun a ha => C.dd.pos _ ⟨e, h, rfl⟩ a ha⟩
/-- all that hold the rows are made by the lines, their opposites and the rays -/
theorem CI.everyK (C : CI n A M R) {x : V} : Kv n A x ↔ Cv (every (M.map (·.1), R)) x := by
  constructor
  · intro hx
    obtain ⟨l, h1, h2⟩ := C.ln.decomp hx.1
    rw [CI.fst2] at h2
    obtain ⟨_, l2⟩ := C.ln.vanSp h1
    have h3 := C.dd.gen (x - l) h2 fun a ha => by rw [dt_sub, l2 a ha]; have := hx.2 a ha; grind
    have e : x = l + (x - l) := by funext i; simp; grind
    rw [e]
    refine .add ((sp_cn h1).mono fun y hy => ?_) (h3.mono fun y hy => ?_)
    · have key : ∀ y, y ∈ (M.map fun x => (vz x.1, x.2)).map (·.1) → ∃ l ∈ M.map (·.1), y = vz l := fun y hy => by
        obtain ⟨p, hp, rfl⟩ := List.mem_map.mp hy
        obtain ⟨q, hq, rfl⟩ := List.mem_map.mp hp
        exact ⟨q.1, List.mem_map.mpr ⟨q, hq, rfl⟩, rfl⟩
      rcases hy with hy | ⟨b, hb, rfl⟩
      · obtain ⟨l, hl, rfl⟩ := key y hy
        exact List.mem_map.mpr ⟨l, mem_every.mpr (.inl hl), rfl⟩
      · obtain ⟨l, hl, rfl⟩ := key b hb
        exact List.mem_map.mpr ⟨opp l, mem_every.mpr (.inr (.inl ⟨l, hl, rfl⟩)), vz_opp l⟩
    · obtain ⟨r, hr, rfl⟩ := hy
      exact List.mem_map.mpr ⟨r, mem_every.mpr (.inr (.inr hr)), rfl⟩
  · intro h
    exact Hd.cn h fun b hb => by
      obtain ⟨e, he, rfl⟩ := List.mem_map.mp hb
      exact (C.hdE he).2
theorem cv_kv {W : List Vec} (hW : ∀ w ∈ W, w.length = n) {x y : V} (h : Cv W x) (hy : Kv n W y) : 0 ≤ dt n y x :=
  Cn.dt0 h fun b hb => by rw [dt_comm]; exact hy.2 b hb
/-- .. and back: what holds all that hold the vectors is made by them -/
theorem CI.dual (C : CI n A M R) {x : V} : Kv n (every (M.map (·.1), R)) x ↔ Cv A x := by
  constructor
  · intro hx
    refine farkas (A.map vz) C.suA x hx.1 fun y hy hp => ?_
    have h1 : Cv (every (M.map (·.1), R)) y := C.everyK.mp ⟨hy, hp⟩
    exact cv_kv (n := n) (W := every (M.map (·.1), R)) (fun w hw => (C.hdE hw).1) h1 hx
  · intro h
    refine Hd.cn h fun a ha => ⟨C.suA a ha, fun e he => ?_⟩
    obtain ⟨v, hv, rfl⟩ := List.mem_map.mp he
    rw [dt_comm]
    exact (C.hdE hv).2.2 a ha
theorem CI.rayPos (C : CI n A M R) {r : Vec} (hr : r ∈ R) : ∃ a ∈ A.map vz, 0 < dt n a (vz r) :=
  C.dd.some_pos (C.dd.rw _ ⟨r, hr, rfl⟩) (C.dd.pos _ ⟨r, hr, rfl⟩) (C.dd.ne _ ⟨r, hr, rfl⟩)
/-- what lies at all bounds at which a ray lies is the ray, along a line -/
theorem CI.ext (C : CI n A M R) {r : Vec} (hr : r ∈ R) {y : V} (hy : Kv n A y) (ts : TS n (A.map vz) (vz r) y) :
    ∃ (c : Rat) (l : V), 0 ≤ c ∧ Sp (· ∈ (M.map (·.1)).map vz) l ∧ y = sm c (vz r) + l ∧ ∀ a ∈ A.map vz, dt n a l = 0 := by
  have h := (kernel_ray (R := fun x => ∃ r ∈ R, x = vz r) (r := vz r) C.ln (by rw [CI.fst2]; exact C.dd) ⟨r, hr, rfl⟩ y).mpr ⟨hy.1, ts⟩
  obtain ⟨c, l, hl, e⟩ := Sp.cons.mp h
  have hl0 := (C.ln.vanSp hl).2
  obtain ⟨a, ha, hp⟩ := C.rayPos hr
  have h1 := hy.2 a ha
  rw [e, dt_add, dt_sm, hl0 a ha] at h1
  refine ⟨c, l, ?_, hl.mono fun b hb => ?_, e, hl0⟩
  · apply Classical.byContradiction
    intro hc
    have hc2 : c < 0 := by grind
    have := Rat.mul_pos (a := -c) (b := dt n a (vz r)) (by grind) hp
    grind
  · obtain ⟨p, hp, rfl⟩ := List.mem_map.mp hb
    obtain ⟨q, hq, rfl⟩ := List.mem_map.mp hp
    exact List.mem_map.mpr ⟨q.1, List.mem_map.mpr ⟨q, hq, rfl⟩, rfl⟩
/-- no more rays than what makes them -/
theorem CI.rays_le (C : CI n A M R) {W : List V} (hW : ∀ w ∈ W, Kv n A w) (hR : ∀ r ∈ R, Cn (· ∈ W) (vz r)) : R.length ≤ W.length := by
  have key : ∀ r ∈ R, ∃ w ∈ W, TS n (A.map vz) (vz r) w ∧ TS n (A.map vz) w (vz r) := fun r hr => by
    obtain ⟨a, ha, hp⟩ := C.rayPos hr
    have h1 := face_cn (fun w hw => (hW w hw).2) (hR r hr)
    have h2 : ∃ w, (w ∈ W ∧ TS n (A.map vz) (vz r) w) ∧ dt n a w ≠ 0 := by
      apply Classical.byContradiction
      intro hn
      have := (Cn.sp h1).dt0 (n := n) (a := a) fun b hb => Classical.byContradiction fun h => hn ⟨b, hb, h⟩
      rw [this] at hp
      exact absurd hp Rat.lt_irrefl
    obtain ⟨w, ⟨w1, w2⟩, w3⟩ := h2
    obtain ⟨c, l, hc, _, e, hl⟩ := C.ext hr (hW w w1) w2
    refine ⟨w, w1, w2, fun b hb h0 => ?_⟩
    rw [e, dt_add, dt_sm, hl b hb] at h0
    rw [e, dt_add, dt_sm, hl a ha] at w3
    have hc0 : c ≠ 0 := fun z => by rw [z] at w3; exact w3 (by grind)
    have : c * dt n b (vz r) = 0 := by grind
    rcases Rat.mul_eq_zero.mp this with z | z
    · exact absurd z hc0
    · exact z
  refine inj_len (f := fun r => if h : r ∈ R then (key r h).choose else 0) C.nR (fun r hr => ?_) fun r hr q hq e => ?_
  · rw [dif_pos hr]; exact (key r hr).choose_spec.1
  · rw [dif_pos hr, dif_pos hq] at e
    have h1 := (key r hr).choose_spec.2.1
    have h2 := (key q hq).choose_spec.2.2
    rw [e] at h1
    exact vz_inj (by rw [C.wR r hr, C.wR q hq]) (C.dd.min (vz r) (vz q) ⟨r, hr, rfl⟩ ⟨q, hq, rfl⟩ fun a ha h0 => h2 a ha (h1 a ha h0))
/-- rays of the other telling: no more than the rows at the start -/
theorem CI.dual_le (C : CI n A M R) {B : List Vec} {N : List (Vec × Nat)} {Q : List Vec} (D : CI n B N Q) (hB : ∀ x, Cv B x ↔ Kv n A x) (hA : ∀ a ∈ A, a.length = n) : Q.length ≤ A.length := by
  have hBK : ∀ b ∈ B, Kv n A (vz b) := fun b hb => (hB _).mp (.mem (List.mem_map.mpr ⟨b, hb, rfl⟩))
  have h := D.rays_le (W := A.map vz) (fun w hw => ?_) fun q hq => ?_
  · rwa [List.length_map] at h
  · obtain ⟨a, ha, rfl⟩ := List.mem_map.mp hw
    refine ⟨su_vz (hA a ha), fun b hb => ?_⟩
    obtain ⟨v, hv, rfl⟩ := List.mem_map.mp hb
    rw [dt_comm]
    exact (hBK v hv).2 _ (List.mem_map.mpr ⟨a, ha, rfl⟩)
  · refine farkas (A.map vz) C.suA _ (su_vz (D.wR q hq)) fun y hy hp => ?_
    have h1 : Cv B y := (hB y).mpr ⟨hy, hp⟩
    exact Cn.dt0 h1 fun b hb => by rw [dt_comm]; exact D.dd.pos _ ⟨q, hq, rfl⟩ b hb
end
end CM

/-! Bodies by lists: corners and rays of rows, rows of corners and rays. -/
namespace CM
open CH (gcdI gcdL lowL bl gcdL_dvd lowL_mul lowL_len getD_bl gcdI_nn gcdL_nn)
open Classical
section
variable {n : Nat} {A : List Vec} {M : List (Vec × Nat)} {R : List Vec}
theorem dI_comm : ∀ (a b : Vec), dI a b = dI b a
  | [], [] => rfl
  | [], _ :: _ => rfl
  | _ :: _, [] => rfl
  | x :: a, y :: b => by
    have := dI_comm a b
    simp only [dI, List.zip_cons_cons, List.map_cons, List.sum_cons] at this ⊢
    rw [this, Int.mul_comm]
def sidesL (Q P : List Vec) : List Vec := Q.filter fun q => P.any fun p => decide (dI q p = 0)
/-- the rays that lie at some point, and the row that tells the bottoms: they tell the same -/
theorem CI.sides (C : CI n A M R) {P : List Vec} {u : Vec} (hu : u.length = n) (hP : ∀ p ∈ P, p ∈ A ∧ 0 < dI u p) (hP0 : P ≠ []) (hY : ∀ v ∈ A, v ∉ P → dI u v = 0) {x : V} :
    Kv n (u :: every (M.map (·.1), sidesL R P)) x ↔ Cv A x := by
  have huA : Kv n A (vz u) := ⟨su_vz hu, fun a ha => by
    obtain ⟨v, hv, rfl⟩ := List.mem_map.mp ha
    rw [dtnn_iff (C.wA v hv) hu, dI_comm]
    by_cases h : v ∈ P
    · exact Int.le_of_lt (hP v h).2
    · rw [hY v hv h]; exact Int.le_refl _⟩
  constructor
  · intro hx
    have hux : 0 ≤ dt n (vz u) x := hx.2 _ (List.mem_map.mpr ⟨u, List.mem_cons_self, rfl⟩)
    have hE : ∀ e ∈ every (M.map (·.1), sidesL R P), 0 ≤ dt n (vz e) x := fun e he => hx.2 _ (List.mem_map.mpr ⟨e, List.mem_cons_of_mem _ he, rfl⟩)
    have hL : ∀ l ∈ (M.map (·.1)).map vz, dt n l x = 0 := fun l hl => by
      obtain ⟨e, he, rfl⟩ := List.mem_map.mp hl
      have h1 := hE e (mem_every.mpr (.inl he))
      have h2 := hE (opp e) (mem_every.mpr (.inr (.inl ⟨e, he, rfl⟩)))
      rw [vz_opp, neg_dt] at h2
      grind
    refine C.dual.mp ⟨hx.1, fun e he => ?_⟩
    obtain ⟨q, hq, rfl⟩ := List.mem_map.mp he
    rcases mem_every.mp hq with h | ⟨l, h, rfl⟩ | h
    · exact hE q (mem_every.mpr (.inl h))
    · exact hE _ (mem_every.mpr (.inr (.inl ⟨l, h, rfl⟩)))
    · by_cases hs : q ∈ sidesL R P
      · exact hE q (mem_every.mpr (.inr (.inr hs)))
      · have hno : ∀ p ∈ P, dI q p ≠ 0 := fun p hp h0 => hs (List.mem_filter.mpr ⟨h, List.any_eq_true.mpr ⟨p, hp, decide_eq_true h0⟩⟩)
        have hqw := C.wR q h
        have ts : TS n (A.map vz) (vz q) (vz u) := fun a ha h0 => by
          obtain ⟨v, hv, rfl⟩ := List.mem_map.mp ha
          have hvw := C.wA v hv
          have h1 : dI v q = 0 := (dt0_iff hvw hqw).mp h0
          refine (dt0_iff hvw hu).mpr ?_
          rw [dI_comm]
          refine hY v hv fun hp => hno v hp ?_
          rw [dI_comm]; exact h1
        obtain ⟨c, l, hc, hl, e, hl0⟩ := C.ext h huA ts
        obtain ⟨p, hp⟩ := List.exists_mem_of_ne_nil P hP0
        have hpw := C.wA p (hP p hp).1
        have hpu : 0 < dt n (vz p) (vz u) := (dtp_iff hpw hu).mpr (by rw [dI_comm]; exact (hP p hp).2)
        rw [e, dt_add, dt_sm, hl0 _ (List.mem_map.mpr ⟨p, (hP p hp).1, rfl⟩)] at hpu
        have hc0 : c ≠ 0 := fun z => by rw [z] at hpu; exact absurd hpu (by rw [show (0 : Rat) * dt n (vz p) (vz q) + 0 = 0 by grind]; exact Rat.lt_irrefl)
        have hcp : 0 < c := by grind
        have hlx : dt n l x = 0 := by
          rw [dt_comm]
          exact hl.dt0 fun b hb => by rw [dt_comm]; exact hL b hb
        have h3 : dt n (vz u) x = c * dt n (vz q) x := by rw [e, add_dt, sm_dt, hlx]; grind
        rw [h3] at hux
        apply Classical.byContradiction
        intro hneg
        have := Rat.mul_pos hcp (b := -dt n (vz q) x) (by grind)
        grind
  · intro h
    have h1 : Kv n (every (M.map (·.1), R)) x := C.dual.mpr h
    refine ⟨h1.1, fun a ha => ?_⟩
    obtain ⟨e, he, rfl⟩ := List.mem_map.mp ha
    rcases List.mem_cons.mp he with rfl | he
    · refine Cn.dt0 h fun b hb => ?_
      have := huA.2 b hb
      rw [dt_comm]; exact this
    · refine h1.2 _ (List.mem_map.mpr ⟨e, ?_, rfl⟩)
      rcases mem_every.mp he with h | h | h
      · exact mem_every.mpr (.inl h)
      · exact mem_every.mpr (.inr (.inl h))
      · exact mem_every.mpr (.inr (.inr (List.mem_filter.mp h).1))
end
/-! ### bodies -/
abbrev Row := Vec × Int
def flatR (r : Row) : Vec := r.1 ++ [0 - r.2]
def flatP (p : Row) : Vec := p.1 ++ [p.2]
def flatY (y : Vec) : Vec := y ++ [0]
def splitP (d : Nat) (e : Vec) : Row := (e.take d, e.getD d 0)
def splitR (d : Nat) (e : Vec) : Row := (e.take d, 0 - e.getD d 0)
/-- everything that rows tell, corners and rays not yet apart -/
def allOf (d : Nat) (rows : List Row) : List Vec := every (coneL (unitL (d + 1) d :: rows.map flatR) (d + 1))
def csOf (d : Nat) (rows : List Row) : List Row := ((allOf d rows).filter fun e => decide (0 < e.getD d 0)).map (splitP d)
def ysOf (d : Nat) (rows : List Row) : List Vec := ((allOf d rows).filter fun e => decide (e.getD d 0 = 0)).map (List.take d)
def flats (cs : List Row) (ys : List Vec) : List Vec := cs.map flatP ++ ys.map flatY
def rsOf (d : Nat) (cs : List Row) (ys : List Vec) : List Row := (every ((coneL (flats cs ys) (d + 1)).1, sidesL (coneL (flats cs ys) (d + 1)).2 (cs.map flatP))).map (splitR d)
theorem take_last {d : Nat} {e : Vec} (h : e.length = d + 1) : e.take d ++ [e.getD d 0] = e := by
  have hd : d < e.length := by omega
  rw [gD_lt _ hd, List.take_append_getElem hd, List.take_of_length_le (by omega)]
theorem flatP_split {d : Nat} {e : Vec} (h : e.length = d + 1) : flatP (splitP d e) = e := take_last h
theorem flatR_split {d : Nat} {e : Vec} (h : e.length = d + 1) : flatR (splitR d e) = e := by
  show e.take d ++ [0 - (0 - e.getD d 0)] = e
  rw [show (0 : Int) - (0 - e.getD d 0) = e.getD d 0 by omega]
  exact take_last h
theorem flatY_split {d : Nat} {e : Vec} (h : e.length = d + 1) (h0 : e.getD d 0 = 0) : flatY (e.take d) = e := by
  show e.take d ++ [0] = e
  rw [← h0]; exact take_last h
theorem snoc_last {d : Nat} {a : Vec} {z : Int} (h : a.length = d) : (a ++ [z]).getD d 0 = z := by
  rw [gD_lt _ (by simp; omega)]
  simp [← h]
theorem snoc_take {d : Nat} {a : Vec} {z : Int} (h : a.length = d) : (a ++ [z]).take d = a := by
  rw [← h]; simp
theorem splitP_flat {d : Nat} {p : Row} (h : p.1.length = d) : splitP d (flatP p) = p := by
  unfold splitP flatP; rw [snoc_last h, snoc_take h]
theorem splitR_flat {d : Nat} {p : Row} (h : p.1.length = d) : splitR d (flatR p) = p := by
  unfold splitR flatR; rw [snoc_last h, snoc_take h, show (0 : Int) - (0 - p.2) = p.2 by omega]
theorem dI_unit {d : Nat} {e : Vec} (h : e.length = d + 1) : dI (unitL (d + 1) d) e = e.getD d 0 := by
  have h1 := dt_vz (unitL_len (d + 1) d) h
  rw [vz_unit (Nat.lt_succ_self d), dt_un _ (Nat.lt_succ_self d)] at h1
  exact (Rat.intCast_inj.mp h1).symm
/-- rows of a width, corners of a width with bottoms above nought, rays of a width -/
def Wr (d : Nat) (rows : List Row) : Prop := ∀ r ∈ rows, r.1.length = d
def Wp (d : Nat) (cs : List Row) : Prop := ∀ r ∈ cs, r.1.length = d ∧ 0 < r.2
def Wy (d : Nat) (ys : List Vec) : Prop := ∀ r ∈ ys, r.length = d
theorem wflatR {d : Nat} {rows : List Row} (h : Wr d rows) : ∀ a ∈ unitL (d + 1) d :: rows.map flatR, a.length = d + 1 := fun a ha => by
  rcases List.mem_cons.mp ha with rfl | ha
  · exact unitL_len _ _
  · obtain ⟨r, hr, rfl⟩ := List.mem_map.mp ha
    show (r.1 ++ _).length = _
    rw [List.length_append, h r hr]; rfl
theorem wflats {d : Nat} {cs : List Row} {ys : List Vec} (h1 : Wp d cs) (h2 : Wy d ys) : ∀ a ∈ flats cs ys, a.length = d + 1 := fun a ha => by
  rcases List.mem_append.mp ha with ha | ha
  · obtain ⟨r, hr, rfl⟩ := List.mem_map.mp ha
    show (r.1 ++ _).length = _
    rw [List.length_append, (h1 r hr).1]; rfl
  · obtain ⟨r, hr, rfl⟩ := List.mem_map.mp ha
    show (r ++ _).length = _
    rw [List.length_append, h2 r hr]; rfl
/-- the cone that rows tell, with the bottoms not below nought -/
def KB (d : Nat) (rows : List Row) (x : V) : Prop := Kv (d + 1) (unitL (d + 1) d :: rows.map flatR) x
theorem all_mem {d : Nat} {rows : List Row} (h : Wr d rows) {e : Vec} (he : e ∈ allOf d rows) : e.length = d + 1 ∧ KB d rows (vz e) ∧ 0 ≤ e.getD d 0 := by
  obtain ⟨M, R, e1, C⟩ := coneL_ok (wflatR h)
  unfold allOf at he
  rw [e1] at he
  obtain ⟨h1, h2⟩ := C.hdE he
  refine ⟨h1, h2, ?_⟩
  have := h2.2 _ (List.mem_map.mpr ⟨_, List.mem_cons_self, rfl⟩)
  rw [dtnn_iff (unitL_len _ _) h1, dI_unit h1] at this
  exact this
theorem all_cn {d : Nat} {rows : List Row} (h : Wr d rows) {x : V} : KB d rows x ↔ Cv (allOf d rows) x := by
  obtain ⟨M, R, e1, C⟩ := coneL_ok (wflatR h)
  unfold allOf KB
  rw [e1]
  exact C.everyK
theorem cs_w {d : Nat} {rows : List Row} (h : Wr d rows) : Wp d (csOf d rows) := fun r hr => by
  obtain ⟨e, he, rfl⟩ := List.mem_map.mp hr
  obtain ⟨h1, h2⟩ := List.mem_filter.mp he
  have := (all_mem h h1).1
  exact ⟨by show (e.take d).length = d; rw [List.length_take]; omega, of_decide_eq_true h2⟩
theorem ys_w {d : Nat} {rows : List Row} (h : Wr d rows) : Wy d (ysOf d rows) := fun r hr => by
  obtain ⟨e, he, rfl⟩ := List.mem_map.mp hr
  have := (all_mem h (List.mem_filter.mp he).1).1
  show (e.take d).length = d; rw [List.length_take]; omega
theorem mem_flats {d : Nat} {rows : List Row} (h : Wr d rows) {e : Vec} : e ∈ flats (csOf d rows) (ysOf d rows) ↔ e ∈ allOf d rows := by
  unfold flats csOf ysOf
  rw [List.map_map, List.map_map, List.mem_append]
  constructor
  · rintro (he | he)
    · obtain ⟨a, ha, rfl⟩ := List.mem_map.mp he
      have h1 := (List.mem_filter.mp ha).1
      show flatP (splitP d a) ∈ _
      rw [flatP_split (all_mem h h1).1]; exact h1
    · obtain ⟨a, ha, rfl⟩ := List.mem_map.mp he
      obtain ⟨h1, h2⟩ := List.mem_filter.mp ha
      show flatY (a.take d) ∈ _
      rw [flatY_split (all_mem h h1).1 (of_decide_eq_true h2)]; exact h1
  · intro he
    obtain ⟨h1, h2, h3⟩ := all_mem h he
    by_cases h0 : e.getD d 0 = 0
    · exact .inr (List.mem_map.mpr ⟨e, List.mem_filter.mpr ⟨he, decide_eq_true h0⟩, flatY_split h1 h0⟩)
    · exact .inl (List.mem_map.mpr ⟨e, List.mem_filter.mpr ⟨he, decide_eq_true (by omega)⟩, flatP_split h1⟩)
theorem cv_congr {W U : List Vec} (h : ∀ e, e ∈ W ↔ e ∈ U) {x : V} : Cv W x ↔ Cv U x :=
  ⟨fun a => a.mono fun b hb => by obtain ⟨e, he, rfl⟩ := List.mem_map.mp hb; exact List.mem_map.mpr ⟨e, (h e).mp he, rfl⟩,
   fun a => a.mono fun b hb => by obtain ⟨e, he, rfl⟩ := List.mem_map.mp hb; exact List.mem_map.mpr ⟨e, (h e).mpr he, rfl⟩⟩
theorem kv_congr {n : Nat} {W U : List Vec} (h : ∀ e, e ∈ W ↔ e ∈ U) {x : V} : Kv n W x ↔ Kv n U x :=
  ⟨fun a => ⟨a.1, fun b hb => by obtain ⟨e, he, rfl⟩ := List.mem_map.mp hb; exact a.2 _ (List.mem_map.mpr ⟨e, (h e).mpr he, rfl⟩)⟩,
   fun a => ⟨a.1, fun b hb => by obtain ⟨e, he, rfl⟩ := List.mem_map.mp hb; exact a.2 _ (List.mem_map.mpr ⟨e, (h e).mp he, rfl⟩)⟩⟩
/-- corners and rays make just what the rows tell -/
theorem flats_cn {d : Nat} {rows : List Row} (h : Wr d rows) {x : V} : KB d rows x ↔ Cv (flats (csOf d rows) (ysOf d rows)) x := (all_cn h).trans (cv_congr fun e => (mem_flats h).symm)
theorem rs_w {d : Nat} {cs : List Row} {ys : List Vec} (h1 : Wp d cs) (h2 : Wy d ys) : Wr d (rsOf d cs ys) := fun r hr => by
  obtain ⟨e, he, rfl⟩ := List.mem_map.mp hr
  obtain ⟨M, R, e1, C⟩ := coneL_ok (wflats h1 h2)
  rw [e1] at he
  have : e ∈ every (M.map (·.1), R) := by
    rcases mem_every.mp he with h | h | h
    · exact mem_every.mpr (.inl h)
    · exact mem_every.mpr (.inr (.inl h))
    · exact mem_every.mpr (.inr (.inr (List.mem_filter.mp h).1))
  have := (C.hdE this).1
  show (e.take d).length = d; rw [List.length_take]; omega
/-- rows tell just what the corners and rays make -/
theorem rs_kb {d : Nat} {cs : List Row} {ys : List Vec} (h1 : Wp d cs) (h2 : Wy d ys) (h0 : cs ≠ []) {x : V} : KB d (rsOf d cs ys) x ↔ Cv (flats cs ys) x := by
  obtain ⟨M, R, e1, C⟩ := coneL_ok (wflats h1 h2)
  have hu := unitL_len (d + 1) d
  have hw := wflats h1 h2
  have hcs : ∀ p ∈ cs.map flatP, p ∈ flats cs ys ∧ 0 < dI (unitL (d + 1) d) p := fun p hp => by
    have hm : p ∈ flats cs ys := List.mem_append.mpr (.inl hp)
    obtain ⟨c, hc, rfl⟩ := List.mem_map.mp hp
    refine ⟨hm, ?_⟩
    rw [dI_unit (hw _ hm)]
    show 0 < (c.1 ++ [c.2]).getD d 0
    rw [snoc_last (h1 c hc).1]; exact (h1 c hc).2
  have hys : ∀ v ∈ flats cs ys, v ∉ cs.map flatP → dI (unitL (d + 1) d) v = 0 := fun v hv hn => by
    rw [dI_unit (hw _ hv)]
    rcases List.mem_append.mp hv with h | h
    · exact absurd h hn
    · obtain ⟨y, hy, rfl⟩ := List.mem_map.mp h
      exact snoc_last (h2 y hy)
  have hne : cs.map flatP ≠ [] := by simpa using h0
  have key := C.sides (u := unitL (d + 1) d) hu hcs hne hys (x := x)
  rw [← key]
  unfold KB
  refine kv_congr fun e => ?_
  unfold rsOf
  rw [e1, List.map_map]
  have hwe : ∀ a ∈ every (M.map (·.1), sidesL R (cs.map flatP)), a.length = d + 1 := fun a ha => by
    have : a ∈ every (M.map (·.1), R) := by
      rcases mem_every.mp ha with h | h | h
      · exact mem_every.mpr (.inl h)
      · exact mem_every.mpr (.inr (.inl h))
      · exact mem_every.mpr (.inr (.inr (List.mem_filter.mp h).1))
    exact (C.hdE this).1
  have hid : (every (M.map (·.1), sidesL R (cs.map flatP))).map (flatR ∘ splitR d) = every (M.map (·.1), sidesL R (cs.map flatP)) := by
    conv => rhs; rw [← List.map_id (every (M.map (·.1), sidesL R (cs.map flatP)))]
    exact List.map_congr_left fun a ha => flatR_split (hwe a ha)
  rw [hid]
/-- told by rows: the rows that come out tell the same -/
theorem by_rows_kb {d : Nat} {rows : List Row} (h : Wr d rows) (h0 : csOf d rows ≠ []) {x : V} : KB d (rsOf d (csOf d rows) (ysOf d rows)) x ↔ KB d rows x :=
  (rs_kb (cs_w h) (ys_w h) h0).trans (flats_cn h).symm
end CM

/-! How many and how large: corners, rays, rows of bodies. -/
namespace CM
open CH (gcdI gcdL lowL bl gcdL_dvd lowL_mul lowL_len getD_bl gcdI_nn gcdL_nn Bd Rk VB)
open Classical
/-! ### binomials by a table -/
def nextT (l : List Nat) : List Nat := List.zipWith (· + ·) l (0 :: l)
def tabT : Nat → List Nat
  | 0 => [1, 0, 0, 0, 0]
  | k + 1 => nextT (tabT k)
theorem tabT_eq : ∀ k, tabT k = [ch k 0, ch k 1, ch k 2, ch k 3, ch k 4]
  | 0 => by rfl
  | k + 1 => by
    show nextT (tabT k) = _
    rw [tabT_eq k]
    have e : ∀ j, ch (k + 1) (j + 1) = ch k j + ch k (j + 1) := fun j => rfl
    have e0 : ∀ k, ch k 0 = 1 := fun k => by cases k <;> rfl
    simp only [nextT, List.zipWith_cons_cons, List.zipWith_nil_left, e, e0]
    simp only [Nat.add_comm, Nat.add_zero]
def allT (c : Nat) : Nat → List Nat → Bool
  | 0, l => l.all fun x => decide (x ≤ c)
  | m + 1, l => (l.all fun x => decide (x ≤ c)) && allT c m (nextT l)
theorem allT_ok {c : Nat} : ∀ (m k : Nat), allT c m (tabT k) = true → ∀ i, k ≤ i → i ≤ k + m → ∀ x ∈ tabT i, x ≤ c
  | 0, k, h, i, h1, h2, x, hx => by
    have : i = k := by omega
    subst this
    exact of_decide_eq_true (List.all_eq_true.mp h x hx)
  | m + 1, k, h, i, h1, h2, x, hx => by
    have h' : ((tabT k).all (fun x => decide (x ≤ c)) && allT c m (tabT (k + 1))) = true := h
    rw [Bool.and_eq_true] at h'
    by_cases e : i = k
    · subst e; exact of_decide_eq_true (List.all_eq_true.mp h'.1 x hx)
    · exact allT_ok m (k + 1) h'.2 i (by omega) (by omega) x hx
theorem ch64 {k j : Nat} (hk : k ≤ 64) (hj : j < 5) : ch k j ≤ 1000000 := by
  have h := allT_ok (c := 1000000) 64 0 (by decide +kernel) k (Nat.zero_le _) (by omega)
  rw [tabT_eq] at h
  rcases j with _ | _ | _ | _ | _ | j
  · exact h _ (by simp)
  · exact h _ (by simp)
  · exact h _ (by simp)
  · exact h _ (by simp)
  · exact h _ (by simp)
  · omega
theorem pow_fit {n b : Nat} (h1 : 1 ≤ n) (h5 : n ≤ 5) : (2 * n * 2 ^ b) ^ (n - 1) < 2 ^ (4 * b + 16) := by
  have hb : 1 ≤ 2 ^ b := Nat.pow_pos (by decide)
  have h2 : 2 * n * 2 ^ b ≤ 2 ^ (b + 4) - 0 := by
    rw [Nat.pow_add]
    have : 2 * n ≤ 16 := by omega
    calc 2 * n * 2 ^ b ≤ 16 * 2 ^ b := Nat.mul_le_mul_right _ this
      _ = 2 ^ b * 2 ^ 4 - 0 := by rw [Nat.mul_comm]; rfl
  have h3 : 2 * n * 2 ^ b < 2 ^ (b + 4) := by
    rw [Nat.pow_add]
    have : 2 * n < 16 := by omega
    calc 2 * n * 2 ^ b < 16 * 2 ^ b := Nat.mul_lt_mul_of_pos_right this (by omega)
      _ = 2 ^ b * 2 ^ 4 := Nat.mul_comm _ _
  have h4 : (2 * n * 2 ^ b) ^ (n - 1) ≤ (2 ^ (b + 4)) ^ (n - 1) := Nat.pow_le_pow_left (Nat.le_of_lt h3) _
  have h5' : (2 ^ (b + 4)) ^ (n - 1) ≤ (2 ^ (b + 4)) ^ 4 := Nat.pow_le_pow_right (Nat.pow_pos (by decide)) (by omega)
  by_cases hn : n = 1
  · subst hn
    show 1 < _
    exact Nat.one_lt_two_pow (by omega)
  · have h6 : (2 * n * 2 ^ b) ^ (n - 1) < (2 ^ (b + 4)) ^ (n - 1) := Nat.pow_lt_pow_left h3 (by omega)
    have h7 := Nat.lt_of_lt_of_le h6 h5'
    rwa [← Nat.pow_mul, show (b + 4) * 4 = 4 * b + 16 by omega] at h7
theorem rk_mk {n b : Nat} {A : List Vec} (h1 : 1 ≤ n) (h5 : n ≤ 5) (hw : ∀ a ∈ A, a.length = n) (hb : ∀ a ∈ A, Bd b a) (hb2 : b ≤ 1000000) (hl : A.length ≤ 64) : Rk n b (4 * b + 16) A where
  w := hw
  bd := hb
  n1 := h1
  n2 := by omega
  B1 := pow_fit h1 h5
  B2 := by omega
  len := by omega
  cnt := fun k hk j hj => ch64 (by omega) (by omega)
/-! ### bits -/
def Br (b : Nat) (r : Row) : Prop := Bd b r.1 ∧ r.2.natAbs < 2 ^ b
theorem bd_snoc {b : Nat} {v : Vec} {z : Int} (h : Bd b v) (hz : z.natAbs < 2 ^ b) : Bd b (v ++ [z]) := fun y hy => by
  rcases List.mem_append.mp hy with h1 | h1
  · exact h y h1
  · rw [List.mem_singleton.mp h1]; exact hz
theorem bd_flatR {b : Nat} {r : Row} (h : Br b r) : Bd b (flatR r) := bd_snoc h.1 (by have := h.2; omega)
theorem bd_flatP {b : Nat} {r : Row} (h : Br b r) : Bd b (flatP r) := bd_snoc h.1 h.2
theorem bd_flatY {b : Nat} {y : Vec} (h : Bd b y) : Bd b (flatY y) := bd_snoc h (Nat.pow_pos (by decide))
theorem bd_unit {b n k : Nat} (hb : 1 ≤ b) : Bd b (unitL n k) := fun z hz => by
  obtain ⟨i, _, rfl⟩ := List.mem_map.mp hz
  have h1 : 2 ^ 1 ≤ 2 ^ b := Nat.pow_le_pow_right (by decide) hb
  show (if i = k then (1 : Int) else 0).natAbs < _
  split <;> simp <;> omega
theorem bd_opp {b : Nat} {v : Vec} (h : Bd b v) : Bd b (opp v) := fun z hz => by
  obtain ⟨x, hx, rfl⟩ := List.mem_map.mp hz
  have := h x hx
  show (0 - x).natAbs < _
  omega
theorem bd_every {n B : Nat} {L Q : List Vec} (h1 : VB n B L) (h2 : VB n B Q) : ∀ e ∈ every (L, Q), Bd B e := fun e he => by
  rcases mem_every.mp he with h | ⟨l, h, rfl⟩ | h
  · exact h1.b e h
  · exact bd_opp (h1.b l h)
  · exact h2.b e h
theorem Rk.every {n b B : Nat} {A : List Vec} (H : Rk n b B A) : ∀ e ∈ every (coneL A n), Bd B e := by
  obtain ⟨h1, h2, _, _⟩ := H.state A.length (Nat.le_refl _)
  exact bd_every h1 h2
theorem br_split {d b : Nat} {e : Vec} (h : Bd b e) (hl : e.length = d + 1) : Br b (splitP d e) :=
  ⟨fun z hz => h z (List.mem_of_mem_take hz), h _ (by rw [splitP]; show e.getD d 0 ∈ e; rw [gD_lt _ (by omega)]; exact List.getElem_mem _)⟩
theorem br_splitR {d b : Nat} {e : Vec} (h : Bd b e) (hl : e.length = d + 1) : Br b (splitR d e) :=
  ⟨(br_split h hl).1, by have := (br_split h hl).2; show (0 - e.getD d 0).natAbs < _; have h2 : (splitP d e).2 = e.getD d 0 := rfl; rw [h2] at this; omega⟩
/-- rows, and corners with rays, of a width and a size -/
structure Zr (d b L : Nat) (rows : List Row) : Prop where
  w : Wr d rows
  b : ∀ r ∈ rows, Br b r
  l : rows.length ≤ L
structure Zp (d b L : Nat) (cs : List Row) (ys : List Vec) : Prop where
  wc : Wp d cs
  wy : Wy d ys
  bc : ∀ r ∈ cs, Br b r
  by_ : ∀ y ∈ ys, Bd b y
  l : cs.length + ys.length ≤ L
theorem Zr.rk {d b L : Nat} {rows : List Row} (Z : Zr d b L rows) (hd : d ≤ 4) (hb1 : 1 ≤ b) (hb : b ≤ 1000000) (hl : L + 1 ≤ 64) : Rk (d + 1) b (4 * b + 16) (unitL (d + 1) d :: rows.map flatR) :=
  rk_mk (by omega) (by omega) (wflatR Z.w) (fun a ha => by
    rcases List.mem_cons.mp ha with rfl | ha
    · exact bd_unit hb1
    · obtain ⟨r, hr, rfl⟩ := List.mem_map.mp ha
      exact bd_flatR (Z.b r hr)) hb (by have := Z.l; simp; omega)
theorem Zp.rk {d b L : Nat} {cs : List Row} {ys : List Vec} (Z : Zp d b L cs ys) (hd : d ≤ 4) (hb : b ≤ 1000000) (hl : L ≤ 64) : Rk (d + 1) b (4 * b + 16) (flats cs ys) :=
  rk_mk (by omega) (by omega) (wflats Z.wc Z.wy) (fun a ha => by
    rcases List.mem_append.mp ha with ha | ha
    · obtain ⟨r, hr, rfl⟩ := List.mem_map.mp ha
      exact bd_flatP (Z.bc r hr)
    · obtain ⟨r, hr, rfl⟩ := List.mem_map.mp ha
      exact bd_flatY (Z.by_ r hr)) hb (by have := Z.l; unfold flats; rw [List.length_append, List.length_map, List.length_map]; omega)
theorem split_len {d : Nat} {rows : List Row} : (csOf d rows).length + (ysOf d rows).length ≤ (allOf d rows).length := by
  unfold csOf ysOf
  rw [List.length_map, List.length_map]
  generalize allOf d rows = E
  induction E with
  | nil => simp
  | cons e E ih =>
    by_cases h1 : 0 < e.getD d 0
    · rw [List.filter_cons_of_pos (by simpa using h1), List.filter_cons_of_neg (by simp only [decide_eq_true_eq]; omega)]
      simp only [List.length_cons]; omega
    · by_cases h2 : e.getD d 0 = 0
      · rw [List.filter_cons_of_neg (by simpa using h1), List.filter_cons_of_pos (by simpa using h2)]
        simp only [List.length_cons]; omega
      · rw [List.filter_cons_of_neg (by simpa using h1), List.filter_cons_of_neg (by simpa using h2)]
        simp only [List.length_cons]; omega
/-- what comes of rows -/
theorem Zr.next {d b L L2 : Nat} {rows : List Row} (Z : Zr d b L rows) (hd : d ≤ 4) (hb1 : 1 ≤ b) (hb : b ≤ 1000000) (hl : L + 1 ≤ 64) (h2 : (allOf d rows).length ≤ L2) : Zp d (4 * b + 16) L2 (csOf d rows) (ysOf d rows) where
  wc := cs_w Z.w
  wy := ys_w Z.w
  bc := fun r hr => by
    obtain ⟨e, he, rfl⟩ := List.mem_map.mp hr
    have h1 := (List.mem_filter.mp he).1
    exact br_split (Rk.every (Z.rk hd hb1 hb hl) e h1) (all_mem Z.w h1).1
  by_ := fun y hy => by
    obtain ⟨e, he, rfl⟩ := List.mem_map.mp hy
    have h1 := (List.mem_filter.mp he).1
    exact (br_split (d := d) (Rk.every (Z.rk hd hb1 hb hl) e h1) (all_mem Z.w h1).1).1
  l := Nat.le_trans split_len h2
theorem sides_every {L Q P : List Vec} {e : Vec} (h : e ∈ every (L, sidesL Q P)) : e ∈ every (L, Q) := by
  rcases mem_every.mp h with h | h | h
  · exact mem_every.mpr (.inl h)
  · exact mem_every.mpr (.inr (.inl h))
  · exact mem_every.mpr (.inr (.inr (List.mem_filter.mp h).1))
/-- what comes of corners and rays -/
theorem Zp.next {d b L L2 : Nat} {cs : List Row} {ys : List Vec} (Z : Zp d b L cs ys) (hd : d ≤ 4) (hb : b ≤ 1000000) (hl : L ≤ 64) (h2 : (rsOf d cs ys).length ≤ L2) : Zr d (4 * b + 16) L2 (rsOf d cs ys) where
  w := rs_w Z.wc Z.wy
  b := fun r hr => by
    obtain ⟨e, he, rfl⟩ := List.mem_map.mp hr
    obtain ⟨M, R, e1, C⟩ := coneL_ok (wflats Z.wc Z.wy)
    have h3 : e ∈ every (coneL (flats cs ys) (d + 1)) := sides_every he
    have h4 := h3
    rw [e1] at h4
    exact br_splitR (Rk.every (Z.rk hd hb hl) e h3) (C.hdE h4).1
  l := h2
/-! ### counts -/
theorem every_len {C : List Vec × List Vec} : (every C).length = 2 * C.1.length + C.2.length := by
  unfold every
  rw [List.length_append, List.length_append, List.length_map]; omega
theorem lines_le {n : Nat} {A : List Vec} {M : List (Vec × Nat)} {R : List Vec} (C : CI n A M R) : (M.map (·.1)).length ≤ n := by rw [List.length_map]; exact C.lenM
theorem all_ch {d c : Nat} {rows : List Row} (h : Wr d rows) (hc : ∀ j, j < d + 1 → ch (rows.length + 1) j ≤ c) : (allOf d rows).length ≤ 2 * (d + 1) + c := by
  obtain ⟨M, R, e1, C⟩ := coneL_ok (wflatR h)
  unfold allOf
  rw [every_len, e1]
  have h1 := lines_le C
  have h2 := C.count
  rw [List.length_cons, List.length_map] at h2
  have h3 := hc (d + 1 - M.length - 1) (by omega)
  show 2 * (M.map (·.1)).length + R.length ≤ _
  omega
theorem all_gen {d c : Nat} {rows : List Row} (h : Wr d rows) {W : List V} (hW : ∀ x, KB d rows x ↔ Cn (· ∈ W) x) (hl : W.length ≤ c) : (allOf d rows).length ≤ 2 * (d + 1) + c := by
  obtain ⟨M, R, e1, C⟩ := coneL_ok (wflatR h)
  unfold allOf
  rw [every_len, e1]
  have h1 := lines_le C
  have h2 := C.rays_le (W := W) (fun w hw => (hW w).mpr (.mem hw)) fun r hr => (hW _).mp (C.hdE (mem_every.mpr (.inr (.inr hr)))).2
  show 2 * (M.map (·.1)).length + R.length ≤ _
  omega
theorem rs_len {d : Nat} {cs : List Row} {ys : List Vec} : (rsOf d cs ys).length ≤ 2 * (coneL (flats cs ys) (d + 1)).1.length + (coneL (flats cs ys) (d + 1)).2.length := by
  unfold rsOf
  rw [List.length_map, every_len]
  have := List.length_filter_le (fun q => (cs.map flatP).any fun p => decide (dI q p = 0)) (coneL (flats cs ys) (d + 1)).2
  unfold sidesL
  dsimp only
  omega
theorem rs_ch {d c : Nat} {cs : List Row} {ys : List Vec} (h1 : Wp d cs) (h2 : Wy d ys) (hc : ∀ j, j < d + 1 → ch (cs.length + ys.length) j ≤ c) : (rsOf d cs ys).length ≤ 2 * (d + 1) + c := by
  obtain ⟨M, R, e1, C⟩ := coneL_ok (wflats h1 h2)
  have h0 := rs_len (d := d) (cs := cs) (ys := ys)
  rw [e1] at h0
  have h3 := lines_le C
  have h4 := C.count
  unfold flats at h4
  rw [List.length_append, List.length_map, List.length_map] at h4
  have h5 := hc (d + 1 - M.length - 1) (by omega)
  dsimp only at h0
  omega
theorem rs_dual {d c : Nat} {cs : List Row} {ys : List Vec} (h1 : Wp d cs) (h2 : Wy d ys) {A : List V} (hA : ∀ a ∈ A, Su (d + 1) a) (hV : ∀ x, Cv (flats cs ys) x ↔ Hd (d + 1) A x) (hl : A.length ≤ c) : (rsOf d cs ys).length ≤ 2 * (d + 1) + c := by
  obtain ⟨M, R, e1, C⟩ := coneL_ok (wflats h1 h2)
  have h0 := rs_len (d := d) (cs := cs) (ys := ys)
  rw [e1] at h0
  have h3 := lines_le C
  have h4 := C.rays_le (W := A) (fun a ha => ⟨hA a ha, fun b hb => by rw [dt_comm]; exact ((hV b).mp (.mem hb)).2 a ha⟩) fun r hr =>
    farkas A hA _ (su_vz (C.wR r hr)) fun y hy hp => by
      have h5 := (hV y).mpr ⟨hy, hp⟩
      exact Cn.dt0 h5 fun b hb => by rw [dt_comm]; exact C.dd.pos _ ⟨r, hr, rfl⟩ b hb
  dsimp only at h0
  omega
end CM

namespace CH
open PySem
@[simp] def m_law_dim : List St :=
  [sRet (mIx (mLst [(mK (.int 2)), (mK (.int 1)), (mK (.int 2)), (mK (.int 3)), (mK (.int 2)), (mK (.int 1)), (mK (.int 2)), (mK (.int 4))]) (mCall f_law_taken [(mV 0), (mK (.int 8))]))]
def f_law_dim : Sm := dfn 1 1 m_law_dim
@[simp] def mis_whole : List St :=
  [sRet (mAnd [(mInst "int" (mV 0)), (mNot (mInst "bool" (mV 0)))])]
def fis_whole : Sm := dfn 1 1 mis_whole
@[simp] def mneed_dim : List St :=
  [sIf [0] (tOr [(tNot (tE (mCall fis_whole [(mV 0)]))), (tNot (tE (mCmp2 .LtE .LtE (mK (.int 1)) (mV 0) (mK (.int 4)))))])
     [sNo]
     []]
def fneed_dim : Sm := dfn 1 1 mneed_dim
@[simp] def mis_row : List St :=
  [sRet (mAnd [(mInst "tuple" (mV 0)), (mCmp .Eq (mBlt "len" [(mB 0)]) (mB 1)), (mBlt "all" [(mComp (mIts (mB 0)) (mBd 2) mTrue (mCall fis_whole [(mV 2)]) [2])])])]
def fis_row : Sm := dfn 3 2 mis_row
@[simp] def mneed_rows : List St :=
  [sEx [0] (mCall fneed_dim [(mV 0)]),
   sIf [1] (tNot (tE (mInst "list" (mV 1))))
     [sNo]
     [],
   sFor [1] (mIts (mV 1)) (mBd 2)
     [sIf [2, 0] (tOr [(tNot (tE (mInst "tuple" (mV 2)))), (tE (mCmp .NotEq (mBlt "len" [(mB 2)]) (mK (.int 2)))), (tNot (tE (mCall fis_row [(mIx (mB 2) (mK (.int 0))), (mV 0)]))), (tNot (tE (mCall fis_whole [(mIx (mB 2) (mK (.int 1)))])))])
        [sNo]
        []]]
def fneed_rows : Sm := dfn 3 2 mneed_rows
@[simp] def mwith_opposites : List St :=
  [sRet (mBin .Add (mBin .Add (mB 0) (mComp (mIts (mB 0)) (mBd 2) mTrue (mCall fopposite [(mV 2)]) [2])) (mB 1))]
def fwith_opposites : Sm := dfn 3 2 mwith_opposites
@[simp] def mcorners_of : List St :=
  [sSet 2 [] (mComp (mIts (mB 1)) (mBd 7) mTrue (mBin .Add (mIx (mB 7) (mK (.int 0))) (mTup [(mBin .Sub (mK (.int 0)) (mIx (mB 7) (mK (.int 1))))])) [7]),
   sTup [5, 6] [0] (mCall fcone [(mBin .Add (mLst [(mCall funit [(mBin .Add (mB 0) (mK (.int 1))), (mV 0)])]) (mB 2)), (mBin .Add (mB 0) (mK (.int 1)))]),
   sSet 3 [5, 6] (mCall fwith_opposites [(mV 5), (mV 6)]),
   sSet 4 [0, 0, 0] (mComp (mIts (mB 3)) (mBd 8) (tE (mCmp .Gt (mIx (mB 8) (mV 0)) (mK (.int 0)))) (mTup [(mSl (mB 8) none (some (mV 0))), (mIx (mB 8) (mV 0))]) [8]),
   sIf [] (tE (mCmp .Eq (mBlt "len" [(mB 4)]) (mK (.int 0))))
     [sRet (mTup [(mLst []), (mLst [])])]
     [],
   sRet (mTup [(mBlt "sorted" [(mB 4)]), (mBlt "sorted" [(mComp (mIts (mB 3)) (mBd 8) (tE (mCmp .Eq (mIx (mB 8) (mV 0)) (mK (.int 0)))) (mSl (mB 8) none (some (mV 0))) [8])])])]
def fcorners_of : Sm := dfn 9 2 mcorners_of
@[simp] def mrows_of : List St :=
  [sIf [] (tE (mCmp .Eq (mBlt "len" [(mB 1)]) (mK (.int 0))))
     [sRet (mLst [(mTup [(mBlt "tuple" [(mComp (mRng (mB 0)) (mBd 12) mTrue (mK (.int 0)) [12])]), (mK (.int 1))])])]
     [],
   sSet 3 [] (mBin .Add (mComp (mIts (mB 1)) (mBd 9) mTrue (mBin .Add (mIx (mB 9) (mK (.int 0))) (mTup [(mIx (mB 9) (mK (.int 1)))])) [9]) (mComp (mIts (mB 2)) (mBd 10) mTrue (mBin .Add (mB 10) (mTup [(mK (.int 0))])) [10])),
   sTup [6, 7] [3] (mCall fcone [(mV 3), (mBin .Add (mB 0) (mK (.int 1)))]),
   sSet 4 [] (mSl (mB 3) none (some (mBlt "len" [(mB 1)]))),
   sSet 5 [] (mComp (mIts (mB 7)) (mBd 8) (tE (mBlt "any" [(mComp (mIts (mB 4)) (mBd 11) mTrue (mCmp .Eq (mCall fdot [(mV 8), (mV 11)]) (mK (.int 0))) [11])])) (mV 8) [8]),
   sRet (mBlt "sorted" [(mComp (mIts (mCall fwith_opposites [(mV 6), (mV 5)])) (mBd 8) mTrue (mTup [(mSl (mB 8) none (some (mV 0))), (mBin .Sub (mK (.int 0)) (mIx (mB 8) (mV 0)))]) [8])])]
def frows_of : Sm := dfn 13 3 mrows_of
@[simp] def mby_rows : List St :=
  [sEx [0, 1] (mCall fneed_rows [(mV 0), (mV 1)]),
   sTup [2, 3] [0, 1] (mCall fcorners_of [(mV 0), (mV 1)]),
   sRet (mMk [(mV 0), (mCall frows_of [(mV 0), (mV 2), (mV 3)]), (mV 2), (mV 3)])]
def fby_rows : Sm := dfn 4 2 mby_rows
@[simp] def mis_point : List St :=
  [sIf [1, 0] (tOr [(tNot (tE (mInst "tuple" (mV 1)))), (tE (mCmp .NotEq (mBlt "len" [(mB 1)]) (mK (.int 2)))), (tNot (tE (mCall fis_row [(mIx (mB 1) (mK (.int 0))), (mV 0)])))])
     [sRet (mK (.bl false))]
     [],
   sRet (mAnd [(mCall fis_whole [(mIx (mB 1) (mK (.int 1)))]), (mCmp .GtE (mIx (mB 1) (mK (.int 1))) (mK (.int 1)))])]
def fis_point : Sm := dfn 2 2 mis_point
@[simp] def mneed_point : List St :=
  [sIf [0, 1] (tNot (tE (mCall fis_point [(mV 0), (mV 1)])))
     [sNo]
     []]
def fneed_point : Sm := dfn 2 2 mneed_point
@[simp] def mneed_corners : List St :=
  [sEx [0] (mCall fneed_dim [(mV 0)]),
   sIf [1, 2] (tOr [(tNot (tE (mInst "list" (mV 1)))), (tNot (tE (mInst "list" (mV 2))))])
     [sNo]
     [],
   sFor [1] (mIts (mV 1)) (mBd 3)
     [sEx [0, 3] (mCall fneed_point [(mV 0), (mV 3)])],
   sFor [2] (mIts (mV 2)) (mBd 4)
     [sIf [4, 0] (tOr [(tNot (tE (mCall fis_row [(mV 4), (mV 0)]))), (tNot (tE (mBlt "any" [(mComp (mIts (mB 4)) (mBd 5) mTrue (mCmp .NotEq (mB 5) (mK (.int 0))) [5])])))])
        [sNo]
        []]]
def fneed_corners : Sm := dfn 6 3 mneed_corners
@[simp] def mby_corners : List St :=
  [sEx [0, 1, 2] (mCall fneed_corners [(mV 0), (mV 1), (mV 2)]),
   sSet 3 [0, 1, 2] (mCall frows_of [(mV 0), (mV 1), (mV 2)]),
   sSet 4 [0, 3] (mCall fcorners_of [(mV 0), (mV 3)]),
   sRet (mMk [(mV 0), (mV 3), (mIx (mB 4) (mK (.int 0))), (mIx (mB 4) (mK (.int 1)))])]
def fby_corners : Sm := dfn 5 3 mby_corners
@[simp] def m_law_rows : List St :=
  [sOwn 3 [] (mLst []),
   sFor [0] (mRng (mCall f_law_taken [(mV 0), (mBin .Add (mB 2) (mK (.int 1)))])) (mBd 4)
     [sSet 5 [0] (mCall f_law_taken [(mV 0), (mK (.int 6))]),
      sSet 6 [0, 1, 0] (mTup [(mCall f_law_numbers [(mV 0), (mV 1), (mK (.int 3))]), (mCall f_law_number [(mV 0), (mK (.int 4))])]),
      sIf [] (tE (mCmp .Eq (mB 5) (mK (.int 4))))
        [sSet 7 [0, 1] (mCall f_law_taken [(mV 0), (mV 1)]),
         sSet 6 [1, 0, 0] (mTup [(mBlt "tuple" [(mComp (mRng (mB 1)) (mBd 9) mTrue (mBin .Mult (mBin .Sub (mK (.int 1)) (mBin .Mult (mK (.int 2)) (mCall f_law_taken [(mV 0), (mK (.int 2))]))) (mBlt "int" [(mCmp .Eq (mB 9) (mB 7))])) [9])]), (mCall f_law_number [(mV 0), (mK (.int 4))])])]
        [],
      sIf [] (tAnd [(tE (mCmp .Eq (mB 5) (mK (.int 5)))), (tE (mCmp .Gt (mBlt "len" [(mB 3)]) (mK (.int 0))))])
        [sSet 8 [0] (mIx (mB 3) (mCall f_law_taken [(mV 0), (mBlt "len" [(mB 3)])])),
         sSet 6 [0] (mTup [(mBlt "tuple" [(mComp (mIts (mIx (mB 8) (mK (.int 0)))) (mBd 10) mTrue (mBin .Sub (mK (.int 0)) (mB 10)) [10])]), (mBin .Sub (mBin .Sub (mK (.int 0)) (mIx (mB 8) (mK (.int 1)))) (mCall f_law_taken [(mV 0), (mK (.int 3))]))])]
        [],
      sApp 3 [6] (mV 6)],
   sRet (mV 3)]
def f_law_rows : Sm := dfn 11 3 m_law_rows
@[simp] def m_law_point : List St :=
  [sRet (mTup [(mCall f_law_numbers [(mV 0), (mV 1), (mV 2)]), (mBin .Add (mK (.int 1)) (mCall f_law_taken [(mV 0), (mK (.int 3))]))])]
def f_law_point : Sm := dfn 3 3 m_law_point
@[simp] def m_law_corners : List St :=
  [sRet (mComp (mRng (mCall f_law_taken [(mV 0), (mBin .Add (mB 2) (mK (.int 1)))])) (mBd 3) mTrue (mCall f_law_point [(mV 0), (mV 1), (mK (.int 3))]) [3])]
def f_law_corners : Sm := dfn 4 3 m_law_corners
@[simp] def m_law_ray : List St :=
  [sSet 3 [0, 1, 2] (mCall f_law_numbers [(mV 0), (mV 1), (mV 2)]),
   sIf [] (tE (mCmp .Eq (mComp (mIts (mB 3)) (mBd 5) (tE (mCmp .NotEq (mB 5) (mK (.int 0)))) (mV 5) [5]) (mLst [])))
     [sSet 4 [0, 1] (mCall f_law_taken [(mV 0), (mV 1)]),
      sRet (mBlt "tuple" [(mComp (mRng (mB 1)) (mBd 6) mTrue (mBlt "int" [(mCmp .Eq (mB 6) (mB 4))]) [6])])]
     [],
   sRet (mV 3)]
def f_law_ray : Sm := dfn 7 3 m_law_ray
@[simp] def m_law_rays : List St :=
  [sOwn 3 [] (mLst []),
   sFor [0] (mRng (mCall f_law_taken [(mV 0), (mBin .Add (mB 2) (mK (.int 1)))])) (mBd 4)
     [sSet 5 [0, 1] (mCall f_law_ray [(mV 0), (mV 1), (mK (.int 2))]),
      sIf [0] (tAnd [(tE (mCmp .Gt (mBlt "len" [(mB 3)]) (mK (.int 0)))), (tE (mCmp .Eq (mCall f_law_taken [(mV 0), (mK (.int 4))]) (mK (.int 3))))])
        [sSet 5 [] (mBlt "tuple" [(mComp (mIts (mIx (mB 3) (mNeg (mK (.int 1))))) (mBd 6) mTrue (mBin .Sub (mK (.int 0)) (mB 6)) [6])])]
        [],
      sApp 3 [5] (mV 5)],
   sRet (mV 3)]
def f_law_rays : Sm := dfn 7 3 m_law_rays
@[simp] def m_law_most : List St :=
  [sRet (mIx (mLst [(mK (.int 0)), (mK (.int 5)), (mK (.int 6)), (mK (.int 5)), (mK (.int 4))]) (mV 0))]
def f_law_most : Sm := dfn 1 1 m_law_most
@[simp] def m_law_body : List St :=
  [sIf [0] (tE (mCmp .Eq (mCall f_law_taken [(mV 0), (mK (.int 2))]) (mK (.int 1))))
     [sRet (mCall fby_corners [(mV 1), (mCall f_law_corners [(mV 0), (mV 1), (mK (.int 4))]), (mCall f_law_rays [(mV 0), (mV 1), (mK (.int 2))])])]
     [],
   sRet (mCall fby_rows [(mV 1), (mCall f_law_rows [(mV 0), (mV 1), (mCall f_law_most [(mV 1)])])])]
def f_law_body : Sm := dfn 2 2 m_law_body
@[simp] def m_law_small : List St :=
  [sIf [0] (tE (mCmp .Eq (mCall f_law_taken [(mV 0), (mK (.int 2))]) (mK (.int 1))))
     [sRet (mCall fby_corners [(mV 1), (mCall f_law_corners [(mV 0), (mV 1), (mK (.int 3))]), (mCall f_law_rays [(mV 0), (mV 1), (mK (.int 1))])])]
     [],
   sRet (mCall fby_rows [(mV 1), (mCall f_law_rows [(mV 0), (mV 1), (mBin .Add (mK (.int 3)) (mBlt "int" [(mCmp .Lt (mB 1) (mK (.int 3)))]))])])]
def f_law_small : Sm := dfn 2 2 m_law_small
@[simp] def m_law_holds : List St :=
  [sRet (mCmp .GtE (mCall f_law_dot [(mIx (mB 0) (mK (.int 0))), (mIx (mB 1) (mK (.int 0)))]) (mBin .Mult (mIx (mB 0) (mK (.int 1))) (mIx (mB 1) (mK (.int 1)))))]
def f_law_holds : Sm := dfn 2 2 m_law_holds
@[simp] def m_law_agrees : List St :=
  [sFor [0] (mIts (mV 0)) (mBd 3)
     [sIf [3] (tNot (tE (mBlt "all" [(mComp (mIts (mB 1)) (mBd 4) mTrue (mCall f_law_holds [(mV 3), (mV 4)]) [4])])))
        [sRet (mK (.bl false))]
        [],
      sIf [] (tNot (tE (mBlt "all" [(mComp (mIts (mB 2)) (mBd 5) mTrue (mCmp .GtE (mCall f_law_dot [(mIx (mB 3) (mK (.int 0))), (mV 5)]) (mK (.int 0))) [5])])))
        [sRet (mK (.bl false))]
        []],
   sRet (mK (.bl true))]
def f_law_agrees : Sm := dfn 6 3 m_law_agrees
@[simp] def m_law_says : List St :=
  [sRet (mAnd [(mInst "bool" (mV 0)), (mCmp .Eq (mB 0) (mB 1))])]
def f_law_says : Sm := dfn 2 2 m_law_says
@[simp] def mneed_alike : List St :=
  [sIf [0, 1] (tE (mCmp .NotEq (mAt "dim" (mV 0)) (mAt "dim" (mV 1))))
     [sNo]
     []]
def fneed_alike : Sm := dfn 2 2 mneed_alike
@[simp] def mholds_row : List St :=
  [sRet (mCmp .GtE (mCall fdot [(mIx (mB 0) (mK (.int 0))), (mIx (mB 1) (mK (.int 0)))]) (mBin .Mult (mIx (mB 0) (mK (.int 1))) (mIx (mB 1) (mK (.int 1)))))]
def fholds_row : Sm := dfn 2 2 mholds_row
@[simp] def mwithin : List St :=
  [sEx [0, 1] (mCall fneed_alike [(mV 0), (mV 1)]),
   sFor [1] (mIts (mAt "rows" (mV 1))) (mBd 2)
     [sIf [0, 2] (tNot (tE (mBlt "all" [(mComp (mIts (mAt "corners" (mV 0))) (mBd 3) mTrue (mCall fholds_row [(mV 2), (mV 3)]) [3])])))
        [sRet (mK (.bl false))]
        [],
      sIf [0] (tNot (tE (mBlt "all" [(mComp (mIts (mAt "rays" (mV 0))) (mBd 4) mTrue (mCmp .GtE (mCall fdot [(mIx (mB 2) (mK (.int 0))), (mV 4)]) (mK (.int 0))) [4])])))
        [sRet (mK (.bl false))]
        []],
   sRet (mK (.bl true))]
def fwithin : Sm := dfn 5 2 mwithin
@[simp] def msame : List St :=
  [sRet (mAnd [(mCall fwithin [(mV 0), (mV 1)]), (mCall fwithin [(mV 1), (mV 0)])])]
def fsame : Sm := dfn 2 2 msame
@[simp] def m_law_near : List St :=
  [sSet 4 [0] (mCall f_law_taken [(mV 0), (mK (.int 4))]),
   sIf [] (tOr [(tE (mCmp .Eq (mB 4) (mK (.int 0)))), (tE (mCmp .Eq (mBlt "len" [(mB 2)]) (mK (.int 0))))])
     [sRet (mCall f_law_point [(mV 0), (mV 1), (mK (.int 4))])]
     [],
   sSet 5 [0] (mIx (mB 2) (mCall f_law_taken [(mV 0), (mBlt "len" [(mB 2)])])),
   sSet 6 [0] (mIx (mB 2) (mCall f_law_taken [(mV 0), (mBlt "len" [(mB 2)])])),
   sSet 7 [0] (mCall f_law_taken [(mV 0), (mK (.int 4))]),
   sSet 8 [1] (mComp (mRng (mB 1)) (mBd 12) mTrue (mBin .Add (mBin .Mult (mIx (mIx (mB 5) (mK (.int 0))) (mV 12)) (mIx (mB 6) (mK (.int 1)))) (mBin .Mult (mBin .Mult (mB 7) (mIx (mIx (mB 6) (mK (.int 0))) (mV 12))) (mIx (mB 5) (mK (.int 1))))) [12]),
   sSet 9 [] (mBin .Mult (mBin .Mult (mBin .Add (mK (.int 1)) (mB 7)) (mIx (mB 5) (mK (.int 1)))) (mIx (mB 6) (mK (.int 1)))),
   sIf [] (tAnd [(tE (mCmp .Eq (mB 4) (mK (.int 2)))), (tE (mCmp .Gt (mBlt "len" [(mB 3)]) (mK (.int 0))))])
     [sSet 10 [0] (mIx (mB 3) (mCall f_law_taken [(mV 0), (mBlt "len" [(mB 3)])])),
      sSet 8 [1] (mComp (mRng (mB 1)) (mBd 12) mTrue (mBin .Add (mIx (mB 8) (mV 12)) (mBin .Mult (mB 9) (mIx (mB 10) (mV 12)))) [12])]
     [],
   sIf [] (tE (mCmp .Eq (mB 4) (mK (.int 3))))
     [sSet 11 [0, 1] (mCall f_law_taken [(mV 0), (mV 1)]),
      sSet 8 [1, 0] (mComp (mRng (mB 1)) (mBd 12) mTrue (mBin .Add (mIx (mB 8) (mV 12)) (mBin .Mult (mBlt "int" [(mCmp .Eq (mB 12) (mB 11))]) (mBin .Sub (mK (.int 1)) (mBin .Mult (mK (.int 2)) (mCall f_law_taken [(mV 0), (mK (.int 2))]))))) [12])]
     [],
   sRet (mTup [(mBlt "tuple" [(mB 8)]), (mV 9)])]
def f_law_near : Sm := dfn 13 4 m_law_near
@[simp] def mrows_round : List St :=
  [sTup [2, 3] [0, 1] (mCall fcone [(mV 0), (mV 1)]),
   sRet (mBin .Add (mBin .Add (mB 2) (mComp (mIts (mB 2)) (mBd 4) mTrue (mCall fopposite [(mV 4)]) [4])) (mB 3))]
def frows_round : Sm := dfn 5 2 mrows_round
@[simp] def mis_crossed : List St :=
  [sFor [0] (mIts (mV 0)) (mBd 2)
     [sIf [2, 1] (tE (mCmp .Gt (mCall fdot [(mV 2), (mV 1)]) (mK (.int 0))))
        [sRet (mK (.bl true))]
        []],
   sRet (mK (.bl false))]
def fis_crossed : Sm := dfn 3 2 mis_crossed
@[simp] def mnext_place : List St :=
  [sSet 3 [2] (mComp (mIts (mB 1)) (mBd 5) (tE (mCmp .Eq (mCall fdot [(mV 5), (mV 2)]) (mK (.int 0)))) (mV 5) [5]),
   sFor [] (mRng (mBlt "len" [(mB 0)])) (mBd 4)
     [sIf [1, 4, 3, 4] (tAnd [(tE (mCall fis_crossed [(mV 1), (mIx (mB 0) (mV 4))])), (tNot (tE (mCall fis_crossed [(mV 3), (mIx (mB 0) (mV 4))])))])
        [sRet (mV 4)]
        []],
   sRet (mK .non)]
def fnext_place : Sm := dfn 6 3 mnext_place
@[simp] def mnearest : List St :=
  [sSet 3 [] (mK .non),
   sFor [0] (mIts (mV 0)) (mBd 4)
     [sIf [4, 2] (tE (mCmp .Gt (mCall fdot [(mV 4), (mV 2)]) (mK (.int 0))))
        [sSet 5 [4, 1, 4, 2] (mTup [(mCall fdot [(mV 4), (mV 1)]), (mCall fdot [(mV 4), (mV 2)])]),
         sIf [] (tOr [(tE (mCmp .Is (mB 3) (mK .non))), (tE (mCmp .Lt (mBin .Mult (mIx (mB 5) (mK (.int 0))) (mIx (mB 3) (mK (.int 1)))) (mBin .Mult (mIx (mB 3) (mK (.int 0))) (mIx (mB 5) (mK (.int 1))))))])
           [sSet 3 [5] (mV 5)]
           []]
        []],
   sRet (mV 3)]
def fnearest : Sm := dfn 6 3 mnearest
@[simp] def mfew_along : List St :=
  [sFor [] (mIts (mBlt "list" [(mB 1)])) (mBd 3)
     [sSet 4 [] (mComp (mIts (mB 1)) (mBd 6) (tE (mCmp .NotEq (mB 6) (mB 3))) (mV 6) [6]),
      sSet 5 [] (mCall frows_round [(mComp (mIts (mB 4)) (mBd 6) mTrue (mIx (mB 0) (mV 6)) [6]), (mBlt "len" [(mB 2)])]),
      sIf [2] (tE (mBlt "all" [(mComp (mIts (mB 5)) (mBd 7) mTrue (mCmp .GtE (mCall fdot [(mV 7), (mV 2)]) (mK (.int 0))) [7])]))
        [sSet 1 [4] (mV 4)]
        []],
   sRet (mV 1)]
def ffew_along : Sm := dfn 8 3 mfew_along
@[simp] def mmix_of_lines : List St :=
  [sSet 2 [1] (mBin .Add (mB 0) (mLst [(mCall fopposite [(mV 1)])])),
   sSet 3 [] (mBlt "len" [(mB 2)]),
   sSet 4 [3, 3, 5] (mComp (mRng (mB 3)) (mBd 5) mTrue (mCall funit [(mV 3), (mV 5)]) [5]),
   sFor [] (mRng (mBlt "len" [(mB 1)])) (mBd 5)
     [sSet 7 [5] (mBlt "tuple" [(mComp (mIts (mB 2)) (mBd 9) mTrue (mIx (mB 9) (mV 5)) [9])]),
      sSet 4 [7, 7] (mBin .Add (mB 4) (mLst [(mV 7), (mCall fopposite [(mV 7)])]))],
   sSet 6 [4, 3] (mIx (mComp (mIts (mIx (mCall fcone [(mV 4), (mV 3)]) (mK (.int 1)))) (mBd 8) (tE (mCmp .Gt (mIx (mB 8) (mNeg (mK (.int 1)))) (mK (.int 0)))) (mV 8) [8]) (mK (.int 0))),
   sRet (mTup [(mBlt "list" [(mSl (mB 6) none (some (mNeg (mK (.int 1)))))]), (mIx (mB 6) (mNeg (mK (.int 1))))])]
def fmix_of_lines : Sm := dfn 10 2 mmix_of_lines
@[simp] def mthread : List St :=
  [sOwn 3 [] (mComp (mIts (mB 0)) (mBd 9) mTrue (mK (.int 0)) [9]),
   sSet 4 [] (mK (.int 1)),
   sSet 5 [2] (mV 2),
   sSet 6 [0, 1, 5] (mCall fnext_place [(mV 0), (mV 1), (mV 5)]),
   sWh (tE (mCmp .IsNot (mB 6) (mK .non)))
     [sTup [10, 11] [1, 5, 6] (mCall fnearest [(mV 1), (mV 5), (mIx (mB 0) (mV 6))]),
      sOwn 3 [] (mComp (mIts (mB 3)) (mBd 14) mTrue (mBin .Mult (mB 11) (mB 14)) [14]),
      sSt 3 [6] none (mV 6) (mBin .Add (mIx (mB 3) (mV 6)) (mB 10)),
      sSet 4 [] (mBin .Mult (mB 4) (mB 11)),
      sSet 5 [8, 6, 8] (mBlt "tuple" [(mComp (mRng (mBlt "len" [(mB 5)])) (mBd 8) mTrue (mBin .Sub (mBin .Mult (mB 11) (mIx (mB 5) (mV 8))) (mBin .Mult (mB 10) (mIx (mIx (mB 0) (mV 6)) (mV 8)))) [8])]),
      sSet 6 [0, 1, 5] (mCall fnext_place [(mV 0), (mV 1), (mV 5)])],
   sIf [] (tE (mBlt "any" [(mComp (mIts (mB 5)) (mBd 15) mTrue (mCmp .NotEq (mB 15) (mK (.int 0))) [15])]))
     [sSet 7 [0, 1, 8, 8, 5] (mCall ffew_along [(mV 0), (mComp (mRng (mBlt "len" [(mB 0)])) (mBd 8) (tNot (tE (mCall fis_crossed [(mV 1), (mIx (mB 0) (mV 8))]))) (mV 8) [8]), (mV 5)]),
      sTup [12, 13] [8, 5] (mCall fmix_of_lines [(mComp (mIts (mB 7)) (mBd 8) mTrue (mIx (mB 0) (mV 8)) [8]), (mV 5)]),
      sOwn 3 [] (mComp (mIts (mB 3)) (mBd 14) mTrue (mBin .Mult (mB 13) (mB 14)) [14]),
      sSet 4 [] (mBin .Mult (mB 4) (mB 13)),
      sFor [] (mRng (mBlt "len" [(mB 7)])) (mBd 8)
        [sSt 3 [8, 8] none (mIx (mB 7) (mV 8)) (mBin .Add (mIx (mB 3) (mIx (mB 7) (mV 8))) (mIx (mB 12) (mV 8)))]]
     [],
   sRet (mTup [(mV 3), (mV 4)])]
def fthread : Sm := dfn 16 3 mthread
@[simp] def mwoven : List St :=
  [sEx [0, 1, 2] (mCall fneed_corners [(mV 0), (mV 1), (mV 2)]),
   sEx [0, 3] (mCall fneed_point [(mV 0), (mV 3)]),
   sSet 4 [] (mBin .Add (mComp (mIts (mB 1)) (mBd 11) mTrue (mBin .Add (mIx (mB 11) (mK (.int 0))) (mTup [(mIx (mB 11) (mK (.int 1)))])) [11]) (mComp (mIts (mB 2)) (mBd 12) mTrue (mBin .Add (mB 12) (mTup [(mK (.int 0))])) [12])),
   sSet 5 [] (mBin .Add (mIx (mB 3) (mK (.int 0))) (mTup [(mIx (mB 3) (mK (.int 1)))])),
   sSet 6 [4] (mCall frows_round [(mV 4), (mBin .Add (mB 0) (mK (.int 1)))]),
   sFor [6] (mIts (mV 6)) (mBd 7)
     [sIf [7, 5] (tE (mCmp .Lt (mCall fdot [(mV 7), (mV 5)]) (mK (.int 0))))
        [sRet (mTup [(mK (.str "row")), (mTup [(mSl (mB 7) none (some (mV 0))), (mBin .Sub (mK (.int 0)) (mIx (mB 7) (mV 0)))])])]
        []],
   sTup [9, 10] [4, 6, 5] (mCall fthread [(mV 4), (mV 6), (mV 5)]),
   sSet 8 [] (mBlt "len" [(mB 1)]),
   sRet (mTup [(mK (.str "made")), (mSl (mB 9) none (some (mV 8))), (mSl (mB 9) (some (mV 8)) none), (mV 10)])]
def fwoven : Sm := dfn 13 4 mwoven
@[simp] def m_law_often : List St :=
  [sIf [0] (tAnd [(tE (mCmp .Eq (mCall f_law_taken [(mV 0), (mK (.int 9))]) (mK (.int 8)))), (tE (mCmp .Lt (mB 1) (mK (.int 3))))])
     [sRet (mK (.int 10))]
     [],
   sRet (mV 2)]
def f_law_often : Sm := dfn 3 3 m_law_often
@[simp] def m_law_sums : List St :=
  [sSet 3 [2] (mComp (mRng (mB 2)) (mBd 5) mTrue (mK (.int 0)) [5]),
   sFor [] (mRng (mBlt "len" [(mB 0)])) (mBd 4)
     [sSet 3 [2, 4, 4] (mComp (mRng (mB 2)) (mBd 5) mTrue (mBin .Add (mIx (mB 3) (mV 5)) (mBin .Mult (mIx (mB 1) (mV 4)) (mIx (mIx (mB 0) (mV 4)) (mV 5)))) [5])],
   sRet (mV 3)]
def f_law_sums : Sm := dfn 6 3 m_law_sums
@[simp] def m_law_is_weights : List St :=
  [sIf [0] (tOr [(tNot (tE (mInst "list" (mV 0)))), (tE (mCmp .NotEq (mBlt "len" [(mB 0)]) (mB 1)))])
     [sRet (mK (.bl false))]
     [],
   sRet (mBlt "all" [(mComp (mIts (mB 0)) (mBd 2) mTrue (mAnd [(mCall f_law_whole [(mV 2)]), (mCmp .GtE (mB 2) (mK (.int 0)))]) [2])])]
def f_law_is_weights : Sm := dfn 3 2 m_law_is_weights
@[simp] def m_law_is_made : List St :=
  [sIf [] (tOr [(tE (mCmp .NotEq (mBlt "len" [(mB 0)]) (mK (.int 4)))), (tNot (tE (mCall f_law_is_weights [(mIx (mB 0) (mK (.int 1))), (mBlt "len" [(mB 2)])]))), (tNot (tE (mCall f_law_is_weights [(mIx (mB 0) (mK (.int 2))), (mBlt "len" [(mB 3)])])))])
     [sRet (mK (.bl false))]
     [],
   sIf [] (tOr [(tNot (tE (mCall f_law_whole [(mIx (mB 0) (mK (.int 3)))]))), (tE (mCmp .Lt (mIx (mB 0) (mK (.int 3))) (mK (.int 1))))])
     [sRet (mK (.bl false))]
     [],
   sSet 5 [] (mBin .Add (mComp (mIts (mB 2)) (mBd 7) mTrue (mBin .Add (mIx (mB 7) (mK (.int 0))) (mTup [(mIx (mB 7) (mK (.int 1)))])) [7]) (mComp (mIts (mB 3)) (mBd 8) mTrue (mBin .Add (mB 8) (mTup [(mK (.int 0))])) [8])),
   sSet 6 [] (mBin .Add (mComp (mIts (mIx (mB 4) (mK (.int 0)))) (mBd 9) mTrue (mBin .Mult (mIx (mB 0) (mK (.int 3))) (mB 9)) [9]) (mLst [(mBin .Mult (mIx (mB 0) (mK (.int 3))) (mIx (mB 4) (mK (.int 1))))])),
   sRet (mCmp .Eq (mCall f_law_sums [(mV 5), (mBin .Add (mIx (mB 0) (mK (.int 1))) (mIx (mB 0) (mK (.int 2)))), (mBin .Add (mB 1) (mK (.int 1)))]) (mB 6))]
def f_law_is_made : Sm := dfn 10 5 m_law_is_made
@[simp] def m_law_is_row : List St :=
  [sIf [0, 1] (tOr [(tNot (tE (mInst "tuple" (mV 0)))), (tE (mCmp .NotEq (mBlt "len" [(mB 0)]) (mK (.int 2)))), (tNot (tE (mCall f_law_is_numbers [(mIx (mB 0) (mK (.int 0))), (mV 1)])))])
     [sRet (mK (.bl false))]
     [],
   sRet (mCall f_law_whole [(mIx (mB 0) (mK (.int 1)))])]
def f_law_is_row : Sm := dfn 2 2 m_law_is_row
@[simp] def m_law_is_woven : List St :=
  [sIf [0] (tOr [(tNot (tE (mInst "tuple" (mV 0)))), (tE (mCmp .Lt (mBlt "len" [(mB 0)]) (mK (.int 2))))])
     [sRet (mK (.bl false))]
     [],
   sIf [] (tE (mCmp .Eq (mIx (mB 0) (mK (.int 0))) (mK (.str "made"))))
     [sRet (mCall f_law_is_made [(mV 0), (mV 1), (mV 2), (mV 3), (mV 4)])]
     [],
   sIf [1] (tOr [(tE (mCmp .NotEq (mIx (mB 0) (mK (.int 0))) (mK (.str "row")))), (tE (mCmp .NotEq (mBlt "len" [(mB 0)]) (mK (.int 2)))), (tNot (tE (mCall f_law_is_row [(mIx (mB 0) (mK (.int 1))), (mV 1)])))])
     [sRet (mK (.bl false))]
     [],
   sIf [] (tNot (tE (mCall f_law_is_low [(mBin .Add (mIx (mIx (mB 0) (mK (.int 1))) (mK (.int 0))) (mTup [(mIx (mIx (mB 0) (mK (.int 1))) (mK (.int 1)))]))])))
     [sRet (mK (.bl false))]
     [],
   sRet (mAnd [(mCall f_law_agrees [(mLst [(mIx (mB 0) (mK (.int 1)))]), (mV 2), (mV 3)]), (mNot (mCall f_law_holds [(mIx (mB 0) (mK (.int 1))), (mV 4)]))])]
def f_law_is_woven : Sm := dfn 5 5 m_law_is_woven
@[simp] def mBody_holds : List St :=
  [sEx [0, 1] (mCall fneed_point [(mAt "dim" (mV 0)), (mV 1)]),
   sRet (mBlt "all" [(mComp (mIts (mAt "rows" (mV 0))) (mBd 2) mTrue (mCall fholds_row [(mV 2), (mV 1)]) [2])])]
def fBody_holds : Sm := dfn 3 2 mBody_holds
@[simp] def mmixed : List St :=
  [sSet 3 [] (mComp (mIts (mB 1)) (mBd 4) mTrue (mBin .Add (mIx (mB 4) (mK (.int 0))) (mTup [(mIx (mB 4) (mK (.int 1)))])) [4]),
   sRet (mCall fthread [(mV 3), (mCall frows_round [(mV 3), (mBin .Add (mB 0) (mK (.int 1)))]), (mV 2)])]
def fmixed : Sm := dfn 5 3 mmixed
@[simp] def mprices_at : List St :=
  [sSet 4 [7, 7, 7] (mComp (mRng (mBlt "len" [(mB 1)])) (mBd 7) (tE (mCmp .Eq (mCall fdot [(mIx (mIx (mB 1) (mV 7)) (mK (.int 0))), (mIx (mB 3) (mK (.int 0)))]) (mBin .Mult (mIx (mIx (mB 1) (mV 7)) (mK (.int 1))) (mIx (mB 3) (mK (.int 1)))))) (mV 7) [7]),
   sSet 5 [2] (mBin .Add (mBlt "tuple" [(mComp (mIts (mB 2)) (mBd 11) mTrue (mBin .Mult (mIx (mB 3) (mK (.int 1))) (mB 11)) [11])]) (mTup [(mCall fdot [(mV 2), (mIx (mB 3) (mK (.int 0)))])])),
   sTup [8, 9] [0, 7, 5] (mCall fmixed [(mV 0), (mComp (mIts (mB 4)) (mBd 7) mTrue (mIx (mB 1) (mV 7)) [7]), (mV 5)]),
   sOwn 6 [] (mComp (mIts (mB 1)) (mBd 10) mTrue (mK (.int 0)) [10]),
   sFor [] (mRng (mBlt "len" [(mB 4)])) (mBd 7)
     [sSt 6 [7] none (mIx (mB 4) (mV 7)) (mIx (mB 8) (mV 7))],
   sRet (mTup [(mV 6), (mBin .Mult (mB 9) (mIx (mB 3) (mK (.int 1))))])]
def fprices_at : Sm := dfn 12 4 mprices_at
@[simp] def mis_less : List St :=
  [sRet (mCmp .Lt (mBin .Mult (mCall fdot [(mV 2), (mIx (mB 0) (mK (.int 0)))]) (mIx (mB 1) (mK (.int 1)))) (mBin .Mult (mCall fdot [(mV 2), (mIx (mB 1) (mK (.int 0)))]) (mIx (mB 0) (mK (.int 1)))))]
def fis_less : Sm := dfn 3 3 mis_less
@[simp] def mpriced : List St :=
  [sEx [0, 1] (mCall fneed_rows [(mV 0), (mV 1)]),
   sIf [2, 0] (tNot (tE (mCall fis_row [(mV 2), (mV 0)])))
     [sNo]
     [],
   sTup [6, 7] [0, 1] (mCall fcorners_of [(mV 0), (mV 1)]),
   sIf [] (tE (mCmp .Eq (mBlt "len" [(mB 6)]) (mK (.int 0))))
     [sRet (mTup [(mK (.str "empty")), (mIx (mCall fmixed [(mV 0), (mV 1), (mCall funit [(mBin .Add (mB 0) (mK (.int 1))), (mV 0)])]) (mK (.int 0)))])]
     [],
   sSet 3 [2] (mComp (mIts (mB 7)) (mBd 10) (tE (mCmp .Lt (mCall fdot [(mV 2), (mV 10)]) (mK (.int 0)))) (mV 10) [10]),
   sIf [] (tE (mCmp .Gt (mBlt "len" [(mB 3)]) (mK (.int 0))))
     [sRet (mTup [(mK (.str "none")), (mIx (mB 6) (mK (.int 0))), (mIx (mB 3) (mK (.int 0)))])]
     [],
   sSet 4 [] (mIx (mB 6) (mK (.int 0))),
   sFor [] (mIts (mSl (mB 6) (some (mK (.int 1))) none)) (mBd 5)
     [sIf [5, 4, 2] (tE (mCall fis_less [(mV 5), (mV 4), (mV 2)]))
        [sSet 4 [5] (mV 5)]
        []],
   sTup [8, 9] [0, 1, 2, 4] (mCall fprices_at [(mV 0), (mV 1), (mV 2), (mV 4)]),
   sRet (mTup [(mK (.str "least")), (mV 4), (mV 8), (mV 9)])]
def fpriced : Sm := dfn 11 3 mpriced
@[simp] def m_law_is_empty_sum : List St :=
  [sIf [0] (tNot (tE (mCall f_law_is_weights [(mV 0), (mBlt "len" [(mB 2)])])))
     [sRet (mK (.bl false))]
     [],
   sSet 3 [0] (mCall f_law_sums [(mComp (mIts (mB 2)) (mBd 4) mTrue (mBin .Add (mIx (mB 4) (mK (.int 0))) (mTup [(mIx (mB 4) (mK (.int 1)))])) [4]), (mV 0), (mBin .Add (mB 1) (mK (.int 1)))]),
   sRet (mAnd [(mCmp .Eq (mSl (mB 3) none (some (mV 1))) (mComp (mRng (mB 1)) (mBd 5) mTrue (mK (.int 0)) [5])), (mCmp .Gt (mIx (mB 3) (mV 1)) (mK (.int 0)))])]
def f_law_is_empty_sum : Sm := dfn 6 3 m_law_is_empty_sum
@[simp] def m_law_is_point : List St :=
  [sIf [0, 1] (tOr [(tNot (tE (mInst "tuple" (mV 0)))), (tE (mCmp .NotEq (mBlt "len" [(mB 0)]) (mK (.int 2)))), (tNot (tE (mCall f_law_is_numbers [(mIx (mB 0) (mK (.int 0))), (mV 1)])))])
     [sRet (mK (.bl false))]
     [],
   sRet (mAnd [(mCall f_law_whole [(mIx (mB 0) (mK (.int 1)))]), (mCmp .GtE (mIx (mB 0) (mK (.int 1))) (mK (.int 1))), (mCall f_law_is_low [(mBin .Add (mIx (mB 0) (mK (.int 0))) (mTup [(mIx (mB 0) (mK (.int 1)))]))])])]
def f_law_is_point : Sm := dfn 2 2 m_law_is_point
@[simp] def m_law_is_priced : List St :=
  [sIf [0] (tOr [(tNot (tE (mInst "tuple" (mV 0)))), (tE (mCmp .Lt (mBlt "len" [(mB 0)]) (mK (.int 2))))])
     [sRet (mK (.bl false))]
     [],
   sIf [] (tE (mCmp .Eq (mIx (mB 0) (mK (.int 0))) (mK (.str "empty"))))
     [sRet (mAnd [(mCmp .Eq (mBlt "len" [(mB 0)]) (mK (.int 2))), (mCall f_law_is_empty_sum [(mIx (mB 0) (mK (.int 1))), (mV 1), (mV 2)])])]
     [],
   sIf [1] (tOr [(tNot (tE (mCall f_law_is_point [(mIx (mB 0) (mK (.int 1))), (mV 1)]))), (tNot (tE (mBlt "all" [(mComp (mIts (mB 2)) (mBd 5) mTrue (mCall f_law_holds [(mV 5), (mIx (mB 0) (mK (.int 1)))]) [5])])))])
     [sRet (mK (.bl false))]
     [],
   sIf [] (tE (mCmp .Eq (mIx (mB 0) (mK (.int 0))) (mK (.str "none"))))
     [sIf [1] (tOr [(tE (mCmp .NotEq (mBlt "len" [(mB 0)]) (mK (.int 3)))), (tNot (tE (mCall f_law_is_numbers [(mIx (mB 0) (mK (.int 2))), (mV 1)]))), (tNot (tE (mCall f_law_is_low [(mIx (mB 0) (mK (.int 2)))])))])
        [sRet (mK (.bl false))]
        [],
      sIf [3] (tE (mCmp .GtE (mCall f_law_dot [(mV 3), (mIx (mB 0) (mK (.int 2)))]) (mK (.int 0))))
        [sRet (mK (.bl false))]
        [],
      sRet (mBlt "all" [(mComp (mIts (mB 2)) (mBd 5) mTrue (mCmp .GtE (mCall f_law_dot [(mIx (mB 5) (mK (.int 0))), (mIx (mB 0) (mK (.int 2)))]) (mK (.int 0))) [5])])]
     [],
   sIf [] (tOr [(tE (mCmp .NotEq (mIx (mB 0) (mK (.int 0))) (mK (.str "least")))), (tE (mCmp .NotEq (mBlt "len" [(mB 0)]) (mK (.int 4)))), (tNot (tE (mCall f_law_is_weights [(mIx (mB 0) (mK (.int 2))), (mBlt "len" [(mB 2)])])))])
     [sRet (mK (.bl false))]
     [],
   sIf [] (tOr [(tNot (tE (mCall f_law_whole [(mIx (mB 0) (mK (.int 3)))]))), (tE (mCmp .Lt (mIx (mB 0) (mK (.int 3))) (mK (.int 1))))])
     [sRet (mK (.bl false))]
     [],
   sSet 4 [] (mCall f_law_sums [(mComp (mIts (mB 2)) (mBd 5) mTrue (mBin .Add (mIx (mB 5) (mK (.int 0))) (mTup [(mIx (mB 5) (mK (.int 1)))])) [5]), (mIx (mB 0) (mK (.int 2))), (mBin .Add (mB 1) (mK (.int 1)))]),
   sIf [1] (tE (mCmp .NotEq (mSl (mB 4) none (some (mV 1))) (mComp (mIts (mB 3)) (mBd 6) mTrue (mBin .Mult (mIx (mB 0) (mK (.int 3))) (mB 6)) [6])))
     [sRet (mK (.bl false))]
     [],
   sRet (mCmp .Eq (mBin .Mult (mIx (mB 4) (mV 1)) (mIx (mIx (mB 0) (mK (.int 1))) (mK (.int 1)))) (mBin .Mult (mIx (mB 0) (mK (.int 3))) (mCall f_law_dot [(mV 3), (mIx (mIx (mB 0) (mK (.int 1))) (mK (.int 0)))])))]
def f_law_is_priced : Sm := dfn 7 4 m_law_is_priced
@[simp] def mparted : List St :=
  [sEx [0, 1] (mCall fneed_alike [(mV 0), (mV 1)]),
   sSet 2 [0, 1] (mBin .Add (mAt "rows" (mV 0)) (mAt "rows" (mV 1))),
   sSet 3 [0, 2] (mIx (mCall fcorners_of [(mAt "dim" (mV 0)), (mV 2)]) (mK (.int 0))),
   sIf [] (tE (mCmp .Gt (mBlt "len" [(mB 3)]) (mK (.int 0))))
     [sRet (mTup [(mK (.str "meet")), (mIx (mB 3) (mK (.int 0)))])]
     [],
   sSet 4 [0, 2, 0, 0] (mIx (mCall fmixed [(mAt "dim" (mV 0)), (mV 2), (mCall funit [(mBin .Add (mAt "dim" (mV 0)) (mK (.int 1))), (mAt "dim" (mV 0))])]) (mK (.int 0))),
   sSet 5 [0] (mComp (mRng (mBin .Add (mAt "dim" (mV 0)) (mK (.int 1)))) (mBd 6) mTrue (mK (.int 0)) [6]),
   sFor [0] (mRng (mBlt "len" [(mAt "rows" (mV 0))])) (mBd 6)
     [sSet 7 [0, 6, 0, 6] (mBin .Add (mIx (mIx (mAt "rows" (mV 0)) (mV 6)) (mK (.int 0))) (mTup [(mIx (mIx (mAt "rows" (mV 0)) (mV 6)) (mK (.int 1)))])),
      sSet 5 [6] (mComp (mRng (mBlt "len" [(mB 7)])) (mBd 8) mTrue (mBin .Add (mIx (mB 5) (mV 8)) (mBin .Mult (mIx (mB 4) (mV 6)) (mIx (mB 7) (mV 8)))) [8])],
   sRet (mTup [(mK (.str "row")), (mTup [(mBlt "tuple" [(mSl (mB 5) none (some (mNeg (mK (.int 1)))))]), (mIx (mB 5) (mNeg (mK (.int 1))))])])]
def fparted : Sm := dfn 9 2 mparted
@[simp] def m_law_kept : List St :=
  [sRet (mTup [(mAt "dim" (mV 0)), (mBlt "list" [(mAt "rows" (mV 0))]), (mBlt "list" [(mAt "corners" (mV 0))]), (mBlt "list" [(mAt "rays" (mV 0))])])]
def f_law_kept : Sm := dfn 1 1 m_law_kept
@[simp] def m_law_is_parted : List St :=
  [sIf [0] (tOr [(tNot (tE (mInst "tuple" (mV 0)))), (tE (mCmp .NotEq (mBlt "len" [(mB 0)]) (mK (.int 2))))])
     [sRet (mK (.bl false))]
     [],
   sIf [] (tE (mCmp .Eq (mIx (mB 0) (mK (.int 0))) (mK (.str "meet"))))
     [sIf [1] (tNot (tE (mCall f_law_is_point [(mIx (mB 0) (mK (.int 1))), (mAt "dim" (mV 1))])))
        [sRet (mK (.bl false))]
        [],
      sRet (mBlt "all" [(mComp (mIts (mBin .Add (mAt "rows" (mV 1)) (mAt "rows" (mV 2)))) (mBd 4) mTrue (mCall f_law_holds [(mV 4), (mIx (mB 0) (mK (.int 1)))]) [4])])]
     [],
   sIf [1, 1, 1] (tOr [(tE (mCmp .NotEq (mIx (mB 0) (mK (.int 0))) (mK (.str "row")))), (tNot (tE (mCall f_law_is_row [(mIx (mB 0) (mK (.int 1))), (mAt "dim" (mV 1))]))), (tNot (tE (mCall f_law_agrees [(mLst [(mIx (mB 0) (mK (.int 1)))]), (mAt "corners" (mV 1)), (mAt "rays" (mV 1))])))])
     [sRet (mK (.bl false))]
     [],
   sFor [2] (mIts (mAt "corners" (mV 2))) (mBd 3)
     [sIf [3] (tE (mCall f_law_holds [(mIx (mB 0) (mK (.int 1))), (mV 3)]))
        [sRet (mK (.bl false))]
        []],
   sRet (mOr [(mCmp .Eq (mAt "corners" (mV 2)) (mLst [])), (mBlt "all" [(mComp (mIts (mAt "rays" (mV 2))) (mBd 5) mTrue (mCmp .LtE (mCall f_law_dot [(mIx (mIx (mB 0) (mK (.int 1))) (mK (.int 0))), (mV 5)]) (mK (.int 0))) [5])])])]
def f_law_is_parted : Sm := dfn 6 3 m_law_is_parted
@[simp] def mpoint_of : List St :=
  [sSet 1 [0] (mCall flowest [(mV 0)]),
   sRet (mTup [(mSl (mB 1) none (some (mNeg (mK (.int 1))))), (mIx (mB 1) (mNeg (mK (.int 1))))])]
def fpoint_of : Sm := dfn 2 1 mpoint_of
@[simp] def mBody_is_empty : List St :=
  [sRet (mCmp .Eq (mBlt "len" [(mAt "corners" (mV 0))]) (mK (.int 0)))]
def fBody_is_empty : Sm := dfn 1 1 mBody_is_empty
@[simp] def minner : List St :=
  [sIf [0] (tE (mMt fBody_is_empty (mV 0) []))
     [sRet (mK .non)]
     [],
   sSet 1 [] (mK (.int 1)),
   sFor [0] (mIts (mAt "corners" (mV 0))) (mBd 2)
     [sSet 1 [] (mBin .Mult (mB 1) (mIx (mB 2) (mK (.int 1))))],
   sSet 3 [0] (mComp (mRng (mAt "dim" (mV 0))) (mBd 8) mTrue (mK (.int 0)) [8]),
   sFor [0] (mIts (mAt "corners" (mV 0))) (mBdT [6, 7])
     [sSet 3 [0] (mComp (mRng (mAt "dim" (mV 0))) (mBd 8) mTrue (mBin .Add (mIx (mB 3) (mV 8)) (mBin .Mult (mIx (mB 6) (mV 8)) (mBin .FloorDiv (mB 1) (mB 7)))) [8])],
   sSet 4 [0] (mBlt "len" [(mAt "corners" (mV 0))]),
   sFor [0] (mIts (mAt "rays" (mV 0))) (mBd 5)
     [sSet 3 [0] (mComp (mRng (mAt "dim" (mV 0))) (mBd 8) mTrue (mBin .Add (mIx (mB 3) (mV 8)) (mBin .Mult (mBin .Mult (mIx (mB 5) (mV 8)) (mB 1)) (mB 4))) [8])],
   sRet (mCall fpoint_of [(mBin .Add (mBlt "tuple" [(mB 3)]) (mTup [(mBin .Mult (mB 1) (mB 4))]))])]
def finner : Sm := dfn 9 1 minner
@[simp] def mspan : List St :=
  [sSet 3 [0, 0] (mComp (mIts (mB 1)) (mBd 4) mTrue (mBin .Add (mIx (mIx (mAt "corners" (mV 0)) (mV 4)) (mK (.int 0))) (mTup [(mIx (mIx (mAt "corners" (mV 0)) (mV 4)) (mK (.int 1)))])) [4]),
   sRet (mBin .Sub (mCall frank [(mBin .Add (mB 3) (mComp (mIts (mB 2)) (mBd 4) mTrue (mBin .Add (mIx (mAt "rays" (mV 0)) (mV 4)) (mTup [(mK (.int 0))])) [4]))]) (mK (.int 1)))]
def fspan : Sm := dfn 5 3 mspan
@[simp] def mwithout : List St :=
  [sRet (mBin .Add (mSl (mB 0) none (some (mV 1))) (mSl (mB 0) (some (mBin .Add (mB 1) (mK (.int 1)))) none))]
def fwithout : Sm := dfn 2 2 mwithout
@[simp] def mshadowed : List St :=
  [sIf [1, 0, 0] (tOr [(tNot (tE (mCall fis_whole [(mV 1)]))), (tNot (tE (mCmp2 .LtE .Lt (mK (.int 0)) (mV 1) (mAt "dim" (mV 0))))), (tE (mCmp .Eq (mAt "dim" (mV 0)) (mK (.int 1))))])
     [sNo]
     [],
   sSet 2 [0, 1] (mComp (mIts (mAt "corners" (mV 0))) (mBd 4) mTrue (mTup [(mCall fwithout [(mIx (mB 4) (mK (.int 0))), (mV 1)]), (mIx (mB 4) (mK (.int 1)))]) [4]),
   sSet 3 [0, 1] (mComp (mIts (mAt "rays" (mV 0))) (mBd 5) mTrue (mCall fwithout [(mV 5), (mV 1)]) [5]),
   sRet (mCall fby_corners [(mBin .Sub (mAt "dim" (mV 0)) (mK (.int 1))), (mV 2), (mComp (mIts (mB 3)) (mBd 5) (tE (mBlt "any" [(mComp (mIts (mB 5)) (mBd 6) mTrue (mCmp .NotEq (mB 6) (mK (.int 0))) [6])])) (mV 5) [5])])]
def fshadowed : Sm := dfn 7 2 mshadowed
@[simp] def mmapped : List St :=
  [sIf [1, 2] (tOr [(tNot (tE (mInst "list" (mV 1)))), (tNot (tE (mCmp2 .LtE .LtE (mK (.int 1)) (mBlt "len" [(mB 1)]) (mK (.int 4))))), (tNot (tE (mCall fis_row [(mV 2), (mBlt "len" [(mB 1)])])))])
     [sNo]
     [],
   sFor [1] (mIts (mV 1)) (mBd 3)
     [sIf [3, 3] (tOr [(tNot (tE (mInst "tuple" (mV 3)))), (tNot (tE (mCall fis_row [(mV 3), (mBlt "len" [(mB 3)])])))])
        [sNo]
        [],
      sIf [0] (tE (mCmp .NotEq (mBlt "len" [(mB 3)]) (mAt "dim" (mV 0))))
        [sNo]
        []],
   sOwn 4 [] (mLst []),
   sFor [0] (mIts (mAt "corners" (mV 0))) (mBdT [6, 7])
     [sApp 4 [6, 7] (mTup [(mBlt "tuple" [(mComp (mRng (mBlt "len" [(mB 1)])) (mBd 9) mTrue (mBin .Add (mCall fdot [(mIx (mB 1) (mV 9)), (mV 6)]) (mBin .Mult (mIx (mB 2) (mV 9)) (mB 7))) [9])]), (mV 7)])],
   sSet 5 [0, 3] (mComp (mIts (mAt "rays" (mV 0))) (mBd 8) mTrue (mBlt "tuple" [(mComp (mIts (mB 1)) (mBd 3) mTrue (mCall fdot [(mV 3), (mV 8)]) [3])]) [8]),
   sRet (mCall fby_corners [(mBlt "len" [(mB 1)]), (mV 4), (mComp (mIts (mB 5)) (mBd 8) (tE (mBlt "any" [(mComp (mIts (mB 8)) (mBd 10) mTrue (mCmp .NotEq (mB 10) (mK (.int 0))) [10])])) (mV 8) [8])])]
def fmapped : Sm := dfn 11 3 mmapped
@[simp] def m_law_is_plain : List St :=
  [sIf [0] (tE (mCmp .Eq (mBlt "len" [(mAt "corners" (mV 0))]) (mK (.int 0))))
     [sRet (mK (.bl false))]
     [],
   sFor [0] (mIts (mAt "rows" (mV 0))) (mBd 1)
     [sIf [0] (tE (mCmp .In (mTup [(mBlt "tuple" [(mComp (mIts (mIx (mB 1) (mK (.int 0)))) (mBd 3) mTrue (mBin .Sub (mK (.int 0)) (mB 3)) [3])]), (mBin .Sub (mK (.int 0)) (mIx (mB 1) (mK (.int 1))))]) (mAt "rows" (mV 0))))
        [sRet (mK (.bl false))]
        []],
   sRet (mCmp .Eq (mComp (mIts (mAt "rays" (mV 0))) (mBd 2) (tE (mCmp .In (mBlt "tuple" [(mComp (mIts (mB 2)) (mBd 3) mTrue (mBin .Sub (mK (.int 0)) (mB 3)) [3])]) (mAt "rays" (mV 0)))) (mV 2) [2]) (mLst []))]
def f_law_is_plain : Sm := dfn 4 1 m_law_is_plain
@[simp] def m_law_alike : List St :=
  [sIf [0, 0] (tOr [(tE (mCall f_law_is_plain [(mV 0)])), (tE (mCmp .Eq (mBlt "len" [(mAt "corners" (mV 0))]) (mK (.int 0))))])
     [sRet (mAnd [(mCmp .Eq (mAt "rows" (mV 0)) (mAt "rows" (mV 1))), (mCmp .Eq (mAt "corners" (mV 0)) (mAt "corners" (mV 1))), (mCmp .Eq (mAt "rays" (mV 0)) (mAt "rays" (mV 1)))])]
     [],
   sIf [1, 0, 1, 1] (tOr [(tE (mCmp .Eq (mBlt "len" [(mAt "corners" (mV 1))]) (mK (.int 0)))), (tNot (tE (mCall f_law_agrees [(mAt "rows" (mV 0)), (mAt "corners" (mV 1)), (mAt "rays" (mV 1))])))])
     [sRet (mK (.bl false))]
     [],
   sRet (mCall f_law_agrees [(mAt "rows" (mV 1)), (mAt "corners" (mV 0)), (mAt "rays" (mV 0))])]
def f_law_alike : Sm := dfn 2 2 m_law_alike
end CH

set_option maxRecDepth 100000
/-! Reckoning: sorted lists, corners of rows, rows of corners. -/
namespace CH
open PySem
open CM (dI opp unitL coneL gD_lt gD_ge opp_len Row flatR flatP flatY splitP splitR allOf csOf ysOf rsOf flats every sidesL mem_every Wr Wp Wy Zr Zp Br all_mem wflatR wflats coneL_ok)
def encP (p : Row) : D := .tup [vec p.1, .int p.2]
def encs (l : List Row) : List D := l.map encP
theorem encs_len (l : List Row) : (encs l).length = l.length := by simp [encs]
/-! ### sorted -/
def pyV (v : List Int) : PyData := .tuple (v.map .int)
def pyP (p : Row) : PyData := .tuple [pyV p.1, .int p.2]
theorem zs_py : ∀ v : List Int, D.toPys (zs v) = some (v.map .int)
  | [] => rfl
  | x :: v => by
    show (match D.toPy (.int x), D.toPys (zs v) with
      | some p, some q => some (p :: q)
      | _, _ => none) = _
    rw [zs_py v]
    rfl
theorem vec_py (v : List Int) : (vec v).toPy = some (pyV v) := by
  show (D.toPys (zs v)).map PyData.tuple = _
  rw [zs_py]; rfl
theorem encP_py (p : Row) : (encP p).toPy = some (pyP p) := by
  show (match D.toPy (vec p.1), D.toPys [.int p.2] with
      | some p, some q => some (p :: q)
      | _, _ => none).map PyData.tuple = _
  rw [vec_py]; rfl
theorem alike_ints : ∀ a b : List Int, PySem.W.alikeAll (a.map .int) (b.map .int) = true
  | [], _ => by simp [PySem.W.alikeAll]
  | _ :: _, [] => by simp [PySem.W.alikeAll]
  | x :: a, y :: b => by
    rw [List.map_cons, List.map_cons, PySem.W.alikeAll, alike_ints a b]
    rfl
theorem alike_V (a b : List Int) : PySem.W.alike (pyV a) (pyV b) = true := by
  unfold pyV
  rw [PySem.W.alike]; exact alike_ints a b
theorem alike_P (a b : Row) : PySem.W.alike (pyP a) (pyP b) = true := by
  unfold pyP
  rw [PySem.W.alike, PySem.W.alikeAll, alike_V, PySem.W.alikeAll, PySem.W.alikeAll]
  rfl
theorem depth_ints : ∀ a : List Int, PyData.depthAll (a.map .int) = 0
  | [] => rfl
  | x :: a => by
    rw [List.map_cons]
    show max (PyData.depth (.int x)) (PyData.depthAll (a.map .int)) = 0
    rw [depth_ints a]; rfl
theorem depth_V (a : List Int) : (pyV a).depth = 1 := by
  show PyData.depthAll (a.map .int) + 1 = 1
  rw [depth_ints]
theorem depth_P (p : Row) : (pyP p).depth = 2 := by
  show max (pyV p.1).depth (max (PyData.depth (.int p.2)) (PyData.depthAll [])) + 1 = 2
  rw [depth_V]; rfl
theorem toPys_map {α : Type} {f : α → D} {g : α → PyData} (hg : ∀ x, (f x).toPy = some (g x)) : ∀ l : List α, D.toPys (l.map f) = some (l.map g)
  | [] => rfl
  | x :: l => by
    show (match D.toPy (f x), D.toPys (l.map f) with
      | some p, some q => some (p :: q)
      | _, _ => none) = _
    rw [hg x, toPys_map hg l]; rfl
theorem sortD_map {α : Type} {f : α → D} {g : α → PyData} (hg : ∀ x, (f x).toPy = some (g x)) (al : ∀ x y, PySem.W.alike (g x) (g y) = true) (dp : ∀ x, (g x).depth ≤ 60) {l : List α} (ht : ∀ x ∈ l, ∃ a as, g x = .tuple (a :: as)) (hl : l.length ≤ line) :
    sortD (l.map f) = some ((l.mergeSort fun a b => leD (f a) (f b)).map f) := by
  unfold sortD
  rw [toPys_map hg]
  dsimp only
  have h1 : ((l.map g).all fun p => (l.map g).all fun q => PySem.W.alike p q) = true := by
    rw [List.all_eq_true]
    intro p hp
    rw [List.all_eq_true]
    intro q hq
    obtain ⟨x, _, rfl⟩ := List.mem_map.mp hp
    obtain ⟨y, _, rfl⟩ := List.mem_map.mp hq
    exact al x y
  have h2 : sortable (l.map g) = true := by
    unfold sortable
    rw [Bool.or_eq_true]
    refine .inl (List.all_eq_true.mpr fun p hp => ?_)
    obtain ⟨x, hx, rfl⟩ := List.mem_map.mp hp
    obtain ⟨a, as, e⟩ := ht x hx
    rw [e]
  have h3 : ((l.map g).all fun p => decide (p.depth ≤ 60)) = true := by
    rw [List.all_eq_true]
    intro p hp
    obtain ⟨x, _, rfl⟩ := List.mem_map.mp hp
    exact decide_eq_true (dp x)
  have h4 : decide ((l.map g).length ≤ line) = true := decide_eq_true (by rw [List.length_map]; exact hl)
  rw [h1, h2, h3, h4]
  show some ((l.map f).mergeSort leD) = _
  rw [List.map_mergeSort (s := leD) fun a _ b _ => rfl]
def sortV (l : List (List Int)) : List (List Int) := l.mergeSort fun a b => leD (vec a) (vec b)
def sortP (l : List Row) : List Row := l.mergeSort fun a b => leD (encP a) (encP b)
theorem sort_vecs {l : List (List Int)} (hn : ∀ v ∈ l, v ≠ []) (hl : l.length ≤ line) : bltD "sorted" [.lst (vecs l)] = some (.lst (vecs (sortV l))) := by
  show (sortD (vecs l)).map D.lst = _
  unfold vecs
  rw [sortD_map (g := pyV) vec_py alike_V (fun x => by rw [depth_V]; decide) (fun v hv => ?_) hl]
  · rfl
  · cases v with
    | nil => exact absurd rfl (hn _ hv)
    | cons x v => exact ⟨_, _, rfl⟩
theorem sort_encs {l : List Row} (hl : l.length ≤ line) : bltD "sorted" [.lst (encs l)] = some (.lst (encs (sortP l))) := by
  show (sortD (encs l)).map D.lst = _
  unfold encs
  rw [sortD_map (g := pyP) encP_py alike_P (fun x => by rw [depth_P]; decide) (fun v hv => ⟨_, _, rfl⟩) hl]
  rfl
theorem mem_sortP {l : List Row} {r : Row} : r ∈ sortP l ↔ r ∈ l := List.mem_mergeSort
theorem mem_sortV {l : List (List Int)} {r : List Int} : r ∈ sortV l ↔ r ∈ l := List.mem_mergeSort
theorem sortP_len (l : List Row) : (sortP l).length = l.length := List.length_mergeSort _
theorem sortV_len (l : List (List Int)) : (sortV l).length = l.length := List.length_mergeSort _
theorem sortP_nil {l : List Row} : sortP l = [] ↔ l = [] := by rw [← List.length_eq_zero_iff, sortP_len, List.length_eq_zero_iff]
/-! ### parts -/
theorem at0e (p : Row) : atD [vec p.1, D.int p.2] 0 = some (vec p.1) := rfl
theorem at1e (p : Row) : atD [vec p.1, D.int p.2] 1 = some (.int p.2) := rfl
theorem cut_zs {v : List Int} {d : Nat} (h : d ≤ v.length) : cutD (zs v) none (some (d : Int)) = zs (v.take d) := by
  rw [cut_head (by rw [zs_len]; exact h), zs, zs, List.map_take]
theorem zs_app (a b : List Int) : zs a ++ zs b = zs (a ++ b) := by simp [zs]
theorem wo_ok {L R : List (List Int)} (s : S) (hw : ∀ v ∈ L, v.length < line) (h : 2 * L.length + R.length ≤ 1000000) : fwith_opposites [.lst (vecs L), .lst (vecs R)] s = some (.lst (vecs (every (L, R))), s) := by
  have hc : ∀ x2, compE (mBd 2) mTrue (mCall fopposite [(mV 2)]) [.v (.lst (vecs L)), .v (.lst (vecs R)), x2] (vecs L) s = some (vecs (L.map opp), s) := fun x2 => by
    have := compE_map (bd := mBd 2) (t := mTrue) (e := mCall fopposite [(mV 2)]) (r := [.v (.lst (vecs L)), .v (.lst (vecs R)), x2]) (s := s) vec (fun v => vec (opp v)) L fun v hv => ⟨_, rfl, rfl, by simp [opp_ok s (hw v hv)]⟩
    refine (show compE _ _ _ _ (L.map vec) s = _ from this).trans ?_
    simp [vecs]
  have hl : (vecs L).length < line := by rw [vecs_len, line_val]; omega
  have e1 : opD .Add (.lst (vecs L)) (.lst (vecs (L.map opp))) = some (.lst (vecs L ++ vecs (L.map opp))) := if_pos (by simp [vecs_len, line_val]; omega)
  have e2 : opD .Add (.lst (vecs L ++ vecs (L.map opp))) (.lst (vecs R)) = some (.lst (vecs L ++ vecs (L.map opp) ++ vecs R)) := if_pos (by simp [vecs_len, line_val]; omega)
  refine dfn_rt rfl ?_
  simp [hl, hc, e1, e2]
  simp [every, vecs]
end CH

set_option maxRecDepth 100000
namespace CH
open PySem
open CM (dI opp unitL coneL gD_lt gD_ge opp_len Row flatR flatP flatY splitP splitR allOf csOf ysOf rsOf flats every sidesL mem_every Wr Wp Wy Zr Zp Br all_mem wflatR wflats coneL_ok Rk.every every_len lines_le sides_every)
theorem natsucc (d : Nat) : D.int ((d : Int) + 1) = D.int ((d + 1 : Nat) : Int) := by congr 1
theorem flatR_bin {p : Row} {d : Nat} (h : p.1.length = d) (hd : d ≤ 1000) : opD .Add (vec p.1) (.tup [.int (0 - p.2)]) = some (vec (flatR p)) := by
  have e : vec (flatR p) = .tup (zs p.1 ++ [.int (0 - p.2)]) := by rw [show [D.int (0 - p.2)] = zs [0 - p.2] from rfl, zs_app]; rfl
  rw [e]
  exact if_pos (by rw [zs_len, h, line_val]; simp; omega)
theorem flatP_bin {p : Row} {d : Nat} (h : p.1.length = d) (hd : d ≤ 1000) : opD .Add (vec p.1) (.tup [.int p.2]) = some (vec (flatP p)) := by
  have e : vec (flatP p) = .tup (zs p.1 ++ [.int p.2]) := by rw [show [D.int p.2] = zs [p.2] from rfl, zs_app]; rfl
  rw [e]
  exact if_pos (by rw [zs_len, h, line_val]; simp; omega)
theorem flatY_bin {p : List Int} {d : Nat} (h : p.length = d) (hd : d ≤ 1000) : opD .Add (vec p) (.tup [.int 0]) = some (vec (flatY p)) := by
  have e : vec (flatY p) = .tup (zs p ++ [.int 0]) := by rw [show [D.int 0] = zs [0] from rfl, zs_app]; rfl
  rw [e]
  exact if_pos (by rw [zs_len, h, line_val]; simp; omega)
/-- corners and rays of rows -/
def corL (d : Nat) (rows : List Row) : List Row × List (List Int) := if csOf d rows = [] then ([], []) else (sortP (csOf d rows), sortV (ysOf d rows))
theorem every_in {n : Nat} {A : List (List Int)} (hA : ∀ a ∈ A, a.length = n) : ∀ e ∈ every (coneL A n), e.length = n := fun e he => by
  obtain ⟨M, R, e1, C⟩ := coneL_ok hA
  rw [e1] at he
  exact (C.hdE he).1
theorem corners_ok {d b L : Nat} {rows : List Row} (s : S) (Z : Zr d b L rows) (hd1 : 1 ≤ d) (hd : d ≤ 4) (hb1 : 1 ≤ b) (hb : b ≤ 1000000) (hl : L + 1 ≤ 64) :
    fcorners_of [.int d, .lst (encs rows)] s = some (.tup [.lst (encs (corL d rows).1), .lst (vecs (corL d rows).2)], s) := by
  have hZl := Z.l
  have H := Z.rk hd hb1 hb hl
  have hw := wflatR Z.w
  obtain ⟨C, hC⟩ : ∃ C, coneL (unitL (d + 1) d :: rows.map flatR) (d + 1) = C := ⟨_, rfl⟩
  have hcone := cone_ok s H
  rw [hC] at hcone
  obtain ⟨st1, st2, st3, st4⟩ := H.state (unitL (d + 1) d :: rows.map flatR).length (Nat.le_refl _)
  rw [show CM.coneK (unitL (d + 1) d :: rows.map flatR) (d + 1) (unitL (d + 1) d :: rows.map flatR).length = C from hC] at st1 st2 st3 st4
  have hall : allOf d rows = every (C.1, C.2) := by show every (coneL _ _) = _; rw [hC]
  have hcnt : C.2.length ≤ 1000000 - 20 := by
    obtain ⟨M, R, e1, Ci⟩ := coneL_ok hw
    rw [hC] at e1
    have h1 := Ci.count
    rw [List.length_cons, List.length_map] at h1
    have h2 : CM.ch (rows.length + 1) (d + 1 - M.length - 1) ≤ 1000000 - 20 := by
      have hh : ∀ k, k ≤ 64 → ∀ j, j < 5 → CM.ch k j ≤ 1000000 - 20 := fun k hk j hj => by
        have h := CM.allT_ok (c := 1000000 - 20) 64 0 (by decide +kernel) k (Nat.zero_le _) (by omega)
        rw [CM.tabT_eq] at h
        rcases j with _ | _ | _ | _ | _ | j
        · exact h _ (by simp)
        · exact h _ (by simp)
        · exact h _ (by simp)
        · exact h _ (by simp)
        · exact h _ (by simp)
        · omega
      exact hh _ (by omega) _ (by omega)
    rw [e1]
    exact Nat.le_trans h1 h2
  have hwe : ∀ e ∈ allOf d rows, e.length = d + 1 := every_in hw
  have hlen : (allOf d rows).length ≤ 1000000 := by rw [hall, every_len]; dsimp only; omega
  -- the rows, flat
  have h1 : ∀ x2 x3 x4 x5 x6 x8, compE (mBd 7) mTrue (mBin .Add (mIx (mB 7) (mK (.int 0))) (mTup [(mBin .Sub (mK (.int 0)) (mIx (mB 7) (mK (.int 1))))])) [.v (.int d), .v (.lst (encs rows)), x2, x3, x4, x5, x6, .un, x8] (encs rows) s = some (vecs (rows.map flatR), s) := by
    intro x2 x3 x4 x5 x6 x8
    have := compE_map (bd := mBd 7) (t := mTrue) (e := mBin .Add (mIx (mB 7) (mK (.int 0))) (mTup [(mBin .Sub (mK (.int 0)) (mIx (mB 7) (mK (.int 1))))])) (r := [.v (.int d), .v (.lst (encs rows)), x2, x3, x4, x5, x6, .un, x8]) (s := s) encP (fun p => vec (flatR p)) rows fun p hp => ⟨_, rfl, rfl, by
      have := flatR_bin (Z.w p hp) (by omega)
      simp [-Int.zero_sub, encP, at0e, at1e, line_val, this]⟩
    refine (show compE _ _ _ _ (rows.map encP) s = _ from this).trans ?_
    simp [vecs]
  have hel : (encs rows).length < line := by rw [encs_len, line_val]; omega
  have hun := unit_ok (n := d + 1) (k := d) s (by omega)
  have hadd : opD .Add (.lst [vec (unitL (d + 1) d)]) (.lst (vecs (rows.map flatR))) = some (.lst (vecs (unitL (d + 1) d :: rows.map flatR))) := if_pos (by simp [vecs_len, line_val]; omega)
  have hwo := wo_ok (L := C.1) (R := C.2) s (fun v hv => by rw [st1.w v hv, line_val]; omega) (by omega)
  rw [← hall] at hwo
  have hat : ∀ e ∈ allOf d rows, atD (zs e) (d : Int) = some (.int (e.getD d 0)) := fun e he => at_zs (by rw [hwe e he]; omega)
  have hcut : ∀ e ∈ allOf d rows, cutD (zs e) none (some (d : Int)) = zs (e.take d) := fun e he => cut_zs (by rw [hwe e he]; omega)
  have h2 : ∀ x2 x3 x4 x5 x6 x7, compE (mBd 8) (tE (mCmp .Gt (mIx (mB 8) (mV 0)) (mK (.int 0)))) (mTup [(mSl (mB 8) none (some (mV 0))), (mIx (mB 8) (mV 0))]) [.v (.int d), .v (.lst (encs rows)), x2, x3, x4, x5, x6, x7, .un] (vecs (allOf d rows)) s = some (encs (csOf d rows), s) := by
    intro x2 x3 x4 x5 x6 x7
    have := compE_filter (bd := mBd 8) (t := tE (mCmp .Gt (mIx (mB 8) (mV 0)) (mK (.int 0)))) (e := mTup [(mSl (mB 8) none (some (mV 0))), (mIx (mB 8) (mV 0))]) (r := [.v (.int d), .v (.lst (encs rows)), x2, x3, x4, x5, x6, x7, .un]) (s := s) vec (fun e => decide (0 < e.getD d 0)) (fun e => encP (splitP d e)) (allOf d rows) fun e he => ⟨_, rfl, by simp [-List.getD_eq_getElem?_getD, hat e he], fun _ => by simp [-List.getD_eq_getElem?_getD, hat e he, hcut e he, line_val, encP, splitP]⟩
    refine (show compE _ _ _ _ ((allOf d rows).map vec) s = _ from this).trans ?_
    simp [encs, csOf]
  have h3 : ∀ x2 x3 x4 x5 x6 x7, compE (mBd 8) (tE (mCmp .Eq (mIx (mB 8) (mV 0)) (mK (.int 0)))) (mSl (mB 8) none (some (mV 0))) [.v (.int d), .v (.lst (encs rows)), x2, x3, x4, x5, x6, x7, .un] (vecs (allOf d rows)) s = some (vecs (ysOf d rows), s) := by
    intro x2 x3 x4 x5 x6 x7
    have := compE_filter (bd := mBd 8) (t := tE (mCmp .Eq (mIx (mB 8) (mV 0)) (mK (.int 0)))) (e := mSl (mB 8) none (some (mV 0))) (r := [.v (.int d), .v (.lst (encs rows)), x2, x3, x4, x5, x6, x7, .un]) (s := s) vec (fun e => decide (e.getD d 0 = 0)) (fun e => vec (e.take d)) (allOf d rows) fun e he => ⟨_, rfl, by simp [-List.getD_eq_getElem?_getD, hat e he], fun _ => by simp [hcut e he]⟩
    refine (show compE _ _ _ _ ((allOf d rows).map vec) s = _ from this).trans ?_
    simp [vecs, ysOf]
  have hal : (vecs (allOf d rows)).length < line := by rw [vecs_len, line_val]; omega
  have hsl := CM.split_len (d := d) (rows := rows)
  have hs1 := sort_encs (l := csOf d rows) (by rw [line_val]; omega)
  have hs2 := sort_vecs (l := ysOf d rows) (fun v hv e => by
    have := CM.ys_w Z.w v hv
    rw [e] at this
    simp at this; omega) (by rw [line_val]; omega)
  have hlenb : bltD "len" [.lst (encs (csOf d rows))] = some (.int (csOf d rows).length) := by
    show some (D.int ((encs (csOf d rows)).length : Int)) = _
    rw [encs_len]
  refine dfn_rt rfl ?_
  simp only [mcorners_of, q_cons, z_set, z_tup, z_if, z_ret, List.map_cons, List.map_nil, List.length_cons, List.length_nil]
  rw [← natsucc] at hun hcone
  have g1 : 1 ≤ line := by rw [line_val]; omega
  have g2 : 2 ≤ line := by rw [line_val]; omega
  simp [-x_blt, -List.map_map, hel, h1, hun, hadd, hcone, hwo, hal, h2, g1, g2]
  by_cases h0 : csOf d rows = []
  · have hl0 : bltD "len" [.lst (encs (csOf d rows))] = some (.int 0) := by rw [hlenb, h0]; rfl
    simp [hl0, corL, h0, g2, vecs, encs]
  · have hpos : ¬ ((csOf d rows).length : Int) = 0 := by
      have := List.length_pos_iff.mpr h0; omega
    simp [hlenb, hpos, h3, hal, hs1, hs2, corL, h0, g1, g2]
end CH

set_option maxRecDepth 100000
set_option maxHeartbeats 1000000
namespace CH
open PySem
open CM (dI opp unitL coneL gD_lt gD_ge opp_len Row flatR flatP flatY splitP splitR allOf csOf ysOf rsOf flats every sidesL mem_every Wr Wp Wy Zr Zp Br all_mem wflatR wflats coneL_ok Rk.every every_len lines_le sides_every)
theorem ch_small {k j : Nat} (hk : k ≤ 64) (hj : j < 5) : CM.ch k j ≤ 1000000 - 20 := by
  have h := CM.allT_ok (c := 1000000 - 20) 64 0 (by decide +kernel) k (Nat.zero_le _) (by omega)
  rw [CM.tabT_eq] at h
  rcases j with _ | _ | _ | _ | _ | j
  · exact h _ (by simp)
  · exact h _ (by simp)
  · exact h _ (by simp)
  · exact h _ (by simp)
  · exact h _ (by simp)
  · omega
def zeros (d : Nat) : List Int := (List.range d).map fun _ => 0
def rsL (d : Nat) (cs : List Row) (ys : List (List Int)) : List Row := if cs = [] then [(zeros d, 1)] else sortP (rsOf d cs ys)
theorem rows_ok {d b L : Nat} {cs : List Row} {ys : List (List Int)} (s : S) (Z : Zp d b L cs ys) (hd1 : 1 ≤ d) (hd : d ≤ 4) (hb : b ≤ 1000000) (hl : L ≤ 64) :
    frows_of [.int d, .lst (encs cs), .lst (vecs ys)] s = some (.lst (encs (rsL d cs ys)), s) := by
  have hZl := Z.l
  have g1 : 1 ≤ line := by rw [line_val]; omega
  have g2 : 2 ≤ line := by rw [line_val]; omega
  have hlenb : bltD "len" [.lst (encs cs)] = some (.int cs.length) := by
    show some (D.int ((encs cs).length : Int)) = _
    rw [encs_len]
  by_cases h0 : cs = []
  · subst h0
    have hr : rangeD 0 (d : Int) = some (nats (List.range d)) := r_nat (by omega)
    have hc : ∀ x3 x4 x5 x6 x7 x8 x9 x10 x11, compE (mBd 12) mTrue (mK (.int 0)) [.v (.int d), .v (.lst (encs [])), .v (.lst (vecs ys)), x3, x4, x5, x6, x7, x8, x9, x10, x11, .un] (nats (List.range d)) s = some (zs (zeros d), s) := by
      intro x3 x4 x5 x6 x7 x8 x9 x10 x11
      have := compE_map (bd := mBd 12) (t := mTrue) (e := mK (.int 0)) (r := [.v (.int d), .v (.lst (encs [])), .v (.lst (vecs ys)), x3, x4, x5, x6, x7, x8, x9, x10, x11, .un]) (s := s) (fun (k : Nat) => D.int (k : Int)) (fun _ => D.int 0) (List.range d) fun k _ => ⟨_, rfl, rfl, rfl⟩
      refine (show compE _ _ _ _ ((List.range d).map fun (k : Nat) => D.int (k : Int)) s = _ from this).trans ?_
      simp [zs, zeros]
    have hl2 : (nats (List.range d)).length < line := by rw [nats_len, List.length_range, line_val]; omega
    refine dfn_rt rfl ?_
    have hl0 : bltD "len" [.lst (encs [])] = some (.int 0) := hlenb
    have ht : bltD "tuple" [.lst (zs (zeros d))] = some (vec (zeros d)) := rfl
    simp [-x_blt, hl0, x_blt, hr, hl2, hc, ht, g1, g2, rsL]
    simp [encs, encP]
  · have hpos : ¬ ((cs.length : Int) = 0) := by
      have := List.length_pos_iff.mpr h0; omega
    have H := Z.rk hd hb hl
    have hw := wflats Z.wc Z.wy
    obtain ⟨C, hC⟩ : ∃ C, coneL (flats cs ys) (d + 1) = C := ⟨_, rfl⟩
    have hcone := cone_ok s H
    rw [hC] at hcone
    obtain ⟨st1, st2, st3, st4⟩ := H.state (flats cs ys).length (Nat.le_refl _)
    rw [show CM.coneK (flats cs ys) (d + 1) (flats cs ys).length = C from hC] at st1 st2 st3 st4
    have hfl : (flats cs ys).length = cs.length + ys.length := by unfold flats; rw [List.length_append, List.length_map, List.length_map]
    have hcnt : C.2.length ≤ 1000000 - 20 := by
      obtain ⟨M, R, e1, Ci⟩ := coneL_ok hw
      rw [hC] at e1
      have h1 := Ci.count
      rw [hfl] at h1
      rw [e1]
      exact Nat.le_trans h1 (ch_small (by omega) (by omega))
    have hB1 := H.bd
    -- flat
    have h1 : ∀ x3 x4 x5 x6 x7 x8 x10 x11 x12, compE (mBd 9) mTrue (mBin .Add (mIx (mB 9) (mK (.int 0))) (mTup [(mIx (mB 9) (mK (.int 1)))])) [.v (.int d), .v (.lst (encs cs)), .v (.lst (vecs ys)), x3, x4, x5, x6, x7, x8, .un, x10, x11, x12] (encs cs) s = some (vecs (cs.map flatP), s) := by
      intro x3 x4 x5 x6 x7 x8 x10 x11 x12
      have := compE_map (bd := mBd 9) (t := mTrue) (e := mBin .Add (mIx (mB 9) (mK (.int 0))) (mTup [(mIx (mB 9) (mK (.int 1)))])) (r := [.v (.int d), .v (.lst (encs cs)), .v (.lst (vecs ys)), x3, x4, x5, x6, x7, x8, .un, x10, x11, x12]) (s := s) encP (fun p => vec (flatP p)) cs fun p hp => ⟨_, rfl, rfl, by
        have := flatP_bin (Z.wc p hp).1 (by omega)
        simp [encP, at0e, at1e, g1, this]⟩
      refine (show compE _ _ _ _ (cs.map encP) s = _ from this).trans ?_
      simp [vecs]
    have h2 : ∀ x3 x4 x5 x6 x7 x8 x9 x11 x12, compE (mBd 10) mTrue (mBin .Add (mB 10) (mTup [(mK (.int 0))])) [.v (.int d), .v (.lst (encs cs)), .v (.lst (vecs ys)), x3, x4, x5, x6, x7, x8, x9, .un, x11, x12] (vecs ys) s = some (vecs (ys.map flatY), s) := by
      intro x3 x4 x5 x6 x7 x8 x9 x11 x12
      have := compE_map (bd := mBd 10) (t := mTrue) (e := mBin .Add (mB 10) (mTup [(mK (.int 0))])) (r := [.v (.int d), .v (.lst (encs cs)), .v (.lst (vecs ys)), x3, x4, x5, x6, x7, x8, x9, .un, x11, x12]) (s := s) vec (fun p => vec (flatY p)) ys fun p hp => ⟨_, rfl, rfl, by
        have := flatY_bin (Z.wy p hp) (by omega)
        simp [g1, this]⟩
      refine (show compE _ _ _ _ (ys.map vec) s = _ from this).trans ?_
      simp [vecs]
    have hcl : (encs cs).length < line := by rw [encs_len, line_val]; omega
    have hyl : (vecs ys).length < line := by rw [vecs_len, line_val]; omega
    have hadd : opD .Add (.lst (vecs (cs.map flatP))) (.lst (vecs (ys.map flatY))) = some (.lst (vecs (flats cs ys))) := by
      have e : vecs (flats cs ys) = vecs (cs.map flatP) ++ vecs (ys.map flatY) := by simp [vecs, flats]
      rw [e]
      exact if_pos (by simp [vecs_len, line_val]; omega)
    have hpts : cutD (vecs (flats cs ys)) none (some (cs.length : Int)) = vecs (cs.map flatP) := by
      rw [cut_head (by rw [vecs_len, hfl]; omega)]
      simp [vecs, flats]
    have hdot : ∀ q ∈ C.2, ∀ p ∈ cs.map flatP, fdot [vec q, vec p] s = some (.int (dI q p), s) := fun q hq p hp => by
      have hm : p ∈ flats cs ys := List.mem_append.mpr (.inl hp)
      exact dot_ok s (st2.b q hq) (H.bd p hm) (by omega) (by omega) (by rw [st2.w q hq, line_val]; omega)
    have hpl : (vecs (cs.map flatP)).length < line := by rw [vecs_len, List.length_map, line_val]; omega
    have h3 : ∀ q ∈ C.2, ∀ x5 x9 x10 x12, compE (mBd 11) mTrue (mCmp .Eq (mCall fdot [(mV 8), (mV 11)]) (mK (.int 0))) [.v (.int d), .v (.lst (encs cs)), .v (.lst (vecs ys)), .v (.lst (vecs (flats cs ys))), .v (.lst (vecs (cs.map flatP))), x5, .v (.lst (vecs C.1)), .v (.lst (vecs C.2)), .v (vec q), x9, x10, .un, x12] (vecs (cs.map flatP)) s = some ((cs.map flatP).map fun p => D.bl (decide (dI q p = 0)), s) := by
      intro q hq x5 x9 x10 x12
      exact compE_map (bd := mBd 11) (t := mTrue) (e := mCmp .Eq (mCall fdot [(mV 8), (mV 11)]) (mK (.int 0))) (r := [.v (.int d), .v (.lst (encs cs)), .v (.lst (vecs ys)), .v (.lst (vecs (flats cs ys))), .v (.lst (vecs (cs.map flatP))), x5, .v (.lst (vecs C.1)), .v (.lst (vecs C.2)), .v (vec q), x9, x10, .un, x12]) (s := s) vec (fun p => D.bl (decide (dI q p = 0))) (cs.map flatP) fun p hp => ⟨_, rfl, rfl, by simp [hdot q hq p hp]⟩
    have h4 : ∀ x5 x9 x10 x11 x12, compE (mBd 8) (tE (mBlt "any" [(mComp (mIts (mB 4)) (mBd 11) mTrue (mCmp .Eq (mCall fdot [(mV 8), (mV 11)]) (mK (.int 0))) [11])])) (mV 8) [.v (.int d), .v (.lst (encs cs)), .v (.lst (vecs ys)), .v (.lst (vecs (flats cs ys))), .v (.lst (vecs (cs.map flatP))), x5, .v (.lst (vecs C.1)), .v (.lst (vecs C.2)), .un, x9, x10, x11, x12] (vecs C.2) s = some (vecs (sidesL C.2 (cs.map flatP)), s) := by
      intro x5 x9 x10 x11 x12
      have := compE_filter (bd := mBd 8) (t := tE (mBlt "any" [(mComp (mIts (mB 4)) (mBd 11) mTrue (mCmp .Eq (mCall fdot [(mV 8), (mV 11)]) (mK (.int 0))) [11])])) (e := mV 8) (r := [.v (.int d), .v (.lst (encs cs)), .v (.lst (vecs ys)), .v (.lst (vecs (flats cs ys))), .v (.lst (vecs (cs.map flatP))), x5, .v (.lst (vecs C.1)), .v (.lst (vecs C.2)), .un, x9, x10, x11, x12]) (s := s) vec (fun q => (cs.map flatP).any fun p => decide (dI q p = 0)) vec C.2 fun q hq => ⟨_, rfl, by
        have hany := b_any (asBls_map (fun p => decide (dI q p = 0)) (cs.map flatP))
        rw [List.any_map] at hany
        simp only [y_e, x_blt, x_seq, x_seq0, x_comp, x_its, x_b, wp_cons, wp_nil]
        simp [-List.map_map, hpl, h3 q hq, hany], fun _ => by simp⟩
      refine (show compE _ _ _ _ (C.2.map vec) s = _ from this).trans ?_
      rfl
    have hc2l : (vecs C.2).length < line := by rw [vecs_len, line_val]; omega
    have hwo := wo_ok (L := C.1) (R := sidesL C.2 (cs.map flatP)) s (fun v hv => by rw [st1.w v hv, line_val]; omega) (by
      have : (sidesL C.2 (cs.map flatP)).length ≤ C.2.length := List.length_filter_le _ _
      omega)
    have hE : ∀ e ∈ every (C.1, sidesL C.2 (cs.map flatP)), e.length = d + 1 := fun e he => by
      have h5 := sides_every he
      have h6 := every_in hw
      rw [hC] at h6
      exact h6 e h5
    have hrs : rsOf d cs ys = (every (C.1, sidesL C.2 (cs.map flatP))).map (splitR d) := by unfold rsOf; rw [hC]
    have h5 : ∀ x3 x4 x5 x6 x7 x9 x10 x11 x12, compE (mBd 8) mTrue (mTup [(mSl (mB 8) none (some (mV 0))), (mBin .Sub (mK (.int 0)) (mIx (mB 8) (mV 0)))]) [.v (.int d), .v (.lst (encs cs)), .v (.lst (vecs ys)), x3, x4, x5, x6, x7, .un, x9, x10, x11, x12] (vecs (every (C.1, sidesL C.2 (cs.map flatP)))) s = some (encs (rsOf d cs ys), s) := by
      intro x3 x4 x5 x6 x7 x9 x10 x11 x12
      have := compE_map (bd := mBd 8) (t := mTrue) (e := mTup [(mSl (mB 8) none (some (mV 0))), (mBin .Sub (mK (.int 0)) (mIx (mB 8) (mV 0)))]) (r := [.v (.int d), .v (.lst (encs cs)), .v (.lst (vecs ys)), x3, x4, x5, x6, x7, .un, x9, x10, x11, x12]) (s := s) vec (fun e => encP (splitR d e)) (every (C.1, sidesL C.2 (cs.map flatP))) fun e he => ⟨_, rfl, rfl, by
        have a1 : atD (zs e) (d : Int) = some (.int (e.getD d 0)) := at_zs (by rw [hE e he]; omega)
        have a2 : cutD (zs e) none (some (d : Int)) = zs (e.take d) := cut_zs (by rw [hE e he]; omega)
        simp [-List.getD_eq_getElem?_getD, -Int.zero_sub, a1, a2, g2, encP, splitR]⟩
      refine (show compE _ _ _ _ ((every (C.1, sidesL C.2 (cs.map flatP))).map vec) s = _ from this).trans ?_
      rw [hrs]; simp [encs]
    have hel : (vecs (every (C.1, sidesL C.2 (cs.map flatP)))).length < line := by
      rw [vecs_len, every_len, line_val]
      have : (sidesL C.2 (cs.map flatP)).length ≤ C.2.length := List.length_filter_le _ _
      dsimp only; omega
    have hso := sort_encs (l := rsOf d cs ys) (by rw [hrs, List.length_map, ← vecs_len]; exact Nat.le_of_lt hel)
    refine dfn_rt rfl ?_
    simp only [mrows_of, q_cons, z_set, z_tup, z_if, z_ret, List.map_cons, List.map_nil, List.length_cons, List.length_nil]
    rw [← natsucc] at hcone
    simp [-x_blt, hlenb, x_blt, hpos, -List.map_map, hcl, hyl, h1, h2, hadd, hcone, hpts, h4, hc2l, hwo, h5, hel, hso, rsL, h0, g1, g2]
end CH

set_option maxRecDepth 100000
set_option maxHeartbeats 1000000
namespace CH
open PySem
open CM (dI opp unitL coneL gD_lt gD_ge opp_len Row flatR flatP flatY splitP splitR allOf csOf ysOf rsOf flats every sidesL mem_every Wr Wp Wy Zr Zp Br all_mem wflatR wflats coneL_ok KB Cv Kv vz dt)
/-! ### what is looked at -/
theorem whole_ok (z : Int) (s : S) : fis_whole [.int z] s = some (.bl true, s) := by
  refine dfn_rt rfl ?_
  simp [tyD, kit1, kit2]
theorem isrow_ok (v : List Int) (n : Int) (s : S) (hl : v.length < line) : fis_row [vec v, .int n] s = some (.bl (decide ((v.length : Int) = n)), s) := by
  have hc : ∀ x1, compE (mBd 2) mTrue (mCall fis_whole [(mV 2)]) [.v (vec v), .v x1, .un] (zs v) s = some (v.map fun _ => D.bl true, s) := fun x1 =>
    compE_map D.int (fun _ => D.bl true) v fun z _ => ⟨_, rfl, rfl, by simp [whole_ok]⟩
  have hall : bltD "all" [.lst (v.map fun _ => D.bl true)] = some (.bl true) := by
    rw [b_all (asBls_map (fun _ => true) v)]
    congr 2
    rw [List.all_map, List.all_eq_true]
    intro x _; rfl
  have hlen : bltD "len" [vec v] = some (.int v.length) := by
    show some (D.int ((zs v).length : Int)) = _
    rw [zs_len]
  have hl2 : (zs v).length < line := by rw [zs_len]; exact hl
  refine dfn_rt rfl ?_
  by_cases h : (v.length : Int) = n
  · simp [-x_blt, tyD, kit3, hlen, h, x_blt, hl2, hc, hall]
  · simp [-x_blt, tyD, kit3, hlen, h, x_blt]
theorem nd_ok {d : Nat} (s : S) (h1 : 1 ≤ d) (h4 : d ≤ 4) : fneed_dim [.int d] s = some (.non, s) := by
  have e1 : (1 : Int) ≤ (d : Int) := by omega
  have e2 : (d : Int) ≤ 4 := by omega
  refine dfn_nx (r1 := [.v (.int d)]) rfl ?_
  simp [whole_ok, e1, e2]
theorem forE_all {bd : D → Rho → Option Rho} {body : Rho → S → Option Out} {s : S} (I : Rho → Prop) : ∀ (xs : List D) (r : Rho), I r → (∀ x ∈ xs, ∀ r, I r → ∃ r1 r2, bd x r = some r1 ∧ body r1 s = some (.nx r2 s) ∧ I r2) → ∃ r', forE bd body xs r s = some (.nx r' s) ∧ I r'
  | [], r, hr, _ => ⟨r, rfl, hr⟩
  | x :: xs, r, hr, h => by
    obtain ⟨r1, r2, h1, h2, h3⟩ := h x List.mem_cons_self r hr
    obtain ⟨r', h4, h5⟩ := forE_all I xs r2 h3 fun y hy => h y (List.mem_cons_of_mem _ hy)
    refine ⟨r', ?_, h5⟩
    rw [forE, h1]
    dsimp only
    rw [h2]
    exact h4
theorem nr_ok {d : Nat} {rows : List Row} (s : S) (h1 : 1 ≤ d) (h4 : d ≤ 4) (hw : Wr d rows) : fneed_rows [.int d, .lst (encs rows)] s = some (.non, s) := by
  obtain ⟨r', e, x2, rfl⟩ := forE_all (bd := mBd 2) (body := sq [sIf [2, 0] (tOr [(tNot (tE (mInst "tuple" (mV 2)))), (tE (mCmp .NotEq (mBlt "len" [(mB 2)]) (mK (.int 2)))), (tNot (tE (mCall fis_row [(mIx (mB 2) (mK (.int 0))), (mV 0)]))), (tNot (tE (mCall fis_whole [(mIx (mB 2) (mK (.int 1)))])))])
        [sNo]
        []]) (s := s) (fun r => ∃ x2, r = [.v (.int d), .v (.lst (encs rows)), x2]) (encs rows) [.v (.int d), .v (.lst (encs rows)), .un] ⟨_, rfl⟩ (by
    rintro x hx r ⟨x2, rfl⟩
    obtain ⟨p, hp, rfl⟩ := List.mem_map.mp hx
    have hpw := hw p hp
    have hr := isrow_ok p.1 d s (by rw [hpw, line_val]; omega)
    rw [hpw] at hr
    have hlen : bltD "len" [encP p] = some (.int 2) := rfl
    refine ⟨_, _, rfl, ?_, .v (encP p), rfl⟩
    simp [-x_blt, tyD, encP, kit3, at0e, at1e]
    have hlen : bltD "len" [.tup [vec p.1, .int p.2]] = some (.int 2) := rfl
    simp [-x_blt, hlen, x_blt, hr, whole_ok])
  refine dfn_nx (r1 := [.v (.int d), .v (.lst (encs rows)), x2]) rfl ?_
  simp only [mneed_rows, q_cons, z_ex, z_if, z_for, List.map_cons, List.map_nil, List.length_cons, List.length_nil]
  simp [nd_ok s h1 h4, tyD, kit4]
  rw [e]
  simp
theorem ip_ok {d : Nat} {p : Row} (s : S) (h4 : d ≤ 4) (hw : p.1.length = d) (hp : 0 < p.2) : fis_point [.int d, encP p] s = some (.bl true, s) := by
  have hr := isrow_ok p.1 d s (by rw [hw, line_val]; omega)
  rw [hw] at hr
  have hlen : bltD "len" [.tup [vec p.1, .int p.2]] = some (.int 2) := rfl
  have h1 : (1 : Int) ≤ p.2 := by omega
  refine dfn_rt rfl ?_
  simp [-x_blt, tyD, encP, kit3, at0e, at1e, hlen, x_blt, hr, whole_ok, h1]
theorem np_ok {d : Nat} {p : Row} (s : S) (h4 : d ≤ 4) (hw : p.1.length = d) (hp : 0 < p.2) : fneed_point [.int d, encP p] s = some (.non, s) := by
  refine dfn_nx (r1 := [.v (.int d), .v (encP p)]) rfl ?_
  simp [ip_ok s h4 hw hp]
def Nz (ys : List (List Int)) : Prop := ∀ y ∈ ys, ∃ z ∈ y, z ≠ 0
theorem nc_ok {d : Nat} {cs : List Row} {ys : List (List Int)} (s : S) (h1 : 1 ≤ d) (h4 : d ≤ 4) (hc : Wp d cs) (hy : Wy d ys) (hz : Nz ys) : fneed_corners [.int d, .lst (encs cs), .lst (vecs ys)] s = some (.non, s) := by
  obtain ⟨r', e, x3, x4, x5, rfl⟩ := forE_all (bd := mBd 3) (body := sq [sEx [0, 3] (mCall fneed_point [(mV 0), (mV 3)])]) (s := s) (fun r => ∃ x3 x4 x5, r = [.v (.int d), .v (.lst (encs cs)), .v (.lst (vecs ys)), x3, x4, x5]) (encs cs) [.v (.int d), .v (.lst (encs cs)), .v (.lst (vecs ys)), .un, .un, .un] ⟨_, _, _, rfl⟩ (by
    rintro x hx r ⟨x3, x4, x5, rfl⟩
    obtain ⟨p, hp, rfl⟩ := List.mem_map.mp hx
    refine ⟨_, _, rfl, ?_, .v (encP p), x4, x5, rfl⟩
    simp [np_ok s h4 (hc p hp).1 (hc p hp).2])
  obtain ⟨r'', e2, y3, y4, y5, rfl⟩ := forE_all (bd := mBd 4) (body := sq [sIf [4, 0] (tOr [(tNot (tE (mCall fis_row [(mV 4), (mV 0)]))), (tNot (tE (mBlt "any" [(mComp (mIts (mB 4)) (mBd 5) mTrue (mCmp .NotEq (mB 5) (mK (.int 0))) [5])])))])
        [sNo]
        []]) (s := s) (fun r => ∃ x3 x4 x5, r = [.v (.int d), .v (.lst (encs cs)), .v (.lst (vecs ys)), x3, x4, x5]) (vecs ys) [.v (.int d), .v (.lst (encs cs)), .v (.lst (vecs ys)), x3, x4, x5] ⟨_, _, _, rfl⟩ (by
    rintro x hx r ⟨x3, x4, x5, rfl⟩
    obtain ⟨y, hyy, rfl⟩ := List.mem_map.mp hx
    have hyw := hy y hyy
    have hr := isrow_ok y d s (by rw [hyw, line_val]; omega)
    rw [hyw] at hr
    have hl2 : (zs y).length < line := by rw [zs_len, hyw, line_val]; omega
    have hcc : compE (mBd 5) mTrue (mCmp .NotEq (mB 5) (mK (.int 0))) [.v (.int d), .v (.lst (encs cs)), .v (.lst (vecs ys)), x3, .v (vec y), .un] (zs y) s = some (y.map fun z => D.bl (!decide (z = 0)), s) :=
      compE_map D.int (fun z => D.bl (!decide (z = 0))) y fun z _ => ⟨_, rfl, rfl, by simp⟩
    have hany : bltD "any" [.lst (y.map fun z => D.bl (!decide (z = 0)))] = some (.bl true) := by
      rw [b_any (asBls_map (fun z : Int => !decide (z = 0)) y)]
      congr 2
      obtain ⟨z, h1, h2⟩ := hz y hyy
      rw [List.any_map, List.any_eq_true]
      exact ⟨z, h1, by simp [h2]⟩
    refine ⟨_, [.v (.int d), .v (.lst (encs cs)), .v (.lst (vecs ys)), x3, .v (vec y), x5], rfl, ?_, x3, .v (vec y), x5, rfl⟩
    simp [hr, hl2, hcc, hany])
  refine dfn_nx (r1 := [.v (.int d), .v (.lst (encs cs)), .v (.lst (vecs ys)), y3, y4, y5]) rfl ?_
  simp only [mneed_corners, q_cons, z_ex, z_if, z_for, List.map_cons, List.map_nil, List.length_cons, List.length_nil]
  simp [nd_ok s h1 h4, tyD, kit4]
  rw [e]
  simp
  rw [e2]
  simp
end CH

set_option maxRecDepth 100000
set_option maxHeartbeats 1000000
/-! Bodies: what by_rows and by_corners tell. -/
namespace CH
open PySem
open CM (dI opp unitL coneL gD_lt gD_ge opp_len Row flatR flatP flatY splitP splitR allOf csOf ysOf rsOf flats every sidesL mem_every Wr Wp Wy Zr Zp Br all_mem wflatR wflats coneL_ok KB Cv Kv vz dt Cn Sp Hd V prim_ne prim_opp vz_ne dI_unit unitL_len dtnn_iff dt_vz cv_congr kv_congr flats_cn rs_kb snoc_last)
theorem _root_.CM.Zp.sort {d b L : Nat} {cs : List Row} {ys : List (List Int)} (Z : Zp d b L cs ys) : Zp d b L (sortP cs) (sortV ys) where
  wc := fun r hr => Z.wc r (mem_sortP.mp hr)
  wy := fun r hr => Z.wy r (mem_sortV.mp hr)
  bc := fun r hr => Z.bc r (mem_sortP.mp hr)
  by_ := fun r hr => Z.by_ r (mem_sortV.mp hr)
  l := by rw [sortP_len, sortV_len]; exact Z.l
theorem _root_.CM.Zp.nil {d b L : Nat} : Zp d b L [] [] where
  wc := fun _ h => nomatch h
  wy := fun _ h => nomatch h
  bc := fun _ h => nomatch h
  by_ := fun _ h => nomatch h
  l := Nat.zero_le _
theorem _root_.CM.Zp.cor {d b L : Nat} {rows : List Row} (Z : Zp d b L (csOf d rows) (ysOf d rows)) : Zp d b L (corL d rows).1 (corL d rows).2 := by
  unfold corL
  split
  · exact CM.Zp.nil
  · exact Z.sort
theorem _root_.CM.Zr.sort {d b L : Nat} {rows : List Row} (Z : Zr d b L rows) : Zr d b L (sortP rows) where
  w := fun r hr => Z.w r (mem_sortP.mp hr)
  b := fun r hr => Z.b r (mem_sortP.mp hr)
  l := by rw [sortP_len]; exact Z.l
theorem zeros_len (d : Nat) : (zeros d).length = d := by simp [zeros]
theorem _root_.CM.Zr.rs {d b L : Nat} {cs : List Row} {ys : List (List Int)} (hb : 1 ≤ b) (hL : 1 ≤ L) (Z : Zr d b L (rsOf d cs ys)) : Zr d b L (rsL d cs ys) := by
  unfold rsL
  split
  · have h1 : 2 ^ 1 ≤ 2 ^ b := Nat.pow_le_pow_right (by decide) hb
    refine ⟨fun r hr => ?_, fun r hr => ?_, hL⟩
    · rw [List.mem_singleton.mp hr]; exact zeros_len d
    · rw [List.mem_singleton.mp hr]
      refine ⟨fun z hz => ?_, by show (1 : Int).natAbs < _; simp; omega⟩
      obtain ⟨_, _, rfl⟩ := List.mem_map.mp hz
      simp; omega
  · exact Z.sort
theorem _root_.CM.Br.mono {b c : Nat} {r : Row} (h : b ≤ c) (hr : Br b r) : Br c r := ⟨fun z hz => Nat.lt_of_lt_of_le (hr.1 z hz) (pow_le h), Nat.lt_of_lt_of_le hr.2 (pow_le h)⟩
theorem _root_.CM.Zr.mono {d b c L M : Nat} {rows : List Row} (h : b ≤ c) (h2 : L ≤ M) (Z : Zr d b L rows) : Zr d c M rows := ⟨Z.w, fun r hr => CM.Br.mono h (Z.b r hr), Nat.le_trans Z.l h2⟩
theorem _root_.CM.Zp.mono {d b c L M : Nat} {cs : List Row} {ys : List (List Int)} (h : b ≤ c) (h2 : L ≤ M) (Z : Zp d b L cs ys) : Zp d c M cs ys :=
  ⟨Z.wc, Z.wy, fun r hr => CM.Br.mono h (Z.bc r hr), fun y hy z hz => Nat.lt_of_lt_of_le (Z.by_ y hy z hz) (pow_le h), Nat.le_trans Z.l h2⟩
theorem mem_flats_sort {cs : List Row} {ys : List (List Int)} {e : List Int} : e ∈ flats (sortP cs) (sortV ys) ↔ e ∈ flats cs ys := by
  unfold flats
  rw [List.mem_append, List.mem_append, List.mem_map, List.mem_map, List.mem_map, List.mem_map]
  simp only [mem_sortP, mem_sortV]
theorem kb_sort {d : Nat} {rows : List Row} {x : V} : KB d (sortP rows) x ↔ KB d rows x := by
  unfold KB
  refine kv_congr fun e => ?_
  rw [List.mem_cons, List.mem_cons, List.mem_map, List.mem_map]
  simp only [mem_sortP]
def oppR (r : Row) : Row := (opp r.1, 0 - r.2)
theorem opp_split {d : Nat} {e : List Int} (h : e.length = d + 1) : splitR d (opp e) = oppR (splitR d e) := by
  unfold splitR oppR
  refine Prod.ext ?_ ?_
  · show (opp e).take d = opp (e.take d)
    unfold opp
    rw [List.map_take]
  · show 0 - (opp e).getD d 0 = 0 - (0 - e.getD d 0)
    rw [gD_lt _ (by rw [opp_len]; omega), gD_lt _ (by omega)]
    simp [opp]
theorem rs_op {d : Nat} {cs : List Row} {ys : List (List Int)} (h1 : Wp d cs) (h2 : Wy d ys) : ∀ r ∈ rsOf d cs ys, (∀ v ∈ flats cs ys, dI (flatR r) v = 0) → oppR r ∈ rsOf d cs ys := fun r hr hz => by
  obtain ⟨M, R, e1, C⟩ := coneL_ok (wflats h1 h2)
  unfold rsOf at hr ⊢
  rw [e1] at hr ⊢
  obtain ⟨e, he, rfl⟩ := List.mem_map.mp hr
  have hl := (C.hdE (CM.sides_every he)).1
  rw [CM.flatR_split hl] at hz
  rw [← opp_split hl]
  refine List.mem_map.mpr ⟨opp e, ?_, rfl⟩
  rcases mem_every.mp he with h | ⟨l, h, rfl⟩ | h
  · exact mem_every.mpr (.inr (.inl ⟨e, h, rfl⟩))
  · rw [CM.opp_opp]; exact mem_every.mpr (.inl h)
  · obtain ⟨a, ha, hp⟩ := C.rayPos (List.mem_filter.mp h).1
    obtain ⟨v, hv, rfl⟩ := List.mem_map.mp ha
    have h3 := (CM.dtp_iff (C.wA v hv) hl).mp hp
    rw [CM.dI_comm, hz v hv] at h3
    exact absurd h3 (by decide)
/-- a body -/
structure Bdy (d b Lr Lp : Nat) (rows cs : List Row) (ys : List (List Int)) : Prop where
  zr : Zr d b Lr rows
  zp : Zp d b Lp cs ys
  nz : Nz ys
  em : cs = [] → ys = [] ∧ rows = [(zeros d, 1)]
  tl : cs ≠ [] → ∀ x, KB d rows x ↔ Cv (flats cs ys) x
  op : cs ≠ [] → ∀ r ∈ rows, (∀ v ∈ flats cs ys, dI (flatR r) v = 0) → oppR r ∈ rows
def bodD (d : Nat) (rows cs : List Row) (ys : List (List Int)) : D := .obj [.int d, .lst (encs rows), .lst (encs cs), .lst (vecs ys)]
theorem every_ne {n : Nat} {A : List (List Int)} (hA : ∀ a ∈ A, a.length = n) : ∀ e ∈ every (coneL A n), ∃ z ∈ e, z ≠ 0 := fun e he => by
  obtain ⟨M, R, e1, C⟩ := coneL_ok hA
  rw [e1] at he
  have hp : CM.Prim e := by
    rcases mem_every.mp he with h | ⟨l, h, rfl⟩ | h
    · obtain ⟨x, hx, rfl⟩ := List.mem_map.mp h
      exact C.pM x hx
    · obtain ⟨x, hx, rfl⟩ := List.mem_map.mp h
      exact prim_opp (C.pM x hx)
    · exact C.pR e h
  exact vz_ne (prim_ne hp)
theorem ys_nz {d : Nat} {rows : List Row} (h : Wr d rows) : Nz (ysOf d rows) := fun y hy => by
  obtain ⟨e, he, rfl⟩ := List.mem_map.mp hy
  obtain ⟨h1, h2⟩ := List.mem_filter.mp he
  have hl := (all_mem h h1).1
  obtain ⟨z, hz, hn⟩ := every_ne (wflatR h) e h1
  refine ⟨z, ?_, hn⟩
  rw [← CM.take_last hl] at hz
  rcases List.mem_append.mp hz with q | q
  · exact q
  · rw [List.mem_singleton.mp q, of_decide_eq_true h2] at hn
    exact absurd rfl hn
theorem cor_nz {d : Nat} {rows : List Row} (h : Wr d rows) : Nz (corL d rows).2 := by
  unfold corL
  split
  · exact fun _ h => nomatch h
  · exact fun y hy => ys_nz h y (mem_sortV.mp hy)
theorem cor_em {d : Nat} {rows : List Row} : (corL d rows).1 = [] → csOf d rows = [] ∧ (corL d rows).2 = [] := fun h => by
  by_cases h0 : csOf d rows = []
  · exact ⟨h0, by unfold corL; rw [if_pos h0]⟩
  · unfold corL at h
    rw [if_neg h0] at h
    exact absurd (sortP_nil.mp h) h0
theorem cor_tl {d : Nat} {rows : List Row} (hw : Wr d rows) (h : (corL d rows).1 ≠ []) {x : V} : Cv (flats (corL d rows).1 (corL d rows).2) x ↔ KB d rows x := by
  have h0 : csOf d rows ≠ [] := fun e => h (by unfold corL; rw [if_pos e])
  unfold corL
  rw [if_neg h0]
  exact (cv_congr fun e => mem_flats_sort).trans (flats_cn hw).symm
theorem rsL_tl {d : Nat} {cs : List Row} {ys : List (List Int)} (h1 : Wp d cs) (h2 : Wy d ys) (h0 : cs ≠ []) {x : V} : KB d (rsL d cs ys) x ↔ Cv (flats cs ys) x := by
  unfold rsL
  rw [if_neg h0]
  exact kb_sort.trans (rs_kb h1 h2 h0)
theorem natmk (s : S) (ds : List D) : ds.length = 4 → (if ds.length = 4 then some (D.obj ds, s) else none) = some (D.obj ds, s) := fun h => if_pos h
/-- told by rows -/
theorem byrows_ok {d b L L2 L3 : Nat} {rows : List Row} (s : S) (Z : Zr d b L rows) (hd1 : 1 ≤ d) (hd : d ≤ 4) (hb1 : 1 ≤ b) (hb : b ≤ 100000) (hl : L + 1 ≤ 64) (hc : (allOf d rows).length ≤ L2) (hc2 : L2 ≤ 64) (hL3 : 1 ≤ L3) (hr : (rsOf d (corL d rows).1 (corL d rows).2).length ≤ L3) :
    fby_rows [.int d, .lst (encs rows)] s = some (bodD d (rsL d (corL d rows).1 (corL d rows).2) (corL d rows).1 (corL d rows).2, s) ∧ Bdy d (16 * b + 80) L3 L2 (rsL d (corL d rows).1 (corL d rows).2) (corL d rows).1 (corL d rows).2 := by
  have Z1 := (Z.next hd hb1 (by omega) hl hc).cor
  have Z2 := Z1.next hd (by omega) hc2 hr
  have h1 := corners_ok s Z hd1 hd hb1 (by omega) hl
  have h2 := rows_ok s Z1 hd1 hd (by omega) hc2
  constructor
  · refine dfn_rt rfl ?_
    simp only [mby_rows, q_cons, z_ex, z_tup, z_ret, List.map_cons, List.map_nil, List.length_cons, List.length_nil]
    simp [nr_ok s hd1 hd Z.w, h1, h2]
    rfl
  · refine ⟨CM.Zr.mono (by omega) (Nat.le_refl _) (CM.Zr.rs (by omega) hL3 Z2), CM.Zp.mono (by omega) (Nat.le_refl _) Z1, cor_nz Z.w, fun h => ⟨(cor_em h).2, ?_⟩, fun h x => rsL_tl Z1.wc Z1.wy h, fun h => ?_⟩
    · unfold rsL; rw [if_pos h]
    · unfold rsL
      rw [if_neg h]
      intro r hr hz
      exact mem_sortP.mpr (rs_op Z1.wc Z1.wy r (mem_sortP.mp hr) hz)
/-! the empty body -/
theorem dt_last {d : Nat} {x : V} (e : List Int) : True := trivial
theorem kb_last {d : Nat} {rows : List Row} {x : V} (h : KB d rows x) : 0 ≤ x d := by
  have := h.2 _ (List.mem_map.mpr ⟨_, List.mem_cons_self, rfl⟩)
  rwa [CM.vz_unit (Nat.lt_succ_self d), CM.dt_un _ (Nat.lt_succ_self d)] at this
theorem vz_last {d : Nat} {e : List Int} : vz e d = ((e.getD d 0 : Int) : Rat) := rfl
theorem cs_nil {d : Nat} {rows : List Row} (hw : Wr d rows) : csOf d rows = [] ↔ ∀ x, KB d rows x → x d = 0 := by
  constructor
  · intro h x hx
    have h1 := (CM.all_cn hw).mp hx
    have h2 : ∀ e ∈ allOf d rows, e.getD d 0 = 0 := fun e he => by
      have h3 := (all_mem hw he).2.2
      apply Classical.byContradiction
      intro hn
      have : e ∈ (allOf d rows).filter fun e => decide (0 < e.getD d 0) := List.mem_filter.mpr ⟨he, decide_eq_true (by omega)⟩
      have h4 : splitP d e ∈ csOf d rows := List.mem_map.mpr ⟨e, this, rfl⟩
      rw [h] at h4; cases h4
    have := (CM.Cn.sp h1).dt0 (n := d + 1) (a := CM.un d) fun b hb => by
      obtain ⟨e, he, rfl⟩ := List.mem_map.mp hb
      rw [CM.dt_un _ (Nat.lt_succ_self d), vz_last, h2 e he]; rfl
    rwa [CM.dt_un _ (Nat.lt_succ_self d)] at this
  · intro h
    apply Classical.byContradiction
    intro hn
    obtain ⟨r, hr⟩ := List.exists_mem_of_ne_nil _ hn
    obtain ⟨e, he, rfl⟩ := List.mem_map.mp hr
    obtain ⟨h1, h2⟩ := List.mem_filter.mp he
    have h3 := h _ (all_mem hw h1).2.1
    rw [vz_last] at h3
    have h4 : e.getD d 0 = 0 := Rat.intCast_inj.mp h3
    have := of_decide_eq_true h2
    omega
theorem wr_zero (d : Nat) : Wr d [(zeros d, 1)] := fun r hr => by rw [List.mem_singleton.mp hr]; exact zeros_len d
theorem dI_zeros (d : Nat) : ∀ e : List Int, dI (zeros d) e = 0 := by
  have key : ∀ (l : List Nat) (e : List Int), dI (l.map fun _ => (0 : Int)) e = 0 := by
    intro l
    induction l with
    | nil => intro e; cases e <;> rfl
    | cons x l ih =>
      intro e
      cases e with
      | nil => rfl
      | cons y e =>
        have := ih e
        simp only [dI, List.map_cons, List.zip_cons_cons, List.sum_cons] at this ⊢
        rw [this]; omega
  exact key _
theorem cs_zero (d : Nat) : csOf d [(zeros d, 1)] = [] := by
  refine (cs_nil (wr_zero d)).mpr fun x hx => ?_
  have h0 := kb_last hx
  have h1 := hx.2 _ (List.mem_map.mpr ⟨flatR (zeros d, 1), List.mem_cons_of_mem _ (List.mem_map.mpr ⟨_, List.mem_singleton.mpr rfl, rfl⟩), rfl⟩)
  have e : vz (flatR (zeros d, 1)) = CM.sm (-1) (CM.un d) := by
    funext i
    show (((zeros d ++ [0 - 1]).getD i 0 : Int) : Rat) = -1 * CM.un d i
    unfold CM.un
    rcases Nat.lt_trichotomy i d with h | h | h
    · rw [gD_lt _ (by simp [zeros_len]; omega), List.getElem_append_left (by rw [zeros_len]; exact h), if_neg (by omega)]
      simp [zeros]
    · subst h
      rw [snoc_last (zeros_len i), if_pos rfl]; decide +kernel
    · rw [gD_ge _ (by simp [zeros_len]; omega), if_neg (by omega)]; decide +kernel
  rw [e, CM.sm_dt, CM.dt_un _ (Nat.lt_succ_self d)] at h1
  grind
/-- told by corners and rays -/
theorem bycorners_ok {d b L L2 L3 : Nat} {cs : List Row} {ys : List (List Int)} (s : S) (Z : Zp d b L cs ys) (hz : Nz ys) (hd1 : 1 ≤ d) (hd : d ≤ 4) (hb : b ≤ 100000) (hl : L ≤ 64) (hL2 : 1 ≤ L2) (hr : (rsOf d cs ys).length ≤ L2) (hc2 : L2 + 1 ≤ 64) (hc : (allOf d (rsL d cs ys)).length ≤ L3) :
    fby_corners [.int d, .lst (encs cs), .lst (vecs ys)] s = some (bodD d (rsL d cs ys) (corL d (rsL d cs ys)).1 (corL d (rsL d cs ys)).2, s) ∧ Bdy d (16 * b + 80) L2 L3 (rsL d cs ys) (corL d (rsL d cs ys)).1 (corL d (rsL d cs ys)).2 ∧
      ((corL d (rsL d cs ys)).1 = [] ↔ cs = []) ∧ (cs ≠ [] → ∀ x, Cv (flats (corL d (rsL d cs ys)).1 (corL d (rsL d cs ys)).2) x ↔ Cv (flats cs ys) x) := by
  have Z1 := CM.Zr.rs (by omega) hL2 (Z.next hd (by omega) hl hr)
  have Z2 := (Z1.next hd (by omega) (by omega) hc2 hc).cor
  have h1 := rows_ok s Z hd1 hd (by omega) hl
  have h2 := corners_ok s Z1 hd1 hd (by omega) (by omega) hc2
  have he : (corL d (rsL d cs ys)).1 = [] ↔ cs = [] := by
    constructor
    · intro h
      apply Classical.byContradiction
      intro hn
      have h3 := (cs_nil Z1.w).mp (cor_em h).1
      obtain ⟨c, hc⟩ := List.exists_mem_of_ne_nil _ hn
      have h4 : Cv (flats cs ys) (vz (flatP c)) := .mem (List.mem_map.mpr ⟨_, List.mem_append.mpr (.inl (List.mem_map.mpr ⟨c, hc, rfl⟩)), rfl⟩)
      have h5 := h3 _ ((rsL_tl Z.wc Z.wy hn).mpr h4)
      rw [vz_last] at h5
      have h6 : (flatP c).getD d 0 = c.2 := snoc_last (Z.wc c hc).1
      rw [h6] at h5
      have h7 : c.2 = 0 := Rat.intCast_inj.mp h5
      have := (Z.wc c hc).2
      omega
    · rintro rfl
      have : rsL d [] ys = [(zeros d, 1)] := by unfold rsL; rw [if_pos rfl]
      rw [this]
      unfold corL
      rw [if_pos (cs_zero d)]
  have ht : cs ≠ [] → ∀ x, Cv (flats (corL d (rsL d cs ys)).1 (corL d (rsL d cs ys)).2) x ↔ Cv (flats cs ys) x := fun h0 x =>
    (cor_tl Z1.w fun e => h0 (he.mp e)).trans (rsL_tl Z.wc Z.wy h0)
  refine ⟨?_, ⟨CM.Zr.mono (by omega) (Nat.le_refl _) Z1, CM.Zp.mono (by omega) (Nat.le_refl _) Z2, cor_nz Z1.w, fun h => ⟨(cor_em h).2, ?_⟩, fun h x => (cor_tl Z1.w h).symm, fun h => ?_⟩, he, ht⟩
  · refine dfn_rt rfl ?_
    simp only [mby_corners, q_cons, z_ex, z_set, z_ret, List.map_cons, List.map_nil, List.length_cons, List.length_nil]
    have a0 : ∀ x y : D, atD [x, y] 0 = some x := fun _ _ => rfl
    have a1 : ∀ x y : D, atD [x, y] 1 = some y := fun _ _ => rfl
    simp [nc_ok s hd1 hd Z.wc Z.wy hz, h1, h2, a0, a1]
    rfl
  · have := he.mp h
    subst this
    unfold rsL; rw [if_pos rfl]
  · have h0 : cs ≠ [] := fun e => h (he.mpr e)
    intro r hr hz
    unfold rsL at hr ⊢
    rw [if_neg h0] at hr ⊢
    have hr' := mem_sortP.mp hr
    have hrw := CM.rs_w Z.wc Z.wy r hr'
    have hfr : (flatR r).length = d + 1 := by show (r.1 ++ _).length = _; rw [List.length_append, hrw]; rfl
    refine mem_sortP.mpr (rs_op Z.wc Z.wy r hr' fun v hv => ?_)
    have hvw := wflats Z.wc Z.wy v hv
    have hc := (ht h0 (vz v)).mpr (.mem (List.mem_map.mpr ⟨v, hv, rfl⟩))
    have h3 := (CM.Cn.sp hc).dt0 (n := d + 1) (a := vz (flatR r)) fun b hb => by
      obtain ⟨u, hu, rfl⟩ := List.mem_map.mp hb
      have huw := wflats (Z2.wc) (Z2.wy) u hu
      exact (CM.dt0_iff hfr huw).mpr (hz u (by
        have e : rsL d cs ys = sortP (rsOf d cs ys) := by unfold rsL; rw [if_neg h0]
        exact hu))
    exact (CM.dt0_iff hfr hvw).mp h3
end CH

set_option maxRecDepth 100000
set_option maxHeartbeats 1000000
/-! The laws' drawn rows, corners and rays. -/
namespace CH
open PySem
open CM (dI opp unitL gD_lt gD_ge opp_len Row Wr Wp Wy Zr Zp Br)
theorem log_1m {m : Int} (h0 : 0 < m) (h : m ≤ 1000000) : m.natAbs.log2 < 60000000 := log_small (by omega) (by omega)
/-- a row as drawn: k rows are there already -/
def Rw (d k : Nat) (r : Row) : Prop := r.1.length = d ∧ (∀ z ∈ r.1, Big z) ∧ r.2.natAbs ≤ 1000000000000 + 3 * k
def lrB : List St := [sSet 5 [0] (mCall f_law_taken [(mV 0), (mK (.int 6))]),
      sSet 6 [0, 1, 0] (mTup [(mCall f_law_numbers [(mV 0), (mV 1), (mK (.int 3))]), (mCall f_law_number [(mV 0), (mK (.int 4))])]),
      sIf [] (tE (mCmp .Eq (mB 5) (mK (.int 4))))
        [sSet 7 [0, 1] (mCall f_law_taken [(mV 0), (mV 1)]),
         sSet 6 [1, 0, 0] (mTup [(mBlt "tuple" [(mComp (mRng (mB 1)) (mBd 9) mTrue (mBin .Mult (mBin .Sub (mK (.int 1)) (mBin .Mult (mK (.int 2)) (mCall f_law_taken [(mV 0), (mK (.int 2))]))) (mBlt "int" [(mCmp .Eq (mB 9) (mB 7))])) [9])]), (mCall f_law_number [(mV 0), (mK (.int 4))])])]
        [],
      sIf [] (tAnd [(tE (mCmp .Eq (mB 5) (mK (.int 5)))), (tE (mCmp .Gt (mBlt "len" [(mB 3)]) (mK (.int 0))))])
        [sSet 8 [0] (mIx (mB 3) (mCall f_law_taken [(mV 0), (mBlt "len" [(mB 3)])])),
         sSet 6 [0] (mTup [(mBlt "tuple" [(mComp (mIts (mIx (mB 8) (mK (.int 0)))) (mBd 10) mTrue (mBin .Sub (mK (.int 0)) (mB 10)) [10])]), (mBin .Sub (mBin .Sub (mK (.int 0)) (mIx (mB 8) (mK (.int 1)))) (mCall f_law_taken [(mV 0), (mK (.int 3))]))])]
        [],
      sApp 3 [6] (mV 6)]
theorem encs_snoc (l : List Row) (r : Row) : encs l ++ [encP r] = encs (l ++ [r]) := by simp [encs]
theorem at_encs {l : List Row} {k : Nat} (h : k < l.length) : atD (encs l) (k : Int) = some (encP (l.getD k ([], 0))) := by
  have h1 : k < (encs l).length := by rw [encs_len]; exact h
  rw [at_nat h1]
  simp [encs, h]
theorem lr_row {t : LS} {d m : Nat} {acc : List Row} (k : OkS t) (hd1 : 1 ≤ d) (hd : d ≤ 4) (hl : acc.length ≤ 1000) (hw : ∀ r ∈ acc, Rw d acc.length r) (x4 x5 x6 x7 x8 x9 x10 : Slot) :
    ∃ (r : Row) (t' : LS) (y5 y6 y7 y8 : Slot), sq lrB [.v .hnd, .v (.int d), .v (.int m), .own (encs acc), x4, x5, x6, x7, x8, x9, x10] (some t) = some (.nx [.v .hnd, .v (.int d), .v (.int m), .own (encs (acc ++ [r])), x4, y5, y6, y7, y8, x9, x10] (some t')) ∧ OkS t' ∧ Rw d (acc.length + 1) r := by
  have g2 : 2 ≤ line := by rw [line_val]; omega
  have hline : (encs acc).length < line := by rw [encs_len, line_val]; omega
  obtain ⟨w, t1, e1, w0, w1, k1⟩ := taken_ok k (m := 6) (by decide) (by decide)
  obtain ⟨l, t2, e2, l1, b1, k2⟩ := numbers_ok k1 (n := d) (w := 3) (by omega) (by omega) (by decide) (by decide)
  rw [Int.toNat_natCast] at l1
  obtain ⟨b, t3, e3, b3, b4, k3⟩ := number_ok k2 (w := 4) (by decide) (by decide)
  have hlen : bltD "len" [.lst (encs acc)] = some (.int acc.length) := by
    show some (D.int ((encs acc).length : Int)) = _
    rw [encs_len]
  by_cases h4 : w = 4
  · obtain ⟨p, t4, e4, p0, p1, k4⟩ := taken_ok k3 (m := (d : Int)) (by omega) (log_1m (by omega) (by omega))
    have hr : rangeD 0 (d : Int) = some (nats (List.range d)) := r_nat (by omega)
    obtain ⟨ys, s1, f1, f2, f3, t5, f4, k5⟩ := compE_draw (bd := mBd 9) (t := mTrue) (e := mBin .Mult (mBin .Sub (mK (.int 1)) (mBin .Mult (mK (.int 2)) (mCall f_law_taken [(mV 0), (mK (.int 2))]))) (mBlt "int" [(mCmp .Eq (mB 9) (mB 7))]))
      (r := [.v .hnd, .v (.int d), .v (.int m), .own (encs acc), x4, .v (.int 4), .v (.tup [vec l, .int b]), .v (.int p), x8, .un, x10]) (fun s => ∃ t, s = some t ∧ OkS t) (fun y => ∃ z, y = .int z ∧ Big z) (nats (List.range d)) (some t4) ⟨t4, rfl, k4⟩ (by
        rintro x hx s ⟨t, rfl, kk⟩
        obtain ⟨i, hi, rfl⟩ := List.mem_map.mp hx
        obtain ⟨z, t', e, z0, z1, kk'⟩ := taken_ok kk (m := 2) (by decide) (by decide)
        have m1 : opD .Mult (.int 2) (.int z) = some (.int (2 * z)) := o_mul (fits_small (by decide) (by decide)) (fits_small (by omega) (by omega))
        by_cases hq : (i : Int) = p
        · have m2 : opD .Mult (.int (1 - 2 * z)) (.int 1) = some (.int ((1 - 2 * z) * 1)) := o_mul (fits_small (by omega) (by omega)) (fits_small (by decide) (by decide))
          refine ⟨_, .int ((1 - 2 * z) * 1), some t', rfl, rfl, ?_, ⟨_, rfl, by omega, by omega⟩, t', rfl, kk'⟩
          simp [-Int.mul_one, e, m1, hq]
          simpa using m2
        · have m2 : opD .Mult (.int (1 - 2 * z)) (.int 0) = some (.int ((1 - 2 * z) * 0)) := o_mul (fits_small (by omega) (by omega)) (fits_small (by decide) (by decide))
          refine ⟨_, .int ((1 - 2 * z) * 0), some t', rfl, rfl, ?_, ⟨_, rfl, by omega, by omega⟩, t', rfl, kk'⟩
          simp [-Int.mul_zero, e, m1, hq]
          simpa using m2)
    obtain ⟨q, rfl, hq⟩ := ys_ints f3
    subst f4
    have hql : q.length = d := by simpa [zs, nats] using f2
    obtain ⟨c, t6, e6, c0, c1, k6⟩ := number_ok k5 (w := 4) (by decide) (by decide)
    have hnl : (nats (List.range d)).length < line := by rw [nats_len, List.length_range, line_val]; omega
    have htu : bltD "tuple" [.lst (zs q)] = some (vec q) := rfl
    refine ⟨(q, c), t6, .v (.int 4), .v (encP (q, c)), .v (.int p), x8, ?_, k6, hql, hq, by show c.natAbs ≤ _; omega⟩
    subst h4
    have hne : ¬ ((4 : Int) = 5) := by decide
    simp only [lrB]
    simp [-x_blt, e1, e2, e3, g2, e4, hr, hnl, f1, x_blt, htu, e6, hline, encP]
    rw [← encs_snoc]; rfl
  · by_cases h5 : w = 5 ∧ 0 < acc.length
    · obtain ⟨h5, h6⟩ := h5
      have h6' : (0 : Int) < (acc.length : Int) := by omega
      obtain ⟨p, t4, e4, p0, p1, k4⟩ := taken_ok k3 (m := (acc.length : Int)) h6' (log_1m h6' (by omega))
      obtain ⟨pn, rfl⟩ : ∃ pn : Nat, p = (pn : Int) := ⟨p.toNat, by omega⟩
      have hpn : pn < acc.length := by omega
      obtain ⟨u, hu⟩ : ∃ u, acc.getD pn ([], 0) = u := ⟨_, rfl⟩
      have hum : u ∈ acc := by rw [← hu, gD_lt _ hpn]; exact List.getElem_mem _
      have hat := at_encs hpn
      rw [hu] at hat
      obtain ⟨u1, u2, u3⟩ := hw u hum
      obtain ⟨c, t5, e5, c0, c1, k5⟩ := taken_ok k4 (m := 3) (by decide) (by decide)
      have hul : (zs u.1).length < line := by rw [zs_len, u1, line_val]; omega
      have hcc : ∀ x6 x7 x9, compE (mBd 10) mTrue (mBin .Sub (mK (.int 0)) (mB 10)) [.v .hnd, .v (.int d), .v (.int m), .own (encs acc), x4, .v (.int 5), x6, x7, .v (encP u), x9, .un] (zs u.1) (some t4) = some (zs (opp u.1), some t4) := by
        intro x6 x7 x9
        have := compE_map (bd := mBd 10) (t := mTrue) (e := mBin .Sub (mK (.int 0)) (mB 10)) (r := [.v .hnd, .v (.int d), .v (.int m), .own (encs acc), x4, .v (.int 5), x6, x7, .v (encP u), x9, .un]) (s := some t4) D.int (fun x => D.int (0 - x)) u.1 fun x _ => ⟨_, rfl, rfl, by simp⟩
        refine (show compE _ _ _ _ (u.1.map D.int) _ = _ from this).trans ?_
        simp [zs, opp]
      have htu : bltD "tuple" [.lst (zs (opp u.1))] = some (vec (opp u.1)) := rfl
      refine ⟨(opp u.1, 0 - u.2 - c), t5, .v (.int 5), .v (encP (opp u.1, 0 - u.2 - c)), x7, .v (encP u), ?_, k5, by rw [opp_len]; exact u1, fun z hz => ?_, by show (0 - u.2 - c).natAbs ≤ _; omega⟩
      · subst h5
        simp only [encP] at hat hcc
        simp only [lrB]
        simp [-Int.zero_sub, -x_blt, e1, e2, e3, g2, hlen, h6, e4, hat, at0e, at1e, hul, hcc, x_blt, htu, e5, hline, encP]
        rw [← encs_snoc]; rfl
      · obtain ⟨x, hx, rfl⟩ := List.mem_map.mp hz
        have := u2 x hx
        unfold Big at *; omega
    · refine ⟨(l, b), t3, .v (.int w), .v (encP (l, b)), x7, x8, ?_, k3, l1, b1, by show b.natAbs ≤ _; omega⟩
      by_cases h5' : w = 5
      · have h6 : ¬ 0 < acc.length := fun q => h5 ⟨h5', q⟩
        simp only [lrB]
        simp [-x_blt, e1, e2, e3, g2, h5', hlen, h6, x_blt, hline, encP]
        rw [← encs_snoc]; rfl
      · simp only [lrB]
        simp [-x_blt, e1, e2, e3, g2, h4, h5', hline, encP]
        rw [← encs_snoc]; rfl
end CH

set_option maxRecDepth 100000
set_option maxHeartbeats 1000000
namespace CH
open PySem
open CM (dI opp unitL gD_lt gD_ge opp_len Row Wr Wp Wy Zr Zp Br)
theorem big41 {z : Int} (h : Big z) : z.natAbs < 2 ^ 41 := by unfold Big at h; omega
theorem Rw.br {d k : Nat} {r : Row} (hk : k ≤ 1000) (h : Rw d k r) : Br 41 r := ⟨fun z hz => big41 (h.2.1 z hz), by have := h.2.2; omega⟩
theorem lrows_ok {t : LS} {d m : Nat} (k : OkS t) (hd1 : 1 ≤ d) (hd : d ≤ 4) (hm : m ≤ 60) :
    ∃ (rows : List Row) (t' : LS), f_law_rows [.hnd, .int d, .int m] (some t) = some (.lst (encs rows), some t') ∧ OkS t' ∧ Zr d 41 m rows := by
  obtain ⟨c, t1, e1, c0, c1, k1⟩ := taken_ok k (m := (m : Int) + 1) (by omega) (log_1m (by omega) (by omega))
  obtain ⟨n, rfl⟩ : ∃ n : Nat, c = (n : Int) := ⟨c.toNat, by omega⟩
  have hn : n ≤ m := by omega
  obtain ⟨r', s', f1, f2⟩ := forE_inv (bd := mBd 4) (body := sq lrB)
    (fun xs r s' => ∃ (acc : List Row) (t : LS) (x4 x5 x6 x7 x8 : Slot), xs.length + acc.length = n ∧ r = [.v .hnd, .v (.int d), .v (.int m), .own (encs acc), x4, x5, x6, x7, x8, .un, .un] ∧ s' = some t ∧ OkS t ∧ ∀ r ∈ acc, Rw d acc.length r) (by
      rintro x xs r s ⟨acc, t, x4, x5, x6, x7, x8, i1, i2, i3, i4, i5⟩
      subst i2 i3
      obtain ⟨u, t', y5, y6, y7, y8, j1, j2, j3⟩ := lr_row (m := m) i4 hd1 hd (by simp at i1; omega) i5 (.v x) x5 x6 x7 x8 .un .un
      refine ⟨_, _, _, rfl, j1, acc ++ [u], t', .v x, y5, y6, y7, y8, by simp at i1 ⊢; omega, rfl, rfl, j2, fun w hw => ?_⟩
      rw [List.length_append, List.length_singleton]
      rcases List.mem_append.mp hw with q | q
      · obtain ⟨q1, q2, q3⟩ := i5 w q
        exact ⟨q1, q2, by omega⟩
      · rw [List.mem_singleton.mp q]; exact j3) (nats (List.range n)) [.v .hnd, .v (.int d), .v (.int m), .own (encs []), .un, .un, .un, .un, .un, .un, .un] (some t1) ⟨[], t1, .un, .un, .un, .un, .un, by simp [nats_len], rfl, rfl, k1, fun _ h => nomatch h⟩
  obtain ⟨rows, t4, x4, x5, x6, x7, x8, i1, i2, i3, i4, i5⟩ := f2
  subst i2 i3
  simp at i1
  refine ⟨rows, t4, ?_, i4, fun r hr => (i5 r hr).1, fun r hr => (i5 r hr).br (by omega), by omega⟩
  refine dfn_rt rfl ?_
  have hrm : rangeD 0 (n : Int) = some (nats (List.range n)) := r_nat (by omega)
  simp only [m_law_rows, q_cons, z_own, z_set, z_for, z_ret, List.map_cons, List.map_nil, List.length_cons, List.length_nil]
  simp [e1, hrm]
  have f1' := f1
  simp only [lrB, encs, List.map_nil] at f1'
  rw [f1']
  simp
  rfl
theorem lpoint_ok {t : LS} {d : Nat} {w : Int} (k : OkS t) (hd : d ≤ 4) (hw0 : 0 ≤ w) (hw : w ≤ 1000) : ∃ (p : Row) (t' : LS), f_law_point [.hnd, .int d, .int w] (some t) = some (encP p, some t') ∧ OkS t' ∧ p.1.length = d ∧ 0 < p.2 ∧ Br 41 p := by
  have g2 : 2 ≤ line := by rw [line_val]; omega
  obtain ⟨l, t2, e2, l1, b1, k2⟩ := numbers_ok k (n := d) (w := w) (by omega) (by omega) (by omega) (by omega)
  rw [Int.toNat_natCast] at l1
  obtain ⟨c, t3, e3, c0, c1, k3⟩ := taken_ok k2 (m := 3) (by decide) (by decide)
  refine ⟨(l, 1 + c), t3, ?_, k3, l1, by show 0 < 1 + c; omega, fun z hz => big41 (b1 z hz), by show (1 + c).natAbs < _; omega⟩
  refine dfn_rt rfl ?_
  simp [e2, e3, g2, encP]
theorem lcorners_ok {t : LS} {d m : Nat} (k : OkS t) (hd : d ≤ 4) (hm : m ≤ 60) :
    ∃ (cs : List Row) (t' : LS), f_law_corners [.hnd, .int d, .int m] (some t) = some (.lst (encs cs), some t') ∧ OkS t' ∧ Wp d cs ∧ (∀ c ∈ cs, Br 41 c) ∧ cs.length ≤ m := by
  obtain ⟨c, t1, e1, c0, c1, k1⟩ := taken_ok k (m := (m : Int) + 1) (by omega) (log_1m (by omega) (by omega))
  obtain ⟨n, rfl⟩ : ∃ n : Nat, c = (n : Int) := ⟨c.toNat, by omega⟩
  obtain ⟨ys, s1, f1, f2, f3, t5, f4, k5⟩ := compE_draw (bd := mBd 3) (t := mTrue) (e := mCall f_law_point [(mV 0), (mV 1), (mK (.int 3))])
    (r := [.v .hnd, .v (.int d), .v (.int m), .un]) (fun s => ∃ t, s = some t ∧ OkS t) (fun y => ∃ p : Row, y = encP p ∧ p.1.length = d ∧ 0 < p.2 ∧ Br 41 p) (nats (List.range n)) (some t1) ⟨t1, rfl, k1⟩ (by
      rintro x hx s ⟨t, rfl, kk⟩
      obtain ⟨p, t', e, kk', p1, p2, p3⟩ := lpoint_ok (d := d) (w := 3) kk hd (by decide) (by decide)
      exact ⟨_, encP p, some t', rfl, rfl, by simp [e], ⟨p, rfl, p1, p2, p3⟩, t', rfl, kk'⟩)
  obtain ⟨cs, rfl, hcs⟩ : ∃ cs : List Row, ys = encs cs ∧ ∀ p ∈ cs, p.1.length = d ∧ 0 < p.2 ∧ Br 41 p := by
    clear f1 f2
    induction ys with
    | nil => exact ⟨[], rfl, fun _ h => nomatch h⟩
    | cons y ys ih =>
      obtain ⟨p, e, hp⟩ := f3 y List.mem_cons_self
      obtain ⟨cs, e2, h2⟩ := ih fun y hy => f3 y (List.mem_cons_of_mem _ hy)
      refine ⟨p :: cs, by rw [e, e2]; rfl, fun u hu => ?_⟩
      rcases List.mem_cons.mp hu with q | q
      · rw [q]; exact hp
      · exact h2 u q
  subst f4
  rw [encs_len, nats_len, List.length_range] at f2
  refine ⟨cs, t5, ?_, k5, fun p hp => ⟨(hcs p hp).1, (hcs p hp).2.1⟩, fun p hp => (hcs p hp).2.2, by omega⟩
  refine dfn_rt rfl ?_
  have hrm : rangeD 0 (n : Int) = some (nats (List.range n)) := r_nat (by omega)
  have hnl : (nats (List.range n)).length < line := by rw [nats_len, List.length_range, line_val]; omega
  simp [e1, hrm, hnl, f1]
theorem nzf {l : List Int} : (l.filter fun z => !decide (z = 0)) = [] ↔ ∀ z ∈ l, z = 0 := by
  rw [List.filter_eq_nil_iff]
  constructor
  · intro h z hz; have := h z hz; simpa using this
  · intro h z hz; simp [h z hz]
theorem eqnil (l : List Int) : eqD (.lst (zs l)) (.lst []) = some (decide (l = [])) := by
  cases l with
  | nil => exact eqD_yes (a := .lst []) ⟨rfl, by decide⟩
  | cons x l =>
    obtain ⟨y, h1, h2⟩ := eqD_pl (a := .lst (zs (x :: l))) (b := .lst []) ⟨pls_zs _, by show D.dps _ + 1 ≤ 60; rw [dps_zs]; decide⟩ ⟨rfl, by decide⟩
    rw [h1]
    cases y with
    | false => simp
    | true => have := h2.mp rfl; cases this
theorem lray_ok {t : LS} {d : Nat} {w : Int} (k : OkS t) (hd1 : 1 ≤ d) (hd : d ≤ 4) (hw0 : 0 ≤ w) (hw : w ≤ 1000) : ∃ (y : List Int) (t' : LS), f_law_ray [.hnd, .int d, .int w] (some t) = some (vec y, some t') ∧ OkS t' ∧ y.length = d ∧ (∀ z ∈ y, Big z) ∧ ∃ z ∈ y, z ≠ 0 := by
  obtain ⟨l, t2, e2, l1, b1, k2⟩ := numbers_ok k (n := d) (w := w) (by omega) (by omega) (by omega) (by omega)
  rw [Int.toNat_natCast] at l1
  have hl2 : (zs l).length < line := by rw [zs_len, l1, line_val]; omega
  have hc : ∀ x4 x6, compE (mBd 5) (tE (mCmp .NotEq (mB 5) (mK (.int 0)))) (mV 5) [.v .hnd, .v (.int d), .v (.int w), .v (vec l), x4, .un, x6] (zs l) (some t2) = some (zs (l.filter fun z => !decide (z = 0)), some t2) := fun x4 x6 =>
    compE_filter D.int (fun z => !decide (z = 0)) D.int l fun z _ => ⟨_, rfl, by simp, fun _ => by simp⟩
  have hcm : cmpD .Eq (.lst (zs (l.filter fun z => !decide (z = 0)))) (.lst []) = some (decide ((l.filter fun z => !decide (z = 0)) = [])) := eqnil _
  by_cases h0 : ∀ z ∈ l, z = 0
  · have hnil : (l.filter fun z => !decide (z = 0)) = [] := nzf.mpr h0
    obtain ⟨p, t4, e4, p0, p1, k4⟩ := taken_ok k2 (m := (d : Int)) (by omega) (log_1m (by omega) (by omega))
    obtain ⟨pn, rfl⟩ : ∃ pn : Nat, p = (pn : Int) := ⟨p.toNat, by omega⟩
    have hr : rangeD 0 (d : Int) = some (nats (List.range d)) := r_nat (by omega)
    have hnl : (nats (List.range d)).length < line := by rw [nats_len, List.length_range, line_val]; omega
    have hcc : ∀ x3 x5, compE (mBd 6) mTrue (mBlt "int" [(mCmp .Eq (mB 6) (mB 4))]) [.v .hnd, .v (.int d), .v (.int w), x3, .v (.int pn), x5, .un] (nats (List.range d)) (some t4) = some (zs (unitL d pn), some t4) := by
      intro x3 x5
      have := compE_map (bd := mBd 6) (t := mTrue) (e := mBlt "int" [(mCmp .Eq (mB 6) (mB 4))]) (r := [.v .hnd, .v (.int d), .v (.int w), x3, .v (.int pn), x5, .un]) (s := some t4) (fun (k : Nat) => D.int (k : Int)) (fun i => D.int (if i = pn then 1 else 0)) (List.range d) fun i _ => ⟨_, rfl, rfl, by
        by_cases e : i = pn
        · subst e; simp
        · have : ¬ (i : Int) = (pn : Int) := by omega
          simp [e, this]⟩
      refine (show compE _ _ _ _ ((List.range d).map fun (k : Nat) => D.int (k : Int)) _ = _ from this).trans ?_
      simp [zs, unitL]
    have htu : bltD "tuple" [.lst (zs (unitL d pn))] = some (vec (unitL d pn)) := rfl
    refine ⟨unitL d pn, t4, ?_, k4, by simp [unitL], fun z hz => ?_, 1, ?_, by decide⟩
    · refine dfn_rt rfl ?_
      have hcm0 : cmpD .Eq (.lst (zs [])) (.lst []) = some true := eqnil []
      rw [hnil] at hc
      simp [-x_blt, e2, hl2, hc, hcm0, e4, hr, hnl, hcc, x_blt, htu]
    · obtain ⟨i, _, rfl⟩ := List.mem_map.mp hz
      show Big (if i = pn then 1 else 0)
      unfold Big
      split <;> omega
    · exact List.mem_map.mpr ⟨pn, List.mem_range.mpr (by omega), by simp⟩
  · have hnil : ¬ (l.filter fun z => !decide (z = 0)) = [] := fun e => h0 (nzf.mp e)
    refine ⟨l, t2, ?_, k2, l1, b1, ?_⟩
    · refine dfn_rt rfl ?_
      simp [-List.filter_eq_nil_iff, e2, hl2, hc, hcm, hnil]
    · apply Classical.byContradiction
      intro hn
      exact h0 fun z hz => Classical.byContradiction fun h => hn ⟨z, hz, h⟩
theorem at_last_snoc (l : List D) (x : D) : atD (l ++ [x]) (-1) = some x := by
  unfold atD ixN
  rw [if_neg (by decide), List.length_append, List.length_singleton, if_pos (by omega)]
  show (l ++ [x])[(-1 + ((l.length + 1 : Nat) : Int)).toNat]? = _
  rw [show (-1 + ((l.length + 1 : Nat) : Int)).toNat = l.length by omega]
  simp
def lyB : List St := [sSet 5 [0, 1] (mCall f_law_ray [(mV 0), (mV 1), (mK (.int 2))]),
      sIf [0] (tAnd [(tE (mCmp .Gt (mBlt "len" [(mB 3)]) (mK (.int 0)))), (tE (mCmp .Eq (mCall f_law_taken [(mV 0), (mK (.int 4))]) (mK (.int 3))))])
        [sSet 5 [] (mBlt "tuple" [(mComp (mIts (mIx (mB 3) (mNeg (mK (.int 1))))) (mBd 6) mTrue (mBin .Sub (mK (.int 0)) (mB 6)) [6])])]
        [],
      sApp 3 [5] (mV 5)]
def Ry (d : Nat) (y : List Int) : Prop := y.length = d ∧ (∀ z ∈ y, Big z) ∧ ∃ z ∈ y, z ≠ 0
theorem ly_row {t : LS} {d m : Nat} {acc : List (List Int)} (k : OkS t) (hd1 : 1 ≤ d) (hd : d ≤ 4) (hl : acc.length ≤ 1000) (hw : ∀ r ∈ acc, Ry d r) (x4 x5 x6 : Slot) :
    ∃ (y : List Int) (t' : LS) (y5 : Slot), sq lyB [.v .hnd, .v (.int d), .v (.int m), .own (vecs acc), x4, x5, x6] (some t) = some (.nx [.v .hnd, .v (.int d), .v (.int m), .own (vecs (acc ++ [y])), x4, y5, x6] (some t')) ∧ OkS t' ∧ Ry d y := by
  have hline : (vecs acc).length < line := by rw [vecs_len, line_val]; omega
  have hlen : bltD "len" [.lst (vecs acc)] = some (.int acc.length) := by
    show some (D.int ((vecs acc).length : Int)) = _
    rw [vecs_len]
  have esn : ∀ y, vecs acc ++ [vec y] = vecs (acc ++ [y]) := fun y => by simp [vecs]
  obtain ⟨l, t1, e1, k1, l1, l2, l3⟩ := lray_ok (d := d) (w := 2) k hd1 hd (by decide) (by decide)
  by_cases h0 : 0 < acc.length
  · obtain ⟨z, t2, e2, z0, z1, k2⟩ := taken_ok k1 (m := 4) (by decide) (by decide)
    by_cases h3 : z = 3
    · have hne : acc ≠ [] := List.ne_nil_of_length_pos h0
      obtain ⟨u, hu⟩ : ∃ u, acc.getLast hne = u := ⟨_, rfl⟩
      have hum : u ∈ acc := hu ▸ List.getLast_mem _
      have hla : atD (vecs acc) (-1) = some (vec u) := by
        have e : acc = acc.dropLast ++ [u] := by rw [← hu]; exact (List.dropLast_concat_getLast hne).symm
        rw [e]
        show atD ((acc.dropLast ++ [u]).map vec) (-1) = _
        rw [List.map_append]
        exact at_last_snoc _ _
      obtain ⟨u1, u2, u3⟩ := hw u hum
      have hul : (zs u).length < line := by rw [zs_len, u1, line_val]; omega
      have hcc : ∀ x5, compE (mBd 6) mTrue (mBin .Sub (mK (.int 0)) (mB 6)) [.v .hnd, .v (.int d), .v (.int m), .own (vecs acc), x4, x5, .un] (zs u) (some t2) = some (zs (opp u), some t2) := by
        intro x5
        have := compE_map (bd := mBd 6) (t := mTrue) (e := mBin .Sub (mK (.int 0)) (mB 6)) (r := [.v .hnd, .v (.int d), .v (.int m), .own (vecs acc), x4, x5, .un]) (s := some t2) D.int (fun x => D.int (0 - x)) u fun x _ => ⟨_, rfl, rfl, by simp⟩
        refine (show compE _ _ _ _ (u.map D.int) _ = _ from this).trans ?_
        simp [zs, opp]
      have htu : bltD "tuple" [.lst (zs (opp u))] = some (vec (opp u)) := rfl
      refine ⟨opp u, t2, .v (vec (opp u)), ?_, k2, by rw [opp_len]; exact u1, fun z hz => ?_, ?_⟩
      · subst h3
        simp only [lyB]
        simp [-Int.zero_sub, -x_blt, e1, hlen, x_blt, h0, e2, hla, hul, hcc, htu, hline, esn]
      · obtain ⟨x, hx, rfl⟩ := List.mem_map.mp hz
        have := u2 x hx
        unfold Big at *; omega
      · obtain ⟨z, q1, q2⟩ := u3
        exact ⟨0 - z, List.mem_map.mpr ⟨z, q1, rfl⟩, by omega⟩
    · refine ⟨l, t2, .v (vec l), ?_, k2, l1, l2, l3⟩
      simp only [lyB]
      simp [-x_blt, e1, hlen, x_blt, h0, e2, h3, hline, esn]
  · refine ⟨l, t1, .v (vec l), ?_, k1, l1, l2, l3⟩
    simp only [lyB]
    simp [-x_blt, e1, hlen, x_blt, h0, hline, esn]
theorem lrays_ok {t : LS} {d m : Nat} (k : OkS t) (hd1 : 1 ≤ d) (hd : d ≤ 4) (hm : m ≤ 60) :
    ∃ (ys : List (List Int)) (t' : LS), f_law_rays [.hnd, .int d, .int m] (some t) = some (.lst (vecs ys), some t') ∧ OkS t' ∧ Wy d ys ∧ (∀ y ∈ ys, Bd 41 y) ∧ Nz ys ∧ ys.length ≤ m := by
  obtain ⟨c, t1, e1, c0, c1, k1⟩ := taken_ok k (m := (m : Int) + 1) (by omega) (log_1m (by omega) (by omega))
  obtain ⟨n, rfl⟩ : ∃ n : Nat, c = (n : Int) := ⟨c.toNat, by omega⟩
  have hn : n ≤ m := by omega
  obtain ⟨r', s', f1, f2⟩ := forE_inv (bd := mBd 4) (body := sq lyB)
    (fun xs r s' => ∃ (acc : List (List Int)) (t : LS) (x4 x5 : Slot), xs.length + acc.length = n ∧ r = [.v .hnd, .v (.int d), .v (.int m), .own (vecs acc), x4, x5, .un] ∧ s' = some t ∧ OkS t ∧ ∀ r ∈ acc, Ry d r) (by
      rintro x xs r s ⟨acc, t, x4, x5, i1, i2, i3, i4, i5⟩
      subst i2 i3
      obtain ⟨u, t', y5, j1, j2, j3⟩ := ly_row (m := m) i4 hd1 hd (by simp at i1; omega) i5 (.v x) x5 .un
      refine ⟨_, _, _, rfl, j1, acc ++ [u], t', .v x, y5, by simp at i1 ⊢; omega, rfl, rfl, j2, fun w hw => ?_⟩
      rcases List.mem_append.mp hw with q | q
      · exact i5 w q
      · rw [List.mem_singleton.mp q]; exact j3) (nats (List.range n)) [.v .hnd, .v (.int d), .v (.int m), .own (vecs []), .un, .un, .un] (some t1) ⟨[], t1, .un, .un, by simp [nats_len], rfl, rfl, k1, fun _ h => nomatch h⟩
  obtain ⟨ys, t4, x4, x5, i1, i2, i3, i4, i5⟩ := f2
  subst i2 i3
  simp at i1
  refine ⟨ys, t4, ?_, i4, fun r hr => (i5 r hr).1, fun r hr z hz => big41 ((i5 r hr).2.1 z hz), fun r hr => (i5 r hr).2.2, by omega⟩
  refine dfn_rt rfl ?_
  have hrm : rangeD 0 (n : Int) = some (nats (List.range n)) := r_nat (by omega)
  simp only [m_law_rays, q_cons, z_own, z_set, z_for, z_ret, List.map_cons, List.map_nil, List.length_cons, List.length_nil]
  simp [e1, hrm]
  have f1' := f1
  simp only [lyB, vecs, List.map_nil] at f1'
  rw [f1']
  simp
  rfl
theorem ldim_ok {t : LS} (k : OkS t) : ∃ (d : Nat) (t' : LS), f_law_dim [.hnd] (some t) = some (.int d, some t') ∧ OkS t' ∧ 1 ≤ d ∧ d ≤ 4 := by
  obtain ⟨z, t1, e1, z0, z1, k1⟩ := taken_ok k (m := 8) (by decide) (by decide)
  have g8 : 8 ≤ line := by rw [line_val]; omega
  have key : ∀ z : Int, 0 ≤ z → z < 8 → ∃ d : Nat, atD [.int 2, .int 1, .int 2, .int 3, .int 2, .int 1, .int 2, .int 4] z = some (.int d) ∧ 1 ≤ d ∧ d ≤ 4 := by
    intro z h0 h1
    have : z = 0 ∨ z = 1 ∨ z = 2 ∨ z = 3 ∨ z = 4 ∨ z = 5 ∨ z = 6 ∨ z = 7 := by omega
    rcases this with h | h | h | h | h | h | h | h <;> subst h
    · exact ⟨2, rfl, by decide, by decide⟩
    · exact ⟨1, rfl, by decide, by decide⟩
    · exact ⟨2, rfl, by decide, by decide⟩
    · exact ⟨3, rfl, by decide, by decide⟩
    · exact ⟨2, rfl, by decide, by decide⟩
    · exact ⟨1, rfl, by decide, by decide⟩
    · exact ⟨2, rfl, by decide, by decide⟩
    · exact ⟨4, rfl, by decide, by decide⟩
  obtain ⟨d, h1, h2, h3⟩ := key z z0 z1
  refine ⟨d, t1, ?_, k1, h2, h3⟩
  refine dfn_rt rfl ?_
  simp [e1, g8, h1]
/-- how many rows at the most -/
def mostN : Nat → Nat
  | 1 => 5
  | 2 => 6
  | 3 => 5
  | _ => 4
theorem lmost_ok {d : Nat} (s : S) (h1 : 1 ≤ d) (h4 : d ≤ 4) : f_law_most [.int d] s = some (.int (mostN d), s) := by
  have g5 : 5 ≤ line := by rw [line_val]; omega
  have key : atD [.int 0, .int 5, .int 6, .int 5, .int 4] (d : Int) = some (.int (mostN d)) := by
    have : d = 1 ∨ d = 2 ∨ d = 3 ∨ d = 4 := by omega
    rcases this with h | h | h | h <;> subst h <;> rfl
  refine dfn_rt rfl ?_
  simp [g5, key]
end CH

set_option maxRecDepth 100000
set_option maxHeartbeats 1000000
/-! Counts of rows and corners behind one row or one corner more; the laws' drawn bodies. -/
namespace CM
open Classical
section
variable {n : Nat}
theorem dtn_mixr (a p q : V) : dt n a (mixr n a p q) = 0 := dt_mixr a p q
theorem cut_list (W : List V) (a : V) : ∃ W' : List V, W'.length ≤ W.length + W.length * W.length ∧ ∀ x, (Cn (· ∈ W) x ∧ 0 ≤ dt n a x) ↔ Cn (· ∈ W') x := by
  refine ⟨W.filter (fun g => decide (0 ≤ dt n a g)) ++ (W.filter fun p => decide (0 < dt n a p)).flatMap fun p => (W.filter fun q => decide (dt n a q < 0)).map (mixr n a p), ?_, fun x => ⟨fun h => ?_, fun h => ?_⟩⟩
  · rw [List.length_append]
    have h1 := List.length_filter_le (fun g => decide (0 ≤ dt n a g)) W
    have h2 : ∀ L : List V, (L.flatMap fun p => (W.filter fun q => decide (dt n a q < 0)).map (mixr n a p)).length ≤ L.length * W.length := by
      intro L
      induction L with
      | nil => simp
      | cons p L ih =>
        rw [List.flatMap_cons, List.length_append, List.length_map, List.length_cons, Nat.succ_mul]
        have := List.length_filter_le (fun q => decide (dt n a q < 0)) W
        omega
    have h3 := h2 (W.filter fun p => decide (0 < dt n a p))
    have h4 := Nat.mul_le_mul_right W.length (List.length_filter_le (fun p => decide (0 < dt n a p)) W)
    omega
  · refine (cut_gen h.1 h.2).mono fun g hg => ?_
    rcases hg with ⟨h1, h2⟩ | ⟨p, q, h1, h2, h3, h4, rfl⟩
    · exact List.mem_append.mpr (.inl (List.mem_filter.mpr ⟨h1, decide_eq_true h2⟩))
    · exact List.mem_append.mpr (.inr (List.mem_flatMap.mpr ⟨p, List.mem_filter.mpr ⟨h1, decide_eq_true h3⟩, List.mem_map.mpr ⟨q, List.mem_filter.mpr ⟨h2, decide_eq_true h4⟩, rfl⟩⟩))
  · have key : ∀ g ∈ W.filter (fun g => decide (0 ≤ dt n a g)) ++ (W.filter fun p => decide (0 < dt n a p)).flatMap (fun p => (W.filter fun q => decide (dt n a q < 0)).map (mixr n a p)), Cn (· ∈ W) g ∧ 0 ≤ dt n a g := by
      intro g hg
      rcases List.mem_append.mp hg with hg | hg
      · obtain ⟨h1, h2⟩ := List.mem_filter.mp hg
        exact ⟨.mem h1, of_decide_eq_true h2⟩
      · obtain ⟨p, hp, hg⟩ := List.mem_flatMap.mp hg
        obtain ⟨q, hq, rfl⟩ := List.mem_map.mp hg
        obtain ⟨p1, p2⟩ := List.mem_filter.mp hp
        obtain ⟨q1, q2⟩ := List.mem_filter.mp hq
        have p3 := of_decide_eq_true p2
        have q3 := of_decide_eq_true q2
        refine ⟨?_, by rw [dt_mixr]; exact Rat.le_refl⟩
        unfold mixr
        first
          | exact .add (.sm (by grind) (.mem p1)) (.sm (by grind) (.mem q1))
          | exact .add (.sm (by grind) (.mem q1)) (.sm (by grind) (.mem p1))
          | skip
    exact ⟨h.trans fun b hb => (key b hb).1, Cn.dt0 h fun b hb => (key b hb).2⟩
end
/-- where a body's corners and rays come from: few rows, or few corners and rays -/
inductive Src (d : Nat) (cs : List Row) (ys : List Vec) : Prop
  | rows (A : List Vec) (hw : ∀ a ∈ A, a.length = d + 1) (hl : A.length ≤ CH.mostN d + 1) (h : ∀ x, Cv (flats cs ys) x ↔ Kv (d + 1) A x)
  | gens (W : List Vec) (hw : ∀ a ∈ W, a.length = d + 1) (hl : W.length ≤ 6) (h : ∀ x, Cv (flats cs ys) x ↔ Cv W x)
theorem kb_snoc {d : Nat} {rows : List Row} {r : Row} {x : V} : KB d (rows ++ [r]) x ↔ KB d rows x ∧ 0 ≤ dt (d + 1) (vz (flatR r)) x := by
  unfold KB
  constructor
  · intro h
    refine ⟨⟨h.1, fun b hb => ?_⟩, ?_⟩
    · obtain ⟨e, he, rfl⟩ := List.mem_map.mp hb
      refine h.2 _ (List.mem_map.mpr ⟨e, ?_, rfl⟩)
      rcases List.mem_cons.mp he with q | q
      · rw [q]; exact List.mem_cons_self
      · rw [List.map_append]; exact List.mem_cons_of_mem _ (List.mem_append.mpr (.inl q))
    · exact h.2 _ (List.mem_map.mpr ⟨flatR r, List.mem_cons_of_mem _ (by rw [List.map_append]; exact List.mem_append.mpr (.inr (List.mem_singleton.mpr rfl))), rfl⟩)
  · rintro ⟨h1, h2⟩
    refine ⟨h1.1, fun b hb => ?_⟩
    obtain ⟨e, he, rfl⟩ := List.mem_map.mp hb
    rw [List.map_append] at he
    rcases List.mem_cons.mp he with q | q
    · rw [q]; exact h1.2 _ (List.mem_map.mpr ⟨_, List.mem_cons_self, rfl⟩)
    · rcases List.mem_append.mp q with q | q
      · exact h1.2 _ (List.mem_map.mpr ⟨e, List.mem_cons_of_mem _ q, rfl⟩)
      · rw [List.mem_singleton.mp q]; exact h2
theorem kv_snoc {n : Nat} {A : List Vec} {r : Vec} {x : V} : Kv n (A ++ [r]) x ↔ Kv n A x ∧ 0 ≤ dt n (vz r) x := by
  constructor
  · intro h
    refine ⟨⟨h.1, fun b hb => ?_⟩, h.2 _ (by rw [List.map_append]; exact List.mem_append.mpr (.inr (List.mem_singleton.mpr rfl)))⟩
    exact h.2 _ (by rw [List.map_append]; exact List.mem_append.mpr (.inl hb))
  · rintro ⟨h1, h2⟩
    refine ⟨h1.1, fun b hb => ?_⟩
    rw [List.map_append] at hb
    rcases List.mem_append.mp hb with q | q
    · exact h1.2 _ q
    · rw [List.mem_singleton.mp q]; exact h2
theorem ch35 {d k j : Nat} (h1 : 1 ≤ d) (h4 : d ≤ 4) (hk : k ≤ CH.mostN d + 2) (hj : j < d + 1) : ch k j ≤ 35 := by
  have : d = 1 ∨ d = 2 ∨ d = 3 ∨ d = 4 := by omega
  rcases this with h | h | h | h <;> subst h
  · have hh : ∀ k, k < 8 → ∀ j, j < 2 → ch k j ≤ 35 := by decide +kernel
    exact hh k (by simp [CH.mostN] at hk; omega) j hj
  · have hh : ∀ k, k < 9 → ∀ j, j < 3 → ch k j ≤ 35 := by decide +kernel
    exact hh k (by simp [CH.mostN] at hk; omega) j hj
  · have hh : ∀ k, k < 8 → ∀ j, j < 4 → ch k j ≤ 35 := by decide +kernel
    exact hh k (by simp [CH.mostN] at hk; omega) j hj
  · have hh : ∀ k, k < 7 → ∀ j, j < 5 → ch k j ≤ 35 := by decide +kernel
    exact hh k (by simp [CH.mostN] at hk; omega) j hj
theorem ch7 {k j : Nat} (hk : k ≤ 7) (hj : j < 5) : ch k j ≤ 35 := by
  have hh : ∀ k, k < 8 → ∀ j, j < 5 → ch k j ≤ 35 := by decide +kernel
  exact hh k (by omega) j hj
/-- one row more: not many corners and rays -/
theorem count_row {d b Lr Lp : Nat} {rows cs : List Row} {ys : List Vec} (B : CH.Bdy d b Lr Lp rows cs ys) (h1 : 1 ≤ d) (h4 : d ≤ 4) (hs : cs ≠ [] → Src d cs ys) {r : Row} (hr : r.1.length = d) : (allOf d (rows ++ [r])).length ≤ 55 := by
  have hw : Wr d (rows ++ [r]) := fun q hq => by
    rcases List.mem_append.mp hq with q1 | q1
    · exact B.zr.w q q1
    · rw [List.mem_singleton.mp q1]; exact hr
  have hfr : (flatR r).length = d + 1 := by show (r.1 ++ _).length = _; rw [List.length_append, hr]; rfl
  by_cases h0 : cs = []
  · have h2 := (B.em h0).2
    subst h2
    have := all_ch (c := 35) hw fun j hj => ch7 (by simp) (by omega)
    omega
  · have hk : ∀ x, KB d (rows ++ [r]) x ↔ Cv (flats cs ys) x ∧ 0 ≤ dt (d + 1) (vz (flatR r)) x := fun x => kb_snoc.trans (and_congr (B.tl h0 x) Iff.rfl)
    cases hs h0 with
    | rows A hA hl h =>
      have hA' : ∀ a ∈ A ++ [flatR r], a.length = d + 1 := fun a ha => by
        rcases List.mem_append.mp ha with q | q
        · exact hA a q
        · rw [List.mem_singleton.mp q]; exact hfr
      obtain ⟨M, R, e1, C⟩ := coneL_ok hA'
      have h3 := C.count
      rw [List.length_append, List.length_singleton] at h3
      have h5 := ch35 (j := d + 1 - M.length - 1) h1 h4 (k := A.length + 1) (by omega) (by omega)
      have h6 := lines_le C
      have := all_gen (c := 2 * (d + 1) + 35) hw (W := (every (M.map (·.1), R)).map vz) (fun x => by
        rw [hk x]
        refine Iff.trans ?_ C.everyK
        exact (and_congr (h x) Iff.rfl).trans kv_snoc.symm) (by rw [List.length_map, every_len]; dsimp only; omega)
      omega
    | gens W hW hl h =>
      obtain ⟨W', w1, w2⟩ := cut_list (n := d + 1) (W.map vz) (vz (flatR r))
      rw [List.length_map] at w1
      have h3 : W.length * W.length ≤ 36 := Nat.mul_le_mul hl hl
      have := all_gen (c := 42) hw (W := W') (fun x => by
        rw [hk x, ← w2 x]
        exact and_congr (h x) Iff.rfl) (by omega)
      omega
/-- one corner more: not many rows -/
theorem count_corner {d b Lr Lp : Nat} {rows cs : List Row} {ys : List Vec} (B : CH.Bdy d b Lr Lp rows cs ys) (h1 : 1 ≤ d) (h4 : d ≤ 4) (hs : cs ≠ [] → Src d cs ys) {p : Row} (hp : p.1.length = d ∧ 0 < p.2) : (rsOf d (cs ++ [p]) ys).length ≤ 62 := by
  have hwc : Wp d (cs ++ [p]) := fun q hq => by
    rcases List.mem_append.mp hq with q1 | q1
    · exact B.zp.wc q q1
    · rw [List.mem_singleton.mp q1]; exact hp
  have hfp : (flatP p).length = d + 1 := by show (p.1 ++ _).length = _; rw [List.length_append, hp.1]; rfl
  by_cases h0 : cs = []
  · have h2 := (B.em h0).1
    subst h0 h2
    have := rs_ch (c := 35) hwc B.zp.wy fun j hj => ch7 (by simp) (by omega)
    omega
  · have hmem : ∀ e, e ∈ flats (cs ++ [p]) ys ↔ e ∈ flats cs ys ++ [flatP p] := fun e => by
      unfold flats
      simp only [List.map_append, List.mem_append, List.map_cons, List.map_nil]
      constructor
      · rintro ((h | h) | h)
        · exact .inl (.inl h)
        · exact .inr h
        · exact .inl (.inr h)
      · rintro ((h | h) | h)
        · exact .inl (.inl h)
        · exact .inr h
        · exact .inl (.inr h)
    have hfw : ∀ v ∈ flats cs ys ++ [flatP p], v.length = d + 1 := fun v hv => by
      rcases List.mem_append.mp hv with q | q
      · exact wflats B.zp.wc B.zp.wy v q
      · rw [List.mem_singleton.mp q]; exact hfp
    cases hs h0 with
    | rows A hA hl h =>
      obtain ⟨A', a1, a2⟩ := cut_list (n := d + 1) (A.map vz) (vz (flatP p))
      rw [List.length_map] at a1
      have hsu : ∀ a ∈ A', Su (d + 1) a := fun a ha => by
        have := ((a2 a).mpr (.mem ha)).1
        exact this.sp.su fun b hb => by obtain ⟨v, hv, rfl⟩ := List.mem_map.mp hb; exact su_vz (hA v hv)
      have key : ∀ x, Cv (flats (cs ++ [p]) ys) x ↔ Hd (d + 1) A' x := fun x => by
        rw [cv_congr hmem]
        constructor
        · intro hx
          refine Hd.cn hx fun b hb => ?_
          obtain ⟨v, hv, rfl⟩ := List.mem_map.mp hb
          refine ⟨su_vz (hfw v hv), fun a ha => ?_⟩
          obtain ⟨q1, q2⟩ := (a2 a).mpr (.mem ha)
          rcases List.mem_append.mp hv with q | q
          · have := (h (vz v)).mp (.mem (List.mem_map.mpr ⟨v, q, rfl⟩))
            rw [dt_comm]
            exact Cn.dt0 q1 fun b hb => by rw [dt_comm]; exact this.2 b hb
          · rw [List.mem_singleton.mp q, dt_comm]; exact q2
        · intro hx
          refine farkas _ (fun b hb => ?_) x hx.1 fun y hy hyp => ?_
          · obtain ⟨v, hv, rfl⟩ := List.mem_map.mp hb; exact su_vz (hfw v hv)
          · have hyA : Cn (· ∈ A.map vz) y := farkas _ (fun b hb => by obtain ⟨v, hv, rfl⟩ := List.mem_map.mp hb; exact su_vz (hA v hv)) y hy fun z hz hzp => by
              have h5 := (h z).mpr ⟨hz, hzp⟩
              exact Cn.dt0 h5 fun b hb => by
                obtain ⟨v, hv, rfl⟩ := List.mem_map.mp hb
                rw [dt_comm]; exact hyp _ (List.mem_map.mpr ⟨v, List.mem_append.mpr (.inl hv), rfl⟩)
            have hyp2 := hyp _ (List.mem_map.mpr ⟨flatP p, List.mem_append.mpr (.inr (List.mem_singleton.mpr rfl)), rfl⟩)
            have h6 := (a2 y).mp ⟨hyA, hyp2⟩
            exact Cn.dt0 h6 fun a ha => by rw [dt_comm]; exact hx.2 a ha
      have h7 := rs_dual (c := A.length + A.length * A.length) hwc B.zp.wy hsu key a1
      have h8 : A.length * A.length ≤ (CH.mostN d + 1) * (CH.mostN d + 1) := Nat.mul_le_mul hl hl
      have : d = 1 ∨ d = 2 ∨ d = 3 ∨ d = 4 := by omega
      rcases this with h | h | h | h <;> subst h <;> simp [CH.mostN] at h8 hl <;> omega
    | gens W hW hl h =>
      have hW' : ∀ a ∈ W ++ [flatP p], a.length = d + 1 := fun a ha => by
        rcases List.mem_append.mp ha with q | q
        · exact hW a q
        · rw [List.mem_singleton.mp q]; exact hfp
      obtain ⟨M, R, e1, C⟩ := coneL_ok hW'
      have h3 := C.count
      rw [List.length_append, List.length_singleton] at h3
      have h5 := ch7 (k := W.length + 1) (j := d + 1 - M.length - 1) (by omega) (by omega)
      have h6 := lines_le C
      have hgen : ∀ x, Cv (flats (cs ++ [p]) ys) x ↔ Cv (W ++ [flatP p]) x := fun x => by
        rw [cv_congr hmem]
        constructor
        · intro hx
          refine hx.trans fun b hb => ?_
          obtain ⟨v, hv, rfl⟩ := List.mem_map.mp hb
          rcases List.mem_append.mp hv with q | q
          · exact ((h _).mp (.mem (List.mem_map.mpr ⟨v, q, rfl⟩))).mono fun c hc => by rw [List.map_append]; exact List.mem_append.mpr (.inl hc)
          · exact .mem (List.mem_map.mpr ⟨v, List.mem_append.mpr (.inr q), rfl⟩)
        · intro hx
          refine hx.trans fun b hb => ?_
          obtain ⟨v, hv, rfl⟩ := List.mem_map.mp hb
          rcases List.mem_append.mp hv with q | q
          · exact ((h _).mpr (.mem (List.mem_map.mpr ⟨v, q, rfl⟩))).mono fun c hc => by rw [List.map_append]; exact List.mem_append.mpr (.inl hc)
          · exact .mem (List.mem_map.mpr ⟨v, List.mem_append.mpr (.inr q), rfl⟩)
      have := rs_dual (c := 2 * (d + 1) + 35) hwc B.zp.wy (A := (every (M.map (·.1), R)).map vz) (fun a ha => by
        obtain ⟨e, he, rfl⟩ := List.mem_map.mp ha
        exact su_vz (C.hdE he).1) (fun x => (hgen x).trans C.dual.symm) (by rw [List.length_map, every_len]; dsimp only; omega)
      omega
end CM

set_option maxRecDepth 100000
set_option maxHeartbeats 1000000
namespace CH
open PySem
open CM (dI opp unitL gD_lt gD_ge opp_len Row Wr Wp Wy Zr Zp Br Src allOf rsOf csOf ysOf flats Cv Kv KB V vz Cn wflatR wflats flatR)
theorem most_le {d : Nat} (h1 : 1 ≤ d) (h4 : d ≤ 4) : mostN d ≤ 6 ∧ 2 * (d + 1) + mostN d + 1 ≤ 15 := by
  have : d = 1 ∨ d = 2 ∨ d = 3 ∨ d = 4 := by omega
  rcases this with h | h | h | h <;> subst h <;> simp [mostN]
theorem ch28 {d k j : Nat} (h1 : 1 ≤ d) (h4 : d ≤ 4) (hk : k ≤ mostN d + 1) (hj : j < d + 1) : 2 * (d + 1) + CM.ch k j ≤ 28 := by
  have : d = 1 ∨ d = 2 ∨ d = 3 ∨ d = 4 := by omega
  rcases this with h | h | h | h <;> subst h
  · have hh : ∀ k, k < 7 → ∀ j, j < 2 → CM.ch k j ≤ 24 := by decide +kernel
    have := hh k (by simp [mostN] at hk; omega) j hj; omega
  · have hh : ∀ k, k < 8 → ∀ j, j < 3 → CM.ch k j ≤ 22 := by decide +kernel
    have := hh k (by simp [mostN] at hk; omega) j hj; omega
  · have hh : ∀ k, k < 7 → ∀ j, j < 4 → CM.ch k j ≤ 20 := by decide +kernel
    have := hh k (by simp [mostN] at hk; omega) j hj; omega
  · have hh : ∀ k, k < 6 → ∀ j, j < 5 → CM.ch k j ≤ 18 := by decide +kernel
    have := hh k (by simp [mostN] at hk; omega) j hj; omega
/-- few rows -/
theorem byrows_src {d m : Nat} {rows : List Row} (s : S) (Z : Zr d 41 m rows) (hd1 : 1 ≤ d) (hd : d ≤ 4) (hm : m ≤ mostN d) :
    ∃ (rs cs : List Row) (ys : List (List Int)), fby_rows [.int d, .lst (encs rows)] s = some (bodD d rs cs ys, s) ∧ Bdy d 736 30 28 rs cs ys ∧ (cs ≠ [] → Src d cs ys) ∧ (cs ≠ [] → ∀ x, Cv (flats cs ys) x ↔ KB d rows x) ∧ (cs = [] ↔ ∀ x, KB d rows x → x d = 0) := by
  obtain ⟨q1, q2⟩ := most_le hd1 hd
  have hl := Z.l
  have h1 : (allOf d rows).length ≤ 28 := by
    have hc : ∀ j, j < d + 1 → CM.ch (rows.length + 1) j ≤ 28 - 2 * (d + 1) := fun j hj => by
      have := ch28 (k := rows.length + 1) hd1 hd (by omega) hj; omega
    have := CM.all_ch Z.w hc
    omega
  have Z1 := (Z.next hd (by omega) (by omega) (by omega) h1).cor
  have htl : (corL d rows).1 ≠ [] → ∀ x, Cv (flats (corL d rows).1 (corL d rows).2) x ↔ KB d rows x := fun h x => cor_tl Z.w h
  have h2 : (rsOf d (corL d rows).1 (corL d rows).2).length ≤ 30 := by
    by_cases h0 : (corL d rows).1 = []
    · have h3 := (cor_em h0).2
      rw [h0, h3]
      have := CM.rs_ch (d := d) (c := 1) (cs := []) (ys := []) (fun _ h => nomatch h) (fun _ h => nomatch h) (fun j hj => by
        cases j with
        | zero => exact Nat.le_refl _
        | succ j => exact Nat.zero_le _)
      omega
    · have := CM.rs_dual (c := mostN d + 1) Z1.wc Z1.wy (A := (unitL (d + 1) d :: rows.map flatR).map vz) (fun a ha => by
        obtain ⟨e, he, rfl⟩ := List.mem_map.mp ha
        exact CM.su_vz (wflatR Z.w e he)) (fun x => htl h0 x) (by simp; omega)
      omega
  obtain ⟨b1, b2⟩ := byrows_ok s Z hd1 hd (by omega) (by omega) (by omega) h1 (by omega) (by omega : 1 ≤ 30) h2
  refine ⟨_, _, _, b1, b2, fun h0 => .rows (unitL (d + 1) d :: rows.map flatR) (wflatR Z.w) (by simp; omega) (htl h0), htl, ?_⟩
  rw [← cs_nil Z.w]
  exact ⟨fun h => (cor_em h).1, fun h => by unfold corL; rw [if_pos h]⟩
/-- few corners and rays -/
theorem bycorners_src {d : Nat} {cs0 : List Row} {ys0 : List (List Int)} (s : S) (Z : Zp d 41 6 cs0 ys0) (hz : Nz ys0) (hd1 : 1 ≤ d) (hd : d ≤ 4) :
    ∃ (rs cs : List Row) (ys : List (List Int)), fby_corners [.int d, .lst (encs cs0), .lst (vecs ys0)] s = some (bodD d rs cs ys, s) ∧ Bdy d 736 30 28 rs cs ys ∧ (cs ≠ [] → Src d cs ys) ∧ (cs = [] ↔ cs0 = []) ∧ (cs0 ≠ [] → ∀ x, Cv (flats cs ys) x ↔ Cv (flats cs0 ys0) x) := by
  have hl := Z.l
  have h2 : (rsOf d cs0 ys0).length ≤ 30 := by
    have hc : ∀ j, j < d + 1 → CM.ch (cs0.length + ys0.length) j ≤ 20 := fun j hj => by
      have hh : ∀ k, k < 7 → ∀ j, j < 5 → CM.ch k j ≤ 20 := by decide +kernel
      exact hh _ (by omega) j (by omega)
    have := CM.rs_ch Z.wc Z.wy hc
    omega
  have Z1 := CM.Zr.rs (by omega) (by omega : 1 ≤ 30) (Z.next hd (by omega) (by omega) h2)
  have h3 : (allOf d (rsL d cs0 ys0)).length ≤ 28 := by
    by_cases h0 : cs0 = []
    · have e : rsL d cs0 ys0 = [(zeros d, 1)] := by unfold rsL; rw [if_pos h0]
      rw [e]
      have hc : ∀ j, j < d + 1 → CM.ch ([(zeros d, (1 : Int))].length + 1) j ≤ 18 := fun j hj => by
        have hh : ∀ j, j < 5 → CM.ch 2 j ≤ 18 := by decide +kernel
        exact hh j (by omega)
      have := CM.all_ch (wr_zero d) hc
      omega
    · have := CM.all_gen (c := 6) Z1.w (W := (flats cs0 ys0).map vz) (fun x => rsL_tl Z.wc Z.wy h0) (by unfold flats; simp; omega)
      omega
  obtain ⟨b1, b2, b3, b4⟩ := bycorners_ok s Z hz hd1 hd (by omega) (by omega) (by omega : 1 ≤ 30) h2 (by omega) h3
  exact ⟨_, _, _, b1, b2, fun h0 => .gens (flats cs0 ys0) (wflats Z.wc Z.wy) (by unfold flats; simp; omega) (b4 fun e => h0 (b3.mpr e)), b3, b4⟩
theorem lbody_ok {t : LS} {d : Nat} (k : OkS t) (hd1 : 1 ≤ d) (hd : d ≤ 4) :
    ∃ (rs cs : List Row) (ys : List (List Int)) (t' : LS), f_law_body [.hnd, .int d] (some t) = some (bodD d rs cs ys, some t') ∧ OkS t' ∧ Bdy d 736 30 28 rs cs ys ∧ (cs ≠ [] → Src d cs ys) := by
  obtain ⟨z, t1, e1, z0, z1, k1⟩ := taken_ok k (m := 2) (by decide) (by decide)
  by_cases h1 : z = 1
  · obtain ⟨cs0, t2, e2, k2, w1, w2, w3⟩ := lcorners_ok (d := d) (m := 4) k1 hd (by decide)
    obtain ⟨ys0, t3, e3, k3, v1, v2, v3, v4⟩ := lrays_ok (d := d) (m := 2) k2 hd1 hd (by decide)
    obtain ⟨rs, cs, ys, b1, b2, b3, _⟩ := bycorners_src (some t3) ⟨w1, v1, w2, v2, by omega⟩ v3 hd1 hd
    refine ⟨rs, cs, ys, t3, ?_, k3, b2, b3⟩
    refine dfn_rt rfl ?_
    have e2' : f_law_corners [.hnd, .int d, .int 4] (some t1) = some (.lst (encs cs0), some t2) := e2
    have e3' : f_law_rays [.hnd, .int d, .int 2] (some t2) = some (.lst (vecs ys0), some t3) := e3
    simp [e1, h1, e2', e3', b1]
  · obtain ⟨rows, t2, e2, k2, Z⟩ := lrows_ok (d := d) (m := mostN d) k1 hd1 hd (by have := (most_le hd1 hd).1; omega)
    obtain ⟨rs, cs, ys, b1, b2, b3, _⟩ := byrows_src (some t2) Z hd1 hd (Nat.le_refl _)
    refine ⟨rs, cs, ys, t2, ?_, k2, b2, b3⟩
    refine dfn_rt rfl ?_
    simp [e1, h1, lmost_ok _ hd1 hd, e2, b1]
theorem lsmall_ok {t : LS} {d : Nat} (k : OkS t) (hd1 : 1 ≤ d) (hd : d ≤ 4) :
    ∃ (rs cs : List Row) (ys : List (List Int)) (t' : LS), f_law_small [.hnd, .int d] (some t) = some (bodD d rs cs ys, some t') ∧ OkS t' ∧ Bdy d 736 30 28 rs cs ys ∧ (cs ≠ [] → Src d cs ys) := by
  obtain ⟨z, t1, e1, z0, z1, k1⟩ := taken_ok k (m := 2) (by decide) (by decide)
  by_cases h1 : z = 1
  · obtain ⟨cs0, t2, e2, k2, w1, w2, w3⟩ := lcorners_ok (d := d) (m := 3) k1 hd (by decide)
    obtain ⟨ys0, t3, e3, k3, v1, v2, v3, v4⟩ := lrays_ok (d := d) (m := 1) k2 hd1 hd (by decide)
    obtain ⟨rs, cs, ys, b1, b2, b3, _⟩ := bycorners_src (some t3) ⟨w1, v1, w2, v2, by omega⟩ v3 hd1 hd
    refine ⟨rs, cs, ys, t3, ?_, k3, b2, b3⟩
    refine dfn_rt rfl ?_
    have e2' : f_law_corners [.hnd, .int d, .int 3] (some t1) = some (.lst (encs cs0), some t2) := e2
    have e3' : f_law_rays [.hnd, .int d, .int 1] (some t2) = some (.lst (vecs ys0), some t3) := e3
    simp [e1, h1, e2', e3', b1]
  · by_cases h3 : d < 3
    · obtain ⟨rows, t2, e2, k2, Z⟩ := lrows_ok (d := d) (m := 4) k1 hd1 hd (by omega)
      obtain ⟨rs, cs, ys, b1, b2, b3, _⟩ := byrows_src (some t2) Z hd1 hd (by
        have : d = 1 ∨ d = 2 := by omega
        rcases this with h | h <;> subst h <;> simp [mostN])
      refine ⟨rs, cs, ys, t2, ?_, k2, b2, b3⟩
      refine dfn_rt rfl ?_
      have e2' : f_law_rows [.hnd, .int d, .int 4] (some t1) = some (.lst (encs rows), some t2) := e2
      have h3' : (d : Int) < 3 := by omega
      simp [e1, h1, h3', e2', b1]
    · obtain ⟨rows, t2, e2, k2, Z⟩ := lrows_ok (d := d) (m := 3) k1 hd1 hd (by omega)
      obtain ⟨rs, cs, ys, b1, b2, b3, _⟩ := byrows_src (some t2) Z hd1 hd (by
        have : d = 3 ∨ d = 4 := by omega
        rcases this with h | h <;> subst h <;> simp [mostN])
      refine ⟨rs, cs, ys, t2, ?_, k2, b2, b3⟩
      refine dfn_rt rfl ?_
      have e2' : f_law_rows [.hnd, .int d, .int 3] (some t1) = some (.lst (encs rows), some t2) := e2
      have h3' : ¬ (d : Int) < 3 := by omega
      simp [e1, h1, h3', e2', b1]
end CH

set_option maxRecDepth 100000
set_option maxHeartbeats 1000000
/-! Rows held, bodies within bodies. -/
namespace CH
open PySem
open CM (dI opp unitL gD_lt gD_ge opp_len Row Wr Wp Wy Zr Zp Br Src flats Cv Kv KB V vz Cn flatR flatP flatY dtnn_iff wflats)
def holdsL (r p : Row) : Bool := decide (r.2 * p.2 ≤ dI r.1 p.1)
def aboveL (r : Row) (y : List Int) : Bool := decide (0 ≤ dI r.1 y)
def rowOk (cs : List Row) (ys : List (List Int)) (r : Row) : Bool := cs.all (holdsL r) && ys.all (aboveL r)
def withinL (rs cs : List Row) (ys : List (List Int)) : Bool := rs.all (rowOk cs ys)
theorem mul_row {b : Nat} {r p : Row} (hr : Br b r) (hp : Br b p) (hb : b ≤ 60000000) : opD .Mult (.int r.2) (.int p.2) = some (.int (r.2 * p.2)) := o_mul (fits_k hr.2 hb) (fits_k hp.2 hb)
theorem holds_ok {d b : Nat} {r p : Row} (s : S) (hr : Br b r) (hp : Br b p) (hw : r.1.length = d) (hd : d ≤ 1000) (hb : b ≤ 60000000) : fholds_row [encP r, encP p] s = some (.bl (holdsL r p), s) := by
  have h1 := dot_ok s hr.1 hp.1 hb hb (by rw [hw, line_val]; omega)
  refine dfn_rt rfl ?_
  simp [encP, at0e, at1e, h1, mul_row hr hp hb, holdsL]
theorem lholds_ok {d b : Nat} {r p : Row} (s : S) (hr : Br b r) (hp : Br b p) (hw : r.1.length = d) (hw2 : p.1.length = d) (hd : d ≤ 1000) (hb : b ≤ 60000000) : f_law_holds [encP r, encP p] s = some (.bl (holdsL r p), s) := by
  have h1 := ldot_ok s hr.1 hp.1 hb hb (by omega) (by rw [hw, hw2])
  refine dfn_rt rfl ?_
  simp [encP, at0e, at1e, h1, mul_row hr hp hb, holdsL]
theorem all_bl {α : Type} (p : α → Bool) (l : List α) : bltD "all" [.lst (l.map fun x => D.bl (p x))] = some (.bl (l.all p)) := by
  rw [b_all (asBls_map p l), List.all_map]; rfl
section
variable {d b L1 L2 L3 L4 : Nat} {r1 c1 r2 c2 : List Row} {y1 y2 : List (List Int)}
theorem alike_ok (s : S) : fneed_alike [bodD d r1 c1 y1, bodD d r2 c2 y2] s = some (.non, s) := by
  refine dfn_nx (r1 := [.v (bodD d r1 c1 y1), .v (bodD d r2 c2 y2)]) rfl ?_
  simp [bodD]
theorem within_ok (s : S) (B1 : Bdy d b L1 L2 r1 c1 y1) (B2 : Bdy d b L3 L4 r2 c2 y2) (hd : d ≤ 4) (hb : b ≤ 60000000) (h1 : L2 ≤ 10000000) : fwithin [bodD d r1 c1 y1, bodD d r2 c2 y2] s = some (.bl (withinL r2 c1 y1), s) := by
  have hcl : (encs c1).length < line := by have := B1.zp.l; rw [encs_len, line_val]; omega
  have hyl : (vecs y1).length < line := by have := B1.zp.l; rw [vecs_len, line_val]; omega
  have key := forE_ret (s := s) (bd := mBd 2) (body := sq [sIf [0, 2] (tNot (tE (mBlt "all" [(mComp (mIts (mAt "corners" (mV 0))) (mBd 3) mTrue (mCall fholds_row [(mV 2), (mV 3)]) [3])])))
        [sRet (mK (.bl false))]
        [],
      sIf [0] (tNot (tE (mBlt "all" [(mComp (mIts (mAt "rays" (mV 0))) (mBd 4) mTrue (mCmp .GtE (mCall fdot [(mIx (mB 2) (mK (.int 0))), (mV 4)]) (mK (.int 0))) [4])])))
        [sRet (mK (.bl false))]
        []]) encP (rowOk c1 y1) (.bl false) (fun r => ∃ x2 x3 x4, r = [.v (bodD d r1 c1 y1), .v (bodD d r2 c2 y2), x2, x3, x4]) r2 (by
    rintro r hr _ ⟨x2, x3, x4, rfl⟩
    have hrb := B2.zr.b r hr
    have hrw := B2.zr.w r hr
    have hc : ∀ x4, compE (mBd 3) mTrue (mCall fholds_row [(mV 2), (mV 3)]) [.v (bodD d r1 c1 y1), .v (bodD d r2 c2 y2), .v (encP r), .un, x4] (encs c1) s = some (c1.map fun p => D.bl (holdsL r p), s) := fun x4 =>
      compE_map (bd := mBd 3) (t := mTrue) (e := mCall fholds_row [(mV 2), (mV 3)]) (r := [.v (bodD d r1 c1 y1), .v (bodD d r2 c2 y2), .v (encP r), .un, x4]) (s := s) encP (fun p => D.bl (holdsL r p)) c1 fun p hp => ⟨_, rfl, rfl, by simp [holds_ok s hrb (B1.zp.bc p hp) hrw (by omega) hb]⟩
    have hy : ∀ x3, compE (mBd 4) mTrue (mCmp .GtE (mCall fdot [(mIx (mB 2) (mK (.int 0))), (mV 4)]) (mK (.int 0))) [.v (bodD d r1 c1 y1), .v (bodD d r2 c2 y2), .v (encP r), x3, .un] (vecs y1) s = some (y1.map fun y => D.bl (aboveL r y), s) := fun x3 =>
      compE_map (bd := mBd 4) (t := mTrue) (e := mCmp .GtE (mCall fdot [(mIx (mB 2) (mK (.int 0))), (mV 4)]) (mK (.int 0))) (r := [.v (bodD d r1 c1 y1), .v (bodD d r2 c2 y2), .v (encP r), x3, .un]) (s := s) vec (fun y => D.bl (aboveL r y)) y1 fun y hy => ⟨_, rfl, rfl, by
        have := dot_ok s hrb.1 (B1.zp.by_ y hy) hb hb (by rw [hrw, line_val]; omega)
        simp [encP, at0e, this, aboveL]⟩
    have hac := all_bl (holdsL r) c1
    have hay := all_bl (aboveL r) y1
    have hf1 : fldK "corners" (bodD d r1 c1 y1) = some (.lst (encs c1)) := rfl
    have hf2 : fldK "rays" (bodD d r1 c1 y1) = some (.lst (vecs y1)) := rfl
    refine ⟨_, rfl, fun h => ?_, fun h => ?_⟩
    · obtain ⟨q1, q2⟩ := Bool.and_eq_true_iff.mp h
      refine ⟨_, ?_, .v (encP r), x3, x4, rfl⟩
      rw [q1] at hac
      rw [q2] at hay
      simp [-List.all_eq_true, hf1, hf2, hcl, hyl, hc, hy, hac, hay]
    · have h' : (c1.all (holdsL r) && y1.all (aboveL r)) = false := h
      cases q1 : c1.all (holdsL r) with
      | false =>
        rw [q1] at hac
        simp [-List.all_eq_true, hf1, hf2, hcl, hyl, hc, hy, hac]
      | true =>
        rw [q1, Bool.true_and] at h'
        rw [q1] at hac
        rw [h'] at hay
        simp [-List.all_eq_true, hf1, hf2, hcl, hyl, hc, hy, hac, hay]) [.v (bodD d r1 c1 y1), .v (bodD d r2 c2 y2), .un, .un, .un] ⟨_, _, _, rfl⟩
  have hf3 : fldK "rows" (bodD d r2 c2 y2) = some (.lst (encs r2)) := rfl
  refine dfn_rt rfl ?_
  simp only [mwithin, q_cons, z_ex, z_for, z_ret, List.map_cons, List.map_nil, List.length_cons, List.length_nil]
  simp [alike_ok, hf3]
  rcases key with ⟨k1, r', k2, x2, x3, x4, rfl⟩ | ⟨k1, k2⟩
  · have e : withinL r2 c1 y1 = true := k1
    rw [show encs r2 = r2.map encP from rfl, k2, e]
    simp
  · have e : withinL r2 c1 y1 = false := k1
    rw [show encs r2 = r2.map encP from rfl, k2, e]
    simp
theorem agrees_ok (s : S) {r2 c1 : List Row} {y1 : List (List Int)} (hr : ∀ r ∈ r2, r.1.length = d ∧ Br b r) (hc1 : ∀ p ∈ c1, p.1.length = d ∧ Br b p) (hy1 : ∀ y ∈ y1, y.length = d ∧ Bd b y) (hd : d ≤ 4) (hb : b ≤ 60000000) (hcl : c1.length ≤ 10000000) (hyl : y1.length ≤ 10000000) :
    f_law_agrees [.lst (encs r2), .lst (encs c1), .lst (vecs y1)] s = some (.bl (withinL r2 c1 y1), s) := by
  have hcl : (encs c1).length < line := by rw [encs_len, line_val]; omega
  have hyl : (vecs y1).length < line := by rw [vecs_len, line_val]; omega
  have key := forE_ret (s := s) (bd := mBd 3) (body := sq [sIf [3] (tNot (tE (mBlt "all" [(mComp (mIts (mB 1)) (mBd 4) mTrue (mCall f_law_holds [(mV 3), (mV 4)]) [4])])))
        [sRet (mK (.bl false))]
        [],
      sIf [] (tNot (tE (mBlt "all" [(mComp (mIts (mB 2)) (mBd 5) mTrue (mCmp .GtE (mCall f_law_dot [(mIx (mB 3) (mK (.int 0))), (mV 5)]) (mK (.int 0))) [5])])))
        [sRet (mK (.bl false))]
        []]) encP (rowOk c1 y1) (.bl false) (fun r => ∃ x2 x3 x4, r = [.v (.lst (encs r2)), .v (.lst (encs c1)), .v (.lst (vecs y1)), x2, x3, x4]) r2 (by
    rintro r hrm _ ⟨x2, x3, x4, rfl⟩
    obtain ⟨hrw, hrb⟩ := hr r hrm
    have hc : ∀ x4, compE (mBd 4) mTrue (mCall f_law_holds [(mV 3), (mV 4)]) [.v (.lst (encs r2)), .v (.lst (encs c1)), .v (.lst (vecs y1)), .v (encP r), .un, x4] (encs c1) s = some (c1.map fun p => D.bl (holdsL r p), s) := fun x4 =>
      compE_map (bd := mBd 4) (t := mTrue) (e := mCall f_law_holds [(mV 3), (mV 4)]) (r := [.v (.lst (encs r2)), .v (.lst (encs c1)), .v (.lst (vecs y1)), .v (encP r), .un, x4]) (s := s) encP (fun p => D.bl (holdsL r p)) c1 fun p hp => ⟨_, rfl, rfl, by simp [lholds_ok s hrb (hc1 p hp).2 hrw (hc1 p hp).1 (by omega) hb]⟩
    have hy : ∀ x3, compE (mBd 5) mTrue (mCmp .GtE (mCall f_law_dot [(mIx (mB 3) (mK (.int 0))), (mV 5)]) (mK (.int 0))) [.v (.lst (encs r2)), .v (.lst (encs c1)), .v (.lst (vecs y1)), .v (encP r), x3, .un] (vecs y1) s = some (y1.map fun y => D.bl (aboveL r y), s) := fun x3 =>
      compE_map (bd := mBd 5) (t := mTrue) (e := mCmp .GtE (mCall f_law_dot [(mIx (mB 3) (mK (.int 0))), (mV 5)]) (mK (.int 0))) (r := [.v (.lst (encs r2)), .v (.lst (encs c1)), .v (.lst (vecs y1)), .v (encP r), x3, .un]) (s := s) vec (fun y => D.bl (aboveL r y)) y1 fun y hy => ⟨_, rfl, rfl, by
        have := ldot_ok s hrb.1 (hy1 y hy).2 hb hb (by rw [hrw]; omega) (by rw [hrw, (hy1 y hy).1])
        simp [encP, at0e, this, aboveL]⟩
    have hac := all_bl (holdsL r) c1
    have hay := all_bl (aboveL r) y1
    refine ⟨_, rfl, fun h => ?_, fun h => ?_⟩
    · obtain ⟨q1, q2⟩ := Bool.and_eq_true_iff.mp h
      refine ⟨_, ?_, .v (encP r), x3, x4, rfl⟩
      rw [q1] at hac
      rw [q2] at hay
      simp [-List.all_eq_true, hcl, hyl, hc, hy, hac, hay]
    · have h' : (c1.all (holdsL r) && y1.all (aboveL r)) = false := h
      cases q1 : c1.all (holdsL r) with
      | false =>
        rw [q1] at hac
        simp [-List.all_eq_true, hcl, hyl, hc, hy, hac]
      | true =>
        rw [q1, Bool.true_and] at h'
        rw [q1] at hac
        rw [h'] at hay
        simp [-List.all_eq_true, hcl, hyl, hc, hy, hac, hay]) [.v (.lst (encs r2)), .v (.lst (encs c1)), .v (.lst (vecs y1)), .un, .un, .un] ⟨_, _, _, rfl⟩
  refine dfn_rt rfl ?_
  simp only [m_law_agrees, q_cons, z_ex, z_for, z_ret, List.map_cons, List.map_nil, List.length_cons, List.length_nil]
  simp
  rcases key with ⟨k1, r', k2, x2, x3, x4, rfl⟩ | ⟨k1, k2⟩
  · have e : withinL r2 c1 y1 = true := k1
    rw [show encs r2 = r2.map encP from rfl] at k2 ⊢
    rw [k2, e]
    simp
  · have e : withinL r2 c1 y1 = false := k1
    rw [show encs r2 = r2.map encP from rfl] at k2 ⊢
    rw [k2, e]
    simp
theorem dI_app {a b : List Int} {x y : Int} (h : a.length = b.length) : dI (a ++ [x]) (b ++ [y]) = dI a b + x * y := dI_snoc h
/-- a body's corners and rays hold its rows -/
theorem own_within (B : Bdy d b L1 L2 r1 c1 y1) : withinL r1 c1 y1 = true := by
  by_cases h0 : c1 = []
  · have h1 := (B.em h0).1
    subst h0 h1
    unfold withinL
    rw [List.all_eq_true]
    intro r _
    rfl
  · unfold withinL
    rw [List.all_eq_true]
    intro r hr
    have hrw := B.zr.w r hr
    have hfr : (flatR r).length = d + 1 := by show (r.1 ++ _).length = _; rw [List.length_append, hrw]; rfl
    have key : ∀ v ∈ flats c1 y1, 0 ≤ dI (flatR r) v := fun v hv => by
      have h1 := (B.tl h0 (vz v)).mpr (.mem (List.mem_map.mpr ⟨v, hv, rfl⟩))
      have h2 := h1.2 _ (List.mem_map.mpr ⟨flatR r, List.mem_cons_of_mem _ (List.mem_map.mpr ⟨r, hr, rfl⟩), rfl⟩)
      exact (dtnn_iff hfr (wflats B.zp.wc B.zp.wy v hv)).mp h2
    show (c1.all (holdsL r) && y1.all (aboveL r)) = true
    rw [Bool.and_eq_true, List.all_eq_true, List.all_eq_true]
    constructor
    · intro p hp
      have := key (flatP p) (List.mem_append.mpr (.inl (List.mem_map.mpr ⟨p, hp, rfl⟩)))
      unfold flatR flatP at this
      rw [dI_app (by rw [hrw, (B.zp.wc p hp).1])] at this
      refine decide_eq_true ?_
      have e : (0 - r.2) * p.2 = -(r.2 * p.2) := by rw [Int.zero_sub, Int.neg_mul]
      omega
    · intro y hy
      have := key (flatY y) (List.mem_append.mpr (.inr (List.mem_map.mpr ⟨y, hy, rfl⟩)))
      unfold flatR flatY at this
      rw [dI_app (by rw [hrw, B.zp.wy y hy])] at this
      refine decide_eq_true ?_
      omega
end
end CH

set_option maxRecDepth 100000
set_option maxHeartbeats 2000000
/-! Bodies: equality of lists, a row among rows; the inner point. -/
namespace CH
open PySem
open CM (dI opp unitL gD_lt gD_ge opp_len Row Wr Wp Wy Zr Zp Br Src flats Cv Kv KB V vz Cn flatR flatP flatY allOf rsOf splitP splitR)
theorem _root_.CH.Bdy.mono {d b c L1 L2 L3 L4 : Nat} {r1 c1 : List Row} {y1 : List (List Int)} (B : Bdy d b L1 L2 r1 c1 y1) (h : b ≤ c) (h1 : L1 ≤ L3) (h2 : L2 ≤ L4) : Bdy d c L3 L4 r1 c1 y1 :=
  ⟨CM.Zr.mono h h1 B.zr, CM.Zp.mono h h2 B.zp, B.nz, B.em, B.tl, B.op⟩
theorem eq_bl (a b : Bool) : cmpD .Eq (.bl a) (.bl b) = some (a == b) := by
  cases a <;> cases b <;> rfl
theorem encP_pl (p : Row) : (encP p).pl = true := by
  show D.pls [vec p.1, .int p.2] = true
  show ((vec p.1).pl && D.pls [.int p.2]) = true
  rw [(pl_vec p.1).1]; rfl
theorem encP_dp (p : Row) : (encP p).dp = 2 := by
  show max (D.dps (zs p.1) + 1) (max 0 0) + 1 = 2
  rw [dps_zs]; rfl
theorem encs_pls : ∀ l : List Row, D.pls (encs l) = true
  | [] => rfl
  | p :: l => by
    show ((encP p).pl && D.pls (encs l)) = true
    rw [encP_pl, encs_pls l]; rfl
theorem encs_dps : ∀ l : List Row, D.dps (encs l) ≤ 2
  | [] => by decide
  | p :: l => by
    show max (encP p).dp (D.dps (encs l)) ≤ 2
    rw [encP_dp]
    have := encs_dps l
    omega
theorem eq_encs_nil (l : List Row) : cmpD .Eq (.lst (encs l)) (.lst []) = some (decide (l = [])) := by
  show eqD (.lst (encs l)) (.lst []) = _
  cases l with
  | nil => exact eqD_yes (a := .lst []) ⟨rfl, by decide⟩
  | cons x l =>
    obtain ⟨y, h1, h2⟩ := eqD_pl (a := .lst (encs (x :: l))) (b := .lst []) ⟨encs_pls _, by show D.dps _ + 1 ≤ 60; have := encs_dps (x :: l); omega⟩ ⟨rfl, by decide⟩
    rw [h1]
    cases y with
    | false => simp
    | true => have := h2.mp rfl; cases this
theorem encP_inj (x y : Row) (h : encP x = encP y) : x = y := by
  have h : D.tup [vec x.1, .int x.2] = D.tup [vec y.1, .int y.2] := h
  injection h with h
  injection h with h1 h2
  injection h2 with h2 _
  injection h2 with h2
  injection h1 with h1
  exact Prod.ext (zs_inj h1) h2
theorem in_encs (r : Row) (l : List Row) : inD (encP r) (.lst (encs l)) = some (decide (r ∈ l)) := by
  refine (inD_inj (f := encP) (n := 2) (by decide) encP_pl (fun x => by rw [encP_dp]; exact Nat.le_refl _) encP_inj r l).trans ?_
  congr 1
  exact decide_eq_decide.mpr Iff.rfl
theorem ispoint_ok {d k : Nat} {p : Row} (s : S) (hw : p.1.length = d) (hd : d ≤ 4) (h1 : 1 ≤ p.2) (hg : gcdL (flatP p) = 1) (hb : Bd k (flatP p)) (hk : k ≤ 60000000) : f_law_is_point [encP p, .int d] s = some (.bl true, s) := by
  have hn := lisnum_ok p.1 d s (by rw [hw, line_val]; omega)
  have hadd := flatP_bin hw (by omega : d ≤ 1000)
  have hlow := lislow_ok (flatP p) s hb hk
  rw [hg] at hlow
  have hlen : bltD "len" [.tup [vec p.1, .int p.2]] = some (.int 2) := rfl
  have g1 : 1 ≤ line := by rw [line_val]; omega
  refine dfn_rt rfl ?_
  simp [-x_blt, tyD, encP, kit3, at0e, at1e, hlen, x_blt, hn, hw, lwhole_ok, h1, g1, hadd, hlow]
/-! ### the inner point -/
def botL (cs : List Row) : Int := cs.foldl (fun b c => b * c.2) 1
def updC (bot : Int) (d : Nat) (a : List Int) (c : Row) : List Int := (List.range d).map fun k => a.getD k 0 + c.1.getD k 0 * (bot.fdiv c.2)
def updY (bot many : Int) (d : Nat) (a y : List Int) : List Int := (List.range d).map fun k => a.getD k 0 + y.getD k 0 * bot * many
def sumsL (d : Nat) (cs : List Row) (ys : List (List Int)) : List Int := ys.foldl (updY (botL cs) cs.length d) (cs.foldl (updC (botL cs) d) (zeros d))
def innV (d : Nat) (cs : List Row) (ys : List (List Int)) : List Int := sumsL d cs ys ++ [botL cs * cs.length]
theorem updC_len (bot : Int) (d : Nat) (a : List Int) (c : Row) : (updC bot d a c).length = d := by simp [updC]
theorem updY_len (bot many : Int) (d : Nat) (a y : List Int) : (updY bot many d a y).length = d := by simp [updY]
theorem foldC_len (bot : Int) (d : Nat) : ∀ (cs : List Row) (a : List Int), a.length = d → (cs.foldl (updC bot d) a).length = d
  | [], _, h => h
  | c :: cs, a, _ => foldC_len bot d cs _ (updC_len bot d a c)
theorem foldY_len (bot many : Int) (d : Nat) : ∀ (ys : List (List Int)) (a : List Int), a.length = d → (ys.foldl (updY bot many d) a).length = d
  | [], _, h => h
  | y :: ys, a, _ => foldY_len bot many d ys _ (updY_len bot many d a y)
theorem sums_len (d : Nat) (cs : List Row) (ys : List (List Int)) : (sumsL d cs ys).length = d := foldY_len _ _ d ys _ (foldC_len _ d cs _ (zeros_len d))
theorem bot_fold {B : Nat} : ∀ (cs : List Row) (b : Int) (i : Nat), (∀ c ∈ cs, c.2.natAbs < 2 ^ B) → b.natAbs < 2 ^ i → (cs.foldl (fun b c => b * c.2) b).natAbs < 2 ^ (i + B * cs.length)
  | [], b, i, _, h => by simpa using h
  | c :: cs, b, i, hc, h => by
    have h1 := mul_lt h (hc c List.mem_cons_self)
    have := bot_fold cs (b * c.2) (i + B) (fun x hx => hc x (List.mem_cons_of_mem _ hx)) h1
    rw [List.length_cons, Nat.mul_succ]
    have e : i + (B * cs.length + B) = i + B + B * cs.length := by omega
    rw [e]; exact this
theorem inner_ok {d b L1 L2 : Nat} {rs cs : List Row} {ys : List (List Int)} (s : S) (B : Bdy d b L1 L2 rs cs ys) (hd1 : 1 ≤ d) (hd : d ≤ 4) (hb1 : 1 ≤ b) (hb : b ≤ 20000) (hL : L2 ≤ 100) (h0 : cs ≠ []) {K : Nat} (hK : Bd K (innV d cs ys)) (hK2 : K ≤ 50000000) :
    finner [bodD d rs cs ys] s = some (encP (splitP d (lowL (innV d cs ys))), s) := by
  have hl := B.zp.l
  have g1 : 1 ≤ line := by rw [line_val]; omega
  have g2 : 2 ≤ line := by rw [line_val]; omega
  have hbl : b * cs.length ≤ 20000 * 100 := Nat.mul_le_mul hb (by omega)
  have hbot : (botL cs).natAbs < 2 ^ (1 + b * cs.length) := bot_fold cs 1 1 (fun c hc => (B.zp.bc c hc).2) (by decide)
  have hcl : (encs cs).length < line := by rw [encs_len, line_val]; omega
  have hfc : fldK "corners" (bodD d rs cs ys) = some (.lst (encs cs)) := rfl
  have hfy : fldK "rays" (bodD d rs cs ys) = some (.lst (vecs ys)) := rfl
  have hfd : fldK "dim" (bodD d rs cs ys) = some (.int d) := rfl
  have hlenb : bltD "len" [.lst (encs cs)] = some (.int cs.length) := by
    show some (D.int ((encs cs).length : Int)) = _
    rw [encs_len]
  have hpos : ¬ ((cs.length : Int) = 0) := by
    have := List.length_pos_iff.mpr h0; omega
  have hem : fBody_is_empty [bodD d rs cs ys] s = some (.bl false, s) := by
    refine dfn_rt rfl ?_
    simp [-x_blt, hfc, x_blt, hlenb, hpos, h0]
  have hr : rangeD 0 (d : Int) = some (nats (List.range d)) := r_nat (by omega)
  have hnl : (nats (List.range d)).length < line := by rw [nats_len, List.length_range, line_val]; omega
  -- bottom
  obtain ⟨r1, s1, f1, f2⟩ := forE_inv (bd := mBd 2) (body := sq [sSet 1 [] (mBin .Mult (mB 1) (mIx (mB 2) (mK (.int 1))))])
    (fun xs r s' => ∃ (l : List Row) (i : Nat) (q : Int) (x2 : Slot), xs = encs l ∧ (∀ c ∈ l, c ∈ cs) ∧ i + b * l.length ≤ 1 + b * cs.length ∧ q.natAbs < 2 ^ i ∧ l.foldl (fun b c => b * c.2) q = botL cs ∧ s' = s ∧ r = [.v (bodD d rs cs ys), .v (.int q), x2, .un, .un, .un, .un, .un, .un]) (by
      rintro x xs r s1 ⟨l, i, q, x2, e1, e2, e3, e4, e5, e6, e7⟩
      cases l with
      | nil => cases e1
      | cons c l =>
        cases e1
        subst e6 e7
        have hc := (B.zp.bc c (e2 c List.mem_cons_self)).2
        rw [List.length_cons, Nat.mul_succ] at e3
        have hm : opD .Mult (.int q) (.int c.2) = some (.int (q * c.2)) := o_mul (fits_k e4 (by omega)) (fits_k hc (by omega))
        refine ⟨_, _, s1, rfl, ?_, l, i + b, q * c.2, .v (encP c), rfl, fun y hy => e2 y (List.mem_cons_of_mem _ hy), by omega, mul_lt e4 hc, e5, rfl, rfl⟩
        simp [encP, at1e, hm]) (encs cs) [.v (bodD d rs cs ys), .v (.int 1), .un, .un, .un, .un, .un, .un, .un] s ⟨cs, 1, 1, .un, rfl, fun _ h => h, Nat.le_refl _, by decide, rfl, rfl, rfl⟩
  obtain ⟨l, i, q, x2, e1, e2, e3, e4, e5, e6, e7⟩ := f2
  cases l with
  | cons c l => cases e1
  | nil =>
  subst e6 e7
  have eq : q = botL cs := e5
  subst eq
  -- noughts
  have hz : ∀ x2 x3 x4 x5 x6 x7, compE (mBd 8) mTrue (mK (.int 0)) [.v (bodD d rs cs ys), .v (.int (botL cs)), x2, x3, x4, x5, x6, x7, .un] (nats (List.range d)) s1 = some (zs (zeros d), s1) := by
    intro x2 x3 x4 x5 x6 x7
    have := compE_map (bd := mBd 8) (t := mTrue) (e := mK (.int 0)) (r := [.v (bodD d rs cs ys), .v (.int (botL cs)), x2, x3, x4, x5, x6, x7, .un]) (s := s1) (fun (k : Nat) => D.int (k : Int)) (fun _ => D.int 0) (List.range d) fun k _ => ⟨_, rfl, rfl, rfl⟩
    refine (show compE _ _ _ _ ((List.range d).map fun (k : Nat) => D.int (k : Int)) _ = _ from this).trans ?_
    simp [zs, zeros]
  -- corners
  obtain ⟨r2, k1, hl2, y2, y6, y7, rfl⟩ := forE_fold (s := s1) (bd := mBdT [6, 7]) (body := sq [sSet 3 [0] (mComp (mRng (mAt "dim" (mV 0))) (mBd 8) mTrue (mBin .Add (mIx (mB 3) (mV 8)) (mBin .Mult (mIx (mB 6) (mV 8)) (mBin .FloorDiv (mB 1) (mB 7)))) [8])]) encP (updC (botL cs) d)
    (fun a r => a.length = d ∧ ∃ x2 x6 x7, r = [.v (bodD d rs cs ys), .v (.int (botL cs)), x2, .v (.lst (zs a)), .un, .un, x6, x7, .un]) cs (by
      rintro c hc a r ⟨ha, x2, x6, x7, rfl⟩
      obtain ⟨cw, cp⟩ := B.zp.wc c hc
      obtain ⟨cb1, cb2⟩ := B.zp.bc c hc
      have hdv : opD .FloorDiv (.int (botL cs)) (.int c.2) = some (.int ((botL cs).fdiv c.2)) := o_div (by omega) (log_k cb2 (by omega))
      have hfd2 : fits ((botL cs).fdiv c.2) = true := by
        refine fits_k (k := 1 + b * cs.length) (Nat.lt_of_le_of_lt ?_ hbot) (by omega)
        rw [Int.fdiv_eq_ediv_of_nonneg _ (by omega)]
        exact Int.natAbs_ediv_le_natAbs _ _
      have hcc : ∀ x2, compE (mBd 8) mTrue (mBin .Add (mIx (mB 3) (mV 8)) (mBin .Mult (mIx (mB 6) (mV 8)) (mBin .FloorDiv (mB 1) (mB 7)))) [.v (bodD d rs cs ys), .v (.int (botL cs)), x2, .v (.lst (zs a)), .un, .un, .v (vec c.1), .v (.int c.2), .un] (nats (List.range d)) s1 = some (zs (updC (botL cs) d a c), s1) := by
        intro x2
        have := compE_map (bd := mBd 8) (t := mTrue) (e := mBin .Add (mIx (mB 3) (mV 8)) (mBin .Mult (mIx (mB 6) (mV 8)) (mBin .FloorDiv (mB 1) (mB 7)))) (r := [.v (bodD d rs cs ys), .v (.int (botL cs)), x2, .v (.lst (zs a)), .un, .un, .v (vec c.1), .v (.int c.2), .un]) (s := s1) (fun (k : Nat) => D.int (k : Int)) (fun k => D.int (a.getD k 0 + c.1.getD k 0 * ((botL cs).fdiv c.2))) (List.range d) fun k hk => ⟨_, rfl, rfl, by
          have hk := List.mem_range.mp hk
          have a1 := at_zs (v := a) (j := k) (by omega)
          have a2 := at_zs (v := c.1) (j := k) (by omega)
          have hm : opD .Mult (.int (c.1.getD k 0)) (.int ((botL cs).fdiv c.2)) = some (.int (c.1.getD k 0 * ((botL cs).fdiv c.2))) := o_mul (fits_k (cb1 _ (by rw [gD_lt _ (by omega)]; exact List.getElem_mem _)) (by omega)) hfd2
          simp [-List.getD_eq_getElem?_getD, a1, a2, hdv, hm]⟩
        refine (show compE _ _ _ _ ((List.range d).map fun (k : Nat) => D.int (k : Int)) _ = _ from this).trans ?_
        simp [zs, updC]
      refine ⟨_, _, rfl, ?_, updC_len _ _ _ _, x2, .v (vec c.1), .v (.int c.2), rfl⟩
      simp [hfd, hr, hnl, hcc]) (zeros d) [.v (bodD d rs cs ys), .v (.int (botL cs)), x2, .v (.lst (zs (zeros d))), .un, .un, .un, .un, .un] ⟨zeros_len d, x2, .un, .un, rfl⟩
  -- rays
  obtain ⟨r3, k2, hl3, y2', y5, rfl⟩ := forE_fold (s := s1) (bd := mBd 5) (body := sq [sSet 3 [0] (mComp (mRng (mAt "dim" (mV 0))) (mBd 8) mTrue (mBin .Add (mIx (mB 3) (mV 8)) (mBin .Mult (mBin .Mult (mIx (mB 5) (mV 8)) (mB 1)) (mB 4))) [8])]) vec (updY (botL cs) cs.length d)
    (fun a r => a.length = d ∧ ∃ x2 x5, r = [.v (bodD d rs cs ys), .v (.int (botL cs)), x2, .v (.lst (zs a)), .v (.int cs.length), x5, y6, y7, .un]) ys (by
      rintro y hy a r ⟨ha, x2, x5, rfl⟩
      have yw := B.zp.wy y hy
      have yb := B.zp.by_ y hy
      have hcc : ∀ x2, compE (mBd 8) mTrue (mBin .Add (mIx (mB 3) (mV 8)) (mBin .Mult (mBin .Mult (mIx (mB 5) (mV 8)) (mB 1)) (mB 4))) [.v (bodD d rs cs ys), .v (.int (botL cs)), x2, .v (.lst (zs a)), .v (.int cs.length), .v (vec y), y6, y7, .un] (nats (List.range d)) s1 = some (zs (updY (botL cs) cs.length d a y), s1) := by
        intro x2
        have := compE_map (bd := mBd 8) (t := mTrue) (e := mBin .Add (mIx (mB 3) (mV 8)) (mBin .Mult (mBin .Mult (mIx (mB 5) (mV 8)) (mB 1)) (mB 4))) (r := [.v (bodD d rs cs ys), .v (.int (botL cs)), x2, .v (.lst (zs a)), .v (.int cs.length), .v (vec y), y6, y7, .un]) (s := s1) (fun (k : Nat) => D.int (k : Int)) (fun k => D.int (a.getD k 0 + y.getD k 0 * botL cs * cs.length)) (List.range d) fun k hk => ⟨_, rfl, rfl, by
          have hk := List.mem_range.mp hk
          have a1 := at_zs (v := a) (j := k) (by omega)
          have a2 := at_zs (v := y) (j := k) (by omega)
          have hyk : (y.getD k 0).natAbs < 2 ^ b := yb _ (by rw [gD_lt _ (by omega)]; exact List.getElem_mem _)
          have hm : opD .Mult (.int (y.getD k 0)) (.int (botL cs)) = some (.int (y.getD k 0 * botL cs)) := o_mul (fits_k hyk (by omega)) (fits_k hbot (by omega))
          have hm2 : opD .Mult (.int (y.getD k 0 * botL cs)) (.int cs.length) = some (.int (y.getD k 0 * botL cs * cs.length)) := o_mul (fits_k (mul_lt hyk hbot) (by omega)) (fits_small (by omega) (by omega))
          simp [-List.getD_eq_getElem?_getD, a1, a2, hm, hm2]⟩
        refine (show compE _ _ _ _ ((List.range d).map fun (k : Nat) => D.int (k : Int)) _ = _ from this).trans ?_
        simp [zs, updY]
      refine ⟨_, _, rfl, ?_, updY_len _ _ _ _ _, x2, .v (vec y), rfl⟩
      simp [hfd, hr, hnl, hcc]) (cs.foldl (updC (botL cs) d) (zeros d)) [.v (bodD d rs cs ys), .v (.int (botL cs)), y2, .v (.lst (zs (cs.foldl (updC (botL cs) d) (zeros d)))), .v (.int cs.length), .un, y6, y7, .un] ⟨hl2, y2, .un, rfl⟩
  have hsum : ys.foldl (updY (botL cs) cs.length d) (cs.foldl (updC (botL cs) d) (zeros d)) = sumsL d cs ys := rfl
  rw [hsum] at k2
  have hme : opD .Mult (.int (botL cs)) (.int cs.length) = some (.int (botL cs * cs.length)) := o_mul (fits_k hbot (by omega)) (fits_small (by omega) (by omega))
  have hte : bltD "tuple" [.lst (zs (sumsL d cs ys))] = some (vec (sumsL d cs ys)) := rfl
  have hsl := sums_len d cs ys
  have hadd := flatP_bin (p := (sumsL d cs ys, botL cs * cs.length)) (d := d) hsl (by omega)
  have hadd' : opD .Add (vec (sumsL d cs ys)) (.tup [.int (botL cs * cs.length)]) = some (vec (innV d cs ys)) := hadd
  have hvl : (innV d cs ys).length = d + 1 := by unfold innV; rw [List.length_append, hsl]; rfl
  have hll : (lowL (innV d cs ys)).length = d + 1 := by rw [lowL_len, hvl]
  have hlow := low_k (innV d cs ys) s1 (vec (innV d cs ys)) (.inl rfl) hK (by omega) (by rw [hvl, line_val]; omega)
  have hpt : fpoint_of [vec (innV d cs ys)] s1 = some (encP (splitP d (lowL (innV d cs ys))), s1) := by
    obtain ⟨u, hu⟩ : ∃ u, lowL (innV d cs ys) = u := ⟨_, rfl⟩
    rw [hu] at hlow hll ⊢
    have c1 : cutD (zs u) none (some (-1)) = zs (u.take d) := by
      have e1 : sIx (zs u).length 0 none = 0 := rfl
      have e2 : sIx (zs u).length (zs u).length (some (-1)) = d := by
        unfold sIx
        dsimp only
        rw [if_pos (by decide), zs_len, hll]; omega
      unfold cutD
      rw [e1, e2]
      simp [zs]
    have c2 : atD (zs u) (-1) = some (.int (u.getD d 0)) := by
      have e := CM.take_last hll
      have e2 : zs u = zs (u.take d) ++ [.int (u.getD d 0)] := by
        conv => lhs; rw [← e]
        simp [zs]
      rw [e2]
      exact at_last_snoc _ _
    refine dfn_rt rfl ?_
    simp [-List.getD_eq_getElem?_getD, hlow, c1, c2, g2, encP, splitP]
  refine dfn_rt rfl ?_
  simp only [minner, q_cons, z_set, z_if, z_for, z_ret, List.map_cons, List.map_nil, List.length_cons, List.length_nil]
  have hob : ∀ k : List D → Option (D × S), objK (bodD d rs cs ys) k = k [.int d, .lst (encs rs), .lst (encs cs), .lst (vecs ys)] := fun _ => rfl
  have hem' : fBody_is_empty [.obj [.int d, .lst (encs rs), .lst (encs cs), .lst (vecs ys)]] s1 = some (.bl false, s1) := hem
  simp [-x_blt, hob, hem', hfc]
  rw [f1]
  simp [-x_blt, hfd, hr, hnl, hz, hfc]
  rw [show encs cs = cs.map encP from rfl, k1]
  simp [-x_blt, hfc, x_blt, hlenb, hfy]
  rw [show vecs ys = ys.map vec from rfl, k2]
  simp [-x_blt, x_blt, hte, hme, g1, hadd', hpt]
end CH

set_option maxRecDepth 100000
set_option maxHeartbeats 2000000
namespace CH
open PySem
open CM (dI opp unitL gD_lt gD_ge opp_len Row Wr Wp Wy Zr Zp Br Src flats Cv Kv KB V vz Cn flatR flatP flatY allOf rsOf splitP splitR dt_vz dI_comm su_vz)
def mlaw : List St :=
  [sSet 1 [0] (mCall f_law_begun [(mV 0)]),
   sSet 2 [1] (mCall f_law_dim [(mV 1)]),
   sSet 3 [1, 2] (mCall f_law_body [(mV 1), (mV 2)]),
   sSet 4 [3] (mCall finner [(mV 3)]),
   sIf [3] (tE (mCmp .Eq (mAt "corners" (mV 3)) (mLst [])))
     [sRet (mCmp .Is (mB 4) (mK .non))]
     [],
   sIf [4, 2] (tNot (tE (mCall f_law_is_point [(mV 4), (mV 2)])))
     [sRet (mK (.bl false))]
     [],
   sFor [3] (mIts (mAt "rows" (mV 3))) (mBd 5)
     [sSet 6 [] (mBin .Sub (mCall f_law_dot [(mIx (mB 5) (mK (.int 0))), (mIx (mB 4) (mK (.int 0)))]) (mBin .Mult (mIx (mB 5) (mK (.int 1))) (mIx (mB 4) (mK (.int 1))))),
      sSet 7 [3] (mCmp .In (mTup [(mBlt "tuple" [(mComp (mIts (mIx (mB 5) (mK (.int 0)))) (mBd 8) mTrue (mBin .Sub (mK (.int 0)) (mB 8)) [8])]), (mBin .Sub (mK (.int 0)) (mIx (mB 5) (mK (.int 1))))]) (mAt "rows" (mV 3))),
      sIf [7, 7] (tOr [(tAnd [(tE (mV 7)), (tE (mCmp .NotEq (mB 6) (mK (.int 0))))]), (tAnd [(tNot (tE (mV 7))), (tE (mCmp .LtE (mB 6) (mK (.int 0))))])])
        [sRet (mK (.bl false))]
        []],
   sRet (mK (.bl true))]
def flaw : Sm := dfn 9 1 mlaw
theorem sum_nn {α : Type} {f : α → Int} : ∀ (l : List α), (∀ x ∈ l, 0 ≤ f x) → 0 ≤ (l.map f).sum ∧ ((l.map f).sum = 0 → ∀ x ∈ l, f x = 0)
  | [], _ => ⟨by simp, fun _ _ h => nomatch h⟩
  | x :: l, h => by
    obtain ⟨h1, h2⟩ := sum_nn l fun y hy => h y (List.mem_cons_of_mem _ hy)
    have h3 := h x List.mem_cons_self
    rw [List.map_cons, List.sum_cons]
    refine ⟨by omega, fun e y hy => ?_⟩
    rcases List.mem_cons.mp hy with q | q
    · rw [q]; omega
    · exact h2 (by omega) y q
theorem dI_lin {d : Nat} {q a w : List Int} {m : Int} (hq : q.length = d) (ha : a.length = d) (hw : w.length = d) : dI q ((List.range d).map fun k => a.getD k 0 + w.getD k 0 * m) = dI q a + dI q w * m := by
  have hl : ((List.range d).map fun k => a.getD k 0 + w.getD k 0 * m).length = d := by simp
  have e : vz ((List.range d).map fun k => a.getD k 0 + w.getD k 0 * m) = vz a + CM.sm (m : Rat) (vz w) := by
    funext i
    show ((((List.range d).map fun k => a.getD k 0 + w.getD k 0 * m).getD i 0 : Int) : Rat) = ((a.getD i 0 : Int) : Rat) + (m : Rat) * ((w.getD i 0 : Int) : Rat)
    by_cases h : i < d
    · rw [gD_lt _ (by rw [hl]; exact h)]
      simp only [List.getElem_map, List.getElem_range]
      rw [Rat.intCast_add, Rat.intCast_mul, Rat.mul_comm]
    · rw [gD_ge _ (by rw [hl]; omega), gD_ge 0 (show a.length ≤ i by omega), gD_ge 0 (show w.length ≤ i by omega)]
      simp; grind
  have h1 := dt_vz hq hl
  rw [e, CM.dt_add, CM.dt_sm, dt_vz hq ha, dt_vz hq hw, ← Rat.intCast_mul, ← Rat.intCast_add] at h1
  have := Rat.intCast_inj.mp h1
  rw [← this, Int.mul_comm]
theorem foldC_dI {d : Nat} {q : List Int} {bot : Int} (hq : q.length = d) : ∀ (cs : List Row) (a : List Int), a.length = d → (∀ c ∈ cs, c.1.length = d) → dI q (cs.foldl (updC bot d) a) = dI q a + (cs.map fun c => dI q c.1 * bot.fdiv c.2).sum
  | [], a, _, _ => by simp
  | c :: cs, a, ha, hc => by
    rw [List.foldl_cons, foldC_dI hq cs _ (updC_len bot d a c) fun x hx => hc x (List.mem_cons_of_mem _ hx)]
    unfold updC
    rw [dI_lin hq ha (hc c List.mem_cons_self), List.map_cons, List.sum_cons]
    omega
theorem foldY_dI {d : Nat} {q : List Int} {bot many : Int} (hq : q.length = d) : ∀ (ys : List (List Int)) (a : List Int), a.length = d → (∀ c ∈ ys, c.length = d) → dI q (ys.foldl (updY bot many d) a) = dI q a + (ys.map fun y => dI q y * (bot * many)).sum
  | [], a, _, _ => by simp
  | c :: ys, a, ha, hc => by
    rw [List.foldl_cons, foldY_dI hq ys _ (updY_len bot many d a c) fun x hx => hc x (List.mem_cons_of_mem _ hx)]
    have e : updY bot many d a c = (List.range d).map fun k => a.getD k 0 + c.getD k 0 * (bot * many) := by
      unfold updY
      exact List.map_congr_left fun k _ => by rw [Int.mul_assoc]
    rw [e, dI_lin hq ha (hc c List.mem_cons_self), List.map_cons, List.sum_cons]
    omega
theorem bot_pos : ∀ (cs : List Row) (b : Int), 0 < b → (∀ c ∈ cs, 0 < c.2) → 0 < cs.foldl (fun b c => b * c.2) b
  | [], _, h, _ => h
  | c :: cs, b, h, hc => bot_pos cs _ (Int.mul_pos h (hc c List.mem_cons_self)) fun x hx => hc x (List.mem_cons_of_mem _ hx)
theorem bot_dvd0 : ∀ (cs : List Row) (b : Int), b ∣ cs.foldl (fun b c => b * c.2) b
  | [], b => Int.dvd_refl b
  | c :: cs, b => Int.dvd_trans (Int.dvd_mul_right b c.2) (bot_dvd0 cs (b * c.2))
theorem bot_dvd : ∀ (cs : List Row) (b : Int), ∀ c ∈ cs, c.2 ∣ cs.foldl (fun b c => b * c.2) b
  | x :: cs, b, c, hc => by
    rcases List.mem_cons.mp hc with q | q
    · rw [q]; exact Int.dvd_trans (Int.dvd_mul_left b x.2) (bot_dvd0 cs (b * x.2))
    · exact bot_dvd cs (b * x.2) c q
theorem sum_eq {bot r2 : Int} {q : List Int} : ∀ (l : List Row), (∀ c ∈ l, c.2 * bot.fdiv c.2 = bot) → (l.map fun c => dI q c.1 * bot.fdiv c.2).sum - r2 * (bot * l.length) = (l.map fun c => bot.fdiv c.2 * (dI q c.1 - r2 * c.2)).sum
  | [], _ => by simp
  | c :: l, h => by
    have ih := sum_eq (r2 := r2) (q := q) l fun x hx => h x (List.mem_cons_of_mem _ hx)
    have h1 := h c List.mem_cons_self
    rw [List.map_cons, List.sum_cons, List.map_cons, List.sum_cons, ← ih]
    generalize bot.fdiv c.2 = m at h1 ⊢
    have e : ((l.length + 1 : Nat) : Int) = (l.length : Int) + 1 := by omega
    rw [List.length_cons, e, Int.mul_sub, ← h1]
    generalize (List.map (fun c => dI q c.1 * (c.2 * m).fdiv c.2) l).sum = S
    grind
theorem add0 {a b : Int} (ha : 0 ≤ a) (hb : 0 ≤ b) (h : a + b = 0) : a = 0 ∧ b = 0 := by omega
/-- a row at the inner point -/
theorem inn_row {d b L1 L2 : Nat} {rs cs : List Row} {ys : List (List Int)} (B : Bdy d b L1 L2 rs cs ys) (h0 : cs ≠ []) {r : Row} (hr : r ∈ rs) :
    0 ≤ dI (flatR r) (innV d cs ys) ∧ (dI (flatR r) (innV d cs ys) = 0 ↔ ∀ v ∈ flats cs ys, dI (flatR r) v = 0) := by
  have hrw := B.zr.w r hr
  have hbp : 0 < botL cs := bot_pos cs 1 (by decide) fun c hc => (B.zp.wc c hc).2
  have hn : 0 < (cs.length : Int) := by have := List.length_pos_iff.mpr h0; omega
  have hm : ∀ c ∈ cs, c.2 * (botL cs).fdiv c.2 = botL cs := fun c hc => Int.mul_fdiv_cancel' (bot_dvd cs 1 c hc)
  have hmp : ∀ c ∈ cs, 0 < (botL cs).fdiv c.2 := fun c hc => by
    have h1 := hm c hc
    have h2 := (B.zp.wc c hc).2
    apply Classical.byContradiction
    intro hn
    have : c.2 * (botL cs).fdiv c.2 ≤ 0 := Int.mul_nonpos_of_nonneg_of_nonpos (by omega) (by omega)
    omega
  have hfl : ∀ c ∈ cs, dI (flatR r) (flatP c) = dI r.1 c.1 - r.2 * c.2 := fun c hc => by
    unfold flatR flatP
    rw [dI_app (by rw [hrw, (B.zp.wc c hc).1]), Int.zero_sub, Int.neg_mul]; omega
  have hfy : ∀ y ∈ ys, dI (flatR r) (flatY y) = dI r.1 y := fun y hy => by
    unfold flatR flatY
    rw [dI_app (by rw [hrw, B.zp.wy y hy])]; omega
  have hown := own_within B
  unfold withinL at hown
  have hro := List.all_eq_true.mp hown r hr
  obtain ⟨o1, o2⟩ := Bool.and_eq_true_iff.mp (show (cs.all (holdsL r) && ys.all (aboveL r)) = true from hro)
  have o1' : ∀ c ∈ cs, 0 ≤ dI r.1 c.1 - r.2 * c.2 := fun c hc => by
    have := of_decide_eq_true (List.all_eq_true.mp o1 c hc); omega
  have o2' : ∀ y ∈ ys, 0 ≤ dI r.1 y := fun y hy => of_decide_eq_true (List.all_eq_true.mp o2 y hy)
  have eT : dI (flatR r) (innV d cs ys) = (cs.map fun c => (botL cs).fdiv c.2 * (dI r.1 c.1 - r.2 * c.2)).sum + (ys.map fun y => dI r.1 y * (botL cs * cs.length)).sum := by
    unfold flatR innV
    rw [dI_app (by rw [hrw, sums_len])]
    unfold sumsL
    rw [foldY_dI hrw ys _ (foldC_len _ d cs _ (zeros_len d)) B.zp.wy, foldC_dI hrw cs _ (zeros_len d) fun c hc => (B.zp.wc c hc).1, dI_comm, dI_zeros, ← sum_eq cs hm, Int.zero_sub, Int.neg_mul]
    omega
  obtain ⟨s1, s2⟩ := sum_nn (f := fun c : Row => (botL cs).fdiv c.2 * (dI r.1 c.1 - r.2 * c.2)) cs fun c hc => Int.mul_nonneg (Int.le_of_lt (hmp c hc)) (o1' c hc)
  obtain ⟨s3, s4⟩ := sum_nn (f := fun y : List Int => dI r.1 y * (botL cs * cs.length)) ys fun y hy => Int.mul_nonneg (o2' y hy) (Int.le_of_lt (Int.mul_pos hbp hn))
  rw [eT]
  refine ⟨Int.add_nonneg s1 s3, fun h v hv => ?_, fun h => ?_⟩
  · obtain ⟨t1, t2⟩ := add0 s1 s3 h
    rcases List.mem_append.mp hv with q | q
    · obtain ⟨c, hc, rfl⟩ := List.mem_map.mp q
      rw [hfl c hc]
      have := s2 t1 c hc
      rcases Int.mul_eq_zero.mp this with z | z
      · have := hmp c hc; omega
      · exact z
    · obtain ⟨y, hy, rfl⟩ := List.mem_map.mp q
      rw [hfy y hy]
      have := s4 t2 y hy
      rcases Int.mul_eq_zero.mp this with z | z
      · exact z
      · have := Int.mul_pos hbp hn; omega
  · have e1 : (cs.map fun c => (botL cs).fdiv c.2 * (dI r.1 c.1 - r.2 * c.2)) = cs.map fun _ => 0 := List.map_congr_left fun c hc => by
      have := h (flatP c) (List.mem_append.mpr (.inl (List.mem_map.mpr ⟨c, hc, rfl⟩)))
      rw [hfl c hc] at this
      rw [this, Int.mul_zero]
    have e2 : (ys.map fun y => dI r.1 y * (botL cs * cs.length)) = ys.map fun _ => 0 := List.map_congr_left fun y hy => by
      have := h (flatY y) (List.mem_append.mpr (.inr (List.mem_map.mpr ⟨y, hy, rfl⟩)))
      rw [hfy y hy] at this
      rw [this, Int.zero_mul]
    have z1 : ∀ {α : Type} (l : List α), (l.map fun _ => (0 : Int)).sum = 0 := fun l => by
      induction l with
      | nil => rfl
      | cons x l ih => rw [List.map_cons, List.sum_cons, ih]; rfl
    rw [e1, e2, z1, z1]; rfl
theorem dI_gmul {g : Int} : ∀ (a u : List Int), dI a (u.map fun x => g * x) = g * dI a u
  | [], u => by cases u <;> simp [dI]
  | _ :: _, [] => by simp [dI]
  | x :: a, y :: u => by
    have := dI_gmul (g := g) a u
    simp only [dI, List.map_cons, List.zip_cons_cons, List.sum_cons] at this ⊢
    rw [this]; grind
theorem bd_updC {bot : Int} {d i X b B : Nat} {a : List Int} {c : Row} (hc : Br b c) (hb : ∀ m, m = bot.fdiv c.2 → m.natAbs < 2 ^ B) (hX : b + B ≤ i) (ha : Bd i a) : Bd (i + 1) (updC bot d a c) := fun z hz => by
  obtain ⟨k, _, rfl⟩ := List.mem_map.mp hz
  refine add_lt ?_ ?_
  · by_cases h : k < a.length
    · rw [gD_lt _ h]; exact ha _ (List.getElem_mem _)
    · rw [gD_ge _ (Nat.le_of_not_lt h)]; exact Nat.pow_pos (by decide)
  · have h1 : (c.1.getD k 0).natAbs < 2 ^ b := by
      by_cases h : k < c.1.length
      · rw [gD_lt _ h]; exact hc.1 _ (List.getElem_mem _)
      · rw [gD_ge _ (Nat.le_of_not_lt h)]; exact Nat.pow_pos (by decide)
    exact Nat.lt_of_lt_of_le (mul_lt h1 (hb _ rfl)) (pow_le hX)
theorem bd_foldC {bot : Int} {d b B : Nat} : ∀ (cs : List Row) (a : List Int) (i : Nat), (∀ c ∈ cs, Br b c ∧ (bot.fdiv c.2).natAbs < 2 ^ B) → b + B ≤ i → Bd i a → Bd (i + cs.length) (cs.foldl (updC bot d) a)
  | [], a, i, _, _, h => h
  | c :: cs, a, i, hc, hi, h => by
    have h1 := bd_updC (d := d) (X := 0) (hc c List.mem_cons_self).1 (fun m e => by rw [e]; exact (hc c List.mem_cons_self).2) hi h
    have := bd_foldC (d := d) (bot := bot) cs _ (i + 1) (fun x hx => hc x (List.mem_cons_of_mem _ hx)) (by omega) h1
    rw [List.length_cons, show i + (cs.length + 1) = i + 1 + cs.length by omega]
    exact this
theorem bd_foldY {bot many : Int} {d b B C : Nat} (hB : bot.natAbs < 2 ^ B) (hC : many.natAbs < 2 ^ C) : ∀ (ys : List (List Int)) (a : List Int) (i : Nat), (∀ y ∈ ys, Bd b y) → b + B + C ≤ i → Bd i a → Bd (i + ys.length) (ys.foldl (updY bot many d) a)
  | [], a, i, _, _, h => h
  | y :: ys, a, i, hc, hi, h => by
    have h1 : Bd (i + 1) (updY bot many d a y) := fun z hz => by
      obtain ⟨k, _, rfl⟩ := List.mem_map.mp hz
      refine add_lt ?_ ?_
      · by_cases h' : k < a.length
        · rw [gD_lt _ h']; exact h _ (List.getElem_mem _)
        · rw [gD_ge _ (Nat.le_of_not_lt h')]; exact Nat.pow_pos (by decide)
      · have h2 : (y.getD k 0).natAbs < 2 ^ b := by
          by_cases h' : k < y.length
          · rw [gD_lt _ h']; exact hc y List.mem_cons_self _ (List.getElem_mem _)
          · rw [gD_ge _ (Nat.le_of_not_lt h')]; exact Nat.pow_pos (by decide)
        exact Nat.lt_of_lt_of_le (mul_lt (mul_lt h2 hB) hC) (pow_le hi)
    have := bd_foldY (d := d) hB hC ys _ (i + 1) (fun x hx => hc x (List.mem_cons_of_mem _ hx)) (by omega) h1
    rw [List.length_cons, show i + (ys.length + 1) = i + 1 + ys.length by omega]
    exact this
theorem inn_bd {d L1 L2 : Nat} {rs cs : List Row} {ys : List (List Int)} (B : Bdy d 736 L1 L2 rs cs ys) (hL : L2 ≤ 100) : Bd 200000 (innV d cs ys) := by
  have hl := B.zp.l
  have hbot : (botL cs).natAbs < 2 ^ (1 + 736 * cs.length) := bot_fold cs 1 1 (fun c hc => (B.zp.bc c hc).2) (by decide)
  have hm : (cs.length : Int).natAbs < 2 ^ 7 := by
    show cs.length < 128
    omega
  have h1 : Bd (736 + (1 + 736 * cs.length) + 7) (zeros d) := fun z hz => by
    obtain ⟨_, _, rfl⟩ := List.mem_map.mp hz
    exact Nat.pow_pos (by decide)
  have h2 := bd_foldC (bot := botL cs) (d := d) (b := 736) (B := 1 + 736 * cs.length) cs _ _ (fun c hc => ⟨B.zp.bc c hc, by
    refine Nat.lt_of_le_of_lt ?_ hbot
    rw [Int.fdiv_eq_ediv_of_nonneg _ (by have := (B.zp.wc c hc).2; omega)]
    exact Int.natAbs_ediv_le_natAbs _ _⟩) (by omega) h1
  have h3 := bd_foldY (d := d) (b := 736) hbot hm ys _ _ B.zp.by_ (by omega) h2
  have h4 : Bd 200000 (sumsL d cs ys) := fun z hz => Nat.lt_of_lt_of_le (h3 z hz) (pow_le (by omega))
  exact CM.bd_snoc h4 (Nat.lt_of_lt_of_le (mul_lt hbot hm) (pow_le (by omega)))
theorem k28_law : Law flaw := by
  intro ns hlen hbits
  obtain ⟨t0, e0, k0⟩ := begun_ok ns fun z hz => fits_bits (hbits z hz)
  obtain ⟨d, t1, e1, k1, hd1, hd⟩ := ldim_ok k0
  obtain ⟨rs, cs, ys, t2, e2, k2, B, _⟩ := lbody_ok k1 hd1 hd
  have hfr : fldK "rows" (bodD d rs cs ys) = some (.lst (encs rs)) := rfl
  have hfc : fldK "corners" (bodD d rs cs ys) = some (.lst (encs cs)) := rfl
  by_cases h0 : cs = []
  · subst h0
    have hin : finner [bodD d rs [] ys] (some t2) = some (.non, some t2) := by
      have hem : fBody_is_empty [.obj [.int d, .lst (encs rs), .lst (encs []), .lst (vecs ys)]] (some t2) = some (.bl true, some t2) := by
        have hlenb : bltD "len" [.lst (encs [])] = some (.int 0) := rfl
        refine dfn_rt rfl ?_
        simp [-x_blt, x_blt, hlenb]
      have hob : ∀ k : List D → Option (D × S), objK (bodD d rs [] ys) k = k [.int d, .lst (encs rs), .lst (encs []), .lst (vecs ys)] := fun _ => rfl
      refine dfn_rt rfl ?_
      simp [hob, hem]
    have hnn : cmpD .Is .non .non = some true := rfl
    have hc0 := eq_encs_nil []
    refine ⟨some t2, dfn_rt rfl ?_⟩
    simp [mlaw, e0, e1, e2, hin, hfc, hc0, hnn]
  · have hK := inn_bd B (by omega)
    have hin := inner_ok (some t2) B hd1 hd (by omega) (by omega) (by omega) h0 hK (by omega)
    have hvl : (innV d cs ys).length = d + 1 := by unfold innV; rw [List.length_append, sums_len]; rfl
    have hll : (lowL (innV d cs ys)).length = d + 1 := by rw [lowL_len, hvl]
    obtain ⟨g, g0, ge⟩ := lowL_mul (innV d cs ys)
    have hbp : 0 < botL cs := bot_pos cs 1 (by decide) fun c hc => (B.zp.wc c hc).2
    have hn : 0 < (cs.length : Int) := by have := List.length_pos_iff.mpr h0; omega
    have hlast : (innV d cs ys).getD d 0 = botL cs * cs.length := CM.snoc_last (sums_len d cs ys)
    have hprim : gcdL (lowL (innV d cs ys)) = 1 := CM.prim_low ⟨botL cs * cs.length, List.mem_append.mpr (.inr (List.mem_singleton.mpr rfl)), by have := Int.mul_pos hbp hn; omega⟩
    have hrow : ∀ r : Row, dI (flatR r) (innV d cs ys) = g * dI (flatR r) (lowL (innV d cs ys)) := fun r => by
      conv => lhs; rw [ge]
      exact dI_gmul _ _
    have hpos : 0 < (lowL (innV d cs ys)).getD d 0 := by
      have e : (innV d cs ys).getD d 0 = g * (lowL (innV d cs ys)).getD d 0 := by
        conv => lhs; rw [ge]
        rw [gD_lt _ (by rw [List.length_map, hll]; omega), gD_lt _ (by rw [hll]; omega), List.getElem_map]
      rw [hlast] at e
      have h1 := Int.mul_pos hbp hn
      apply Classical.byContradiction
      intro hneg
      have : g * (lowL (innV d cs ys)).getD d 0 ≤ 0 := Int.mul_nonpos_of_nonneg_of_nonpos (by omega) (by omega)
      omega
    have hbl : Bd 200000 (lowL (innV d cs ys)) := fun z hz => by
      obtain ⟨i, hi, rfl⟩ := List.mem_iff_getElem.mp hz
      have e : (innV d cs ys).getD i 0 = g * (lowL (innV d cs ys))[i] := by
        conv => lhs; rw [ge]
        rw [gD_lt _ (by rw [List.length_map]; exact hi), List.getElem_map]
      have h1 : ((innV d cs ys).getD i 0).natAbs < 2 ^ 200000 := hK _ (by rw [gD_lt _ (by rw [hvl, ← hll]; exact hi)]; exact List.getElem_mem _)
      rw [e, Int.natAbs_mul] at h1
      exact Nat.lt_of_le_of_lt (Nat.le_mul_of_pos_left _ (by omega)) h1
    obtain ⟨p, hp⟩ : ∃ p, splitP d (lowL (innV d cs ys)) = p := ⟨_, rfl⟩
    have hfp : flatP p = lowL (innV d cs ys) := by rw [← hp]; exact CM.flatP_split hll
    have hpw : p.1.length = d := by rw [← hp]; show (List.take d _).length = d; rw [List.length_take]; omega
    have hp1 : 1 ≤ p.2 := by rw [← hp]; show 1 ≤ (lowL (innV d cs ys)).getD d 0; omega
    rw [hp] at hin
    have hpb : Br 200000 p := by rw [← hp]; exact CM.br_split hbl hll
    have hip := ispoint_ok (some t2) hpw hd hp1 (by rw [hfp]; exact hprim) (by rw [hfp]; exact hbl) (by omega)
    have hval : ∀ r ∈ rs, dI (flatR r) (flatP p) = dI r.1 p.1 - r.2 * p.2 := fun r hr => by
      unfold flatR flatP
      rw [dI_app (by rw [B.zr.w r hr, hpw]), Int.zero_sub, Int.neg_mul]; omega
    have hsign : ∀ r ∈ rs, 0 ≤ dI r.1 p.1 - r.2 * p.2 ∧ (dI r.1 p.1 - r.2 * p.2 = 0 ↔ oppR r ∈ rs) := fun r hr => by
      obtain ⟨q1, q2⟩ := inn_row B h0 hr
      rw [hrow r, ← hfp, hval r hr] at q1 q2
      have hz : g * (dI r.1 p.1 - r.2 * p.2) = 0 ↔ dI r.1 p.1 - r.2 * p.2 = 0 := by
        constructor
        · intro h
          rcases Int.mul_eq_zero.mp h with z | z
          · omega
          · exact z
        · intro h; rw [h, Int.mul_zero]
      refine ⟨?_, ?_⟩
      · apply Classical.byContradiction
        intro hneg
        have : g * (dI r.1 p.1 - r.2 * p.2) < 0 := Int.mul_neg_of_pos_of_neg g0 (by omega)
        omega
      · rw [← hz, q2]
        constructor
        · intro h; exact B.op h0 r hr h
        · intro ho v hv
          have hfw : (flatR r).length = d + 1 := by show (r.1 ++ _).length = _; rw [List.length_append, B.zr.w r hr]; rfl
          have hvw := CM.wflats B.zp.wc B.zp.wy v hv
          have key : ∀ r' ∈ rs, 0 ≤ dI (flatR r') v := fun r' hr' => by
            have hfw' : (flatR r').length = d + 1 := by show (r'.1 ++ _).length = _; rw [List.length_append, B.zr.w r' hr']; rfl
            have h1 := (B.tl h0 (vz v)).mpr (.mem (List.mem_map.mpr ⟨v, hv, rfl⟩))
            have h2 := h1.2 _ (List.mem_map.mpr ⟨flatR r', List.mem_cons_of_mem _ (List.mem_map.mpr ⟨r', hr', rfl⟩), rfl⟩)
            exact (CM.dtnn_iff hfw' hvw).mp h2
          have h1 := key r hr
          have h2 := key _ ho
          have e : flatR (oppR r) = opp (flatR r) := by
            unfold flatR oppR opp
            rw [List.map_append]; rfl
          rw [e, dI_comm, CM.dI_opp hvw hfw, dI_comm] at h2
          omega
    -- the loop over the rows
    obtain ⟨r', f1, x5, x6, x7, rfl⟩ := forE_all (bd := mBd 5) (body := sq [sSet 6 [] (mBin .Sub (mCall f_law_dot [(mIx (mB 5) (mK (.int 0))), (mIx (mB 4) (mK (.int 0)))]) (mBin .Mult (mIx (mB 5) (mK (.int 1))) (mIx (mB 4) (mK (.int 1))))),
      sSet 7 [3] (mCmp .In (mTup [(mBlt "tuple" [(mComp (mIts (mIx (mB 5) (mK (.int 0)))) (mBd 8) mTrue (mBin .Sub (mK (.int 0)) (mB 8)) [8])]), (mBin .Sub (mK (.int 0)) (mIx (mB 5) (mK (.int 1))))]) (mAt "rows" (mV 3))),
      sIf [7, 7] (tOr [(tAnd [(tE (mV 7)), (tE (mCmp .NotEq (mB 6) (mK (.int 0))))]), (tAnd [(tNot (tE (mV 7))), (tE (mCmp .LtE (mB 6) (mK (.int 0))))])])
        [sRet (mK (.bl false))]
        []]) (s := some t2) (fun r => ∃ x5 x6 x7, r = [.v (.scr ns), .v .hnd, .v (.int d), .v (bodD d rs cs ys), .v (encP p), x5, x6, x7, .un]) (encs rs) [.v (.scr ns), .v .hnd, .v (.int d), .v (bodD d rs cs ys), .v (encP p), .un, .un, .un, .un] ⟨_, _, _, rfl⟩ (by
      rintro x hx _ ⟨x5, x6, x7, rfl⟩
      obtain ⟨r, hr, rfl⟩ := List.mem_map.mp hx
      have hrw := B.zr.w r hr
      have hrb := B.zr.b r hr
      have hdot := ldot_ok (some t2) hrb.1 hpb.1 (by omega) (by omega) (by omega) (by rw [hrw, hpw])
      have hmul : opD .Mult (.int r.2) (.int p.2) = some (.int (r.2 * p.2)) := o_mul (fits_k hrb.2 (by omega)) (fits_k hpb.2 (by omega))
      have hcc : ∀ x6 x7, compE (mBd 8) mTrue (mBin .Sub (mK (.int 0)) (mB 8)) [.v (.scr ns), .v .hnd, .v (.int d), .v (bodD d rs cs ys), .v (encP p), .v (encP r), x6, x7, .un] (zs r.1) (some t2) = some (zs (opp r.1), some t2) := by
        intro x6 x7
        have := compE_map (bd := mBd 8) (t := mTrue) (e := mBin .Sub (mK (.int 0)) (mB 8)) (r := [.v (.scr ns), .v .hnd, .v (.int d), .v (bodD d rs cs ys), .v (encP p), .v (encP r), x6, x7, .un]) (s := some t2) D.int (fun x => D.int (0 - x)) r.1 fun x _ => ⟨_, rfl, rfl, by simp⟩
        refine (show compE _ _ _ _ (r.1.map D.int) _ = _ from this).trans ?_
        simp [zs, opp]
      have hrl : (zs r.1).length < line := by rw [zs_len, hrw, line_val]; omega
      have g2 : 2 ≤ line := by rw [line_val]; omega
      have htu : bltD "tuple" [.lst (zs (opp r.1))] = some (vec (opp r.1)) := rfl
      have hin2 : cmpD .In (.tup [vec (opp r.1), .int (0 - r.2)]) (.lst (encs rs)) = some (decide (oppR r ∈ rs)) := in_encs (oppR r) rs
      obtain ⟨q1, q2⟩ := hsign r hr
      refine ⟨_, [.v (.scr ns), .v .hnd, .v (.int d), .v (bodD d rs cs ys), .v (encP p), .v (encP r), .v (.int (dI r.1 p.1 - r.2 * p.2)), .v (.bl (decide (oppR r ∈ rs))), .un], rfl, ?_, _, _, _, rfl⟩
      simp only [encP] at hcc
      by_cases ho : oppR r ∈ rs
      · have hz := q2.mpr ho
        simp [-Int.zero_sub, -x_blt, encP, at0e, at1e, hdot, hmul, hrl, hcc, x_blt, htu, g2, hfr, hin2, ho, hz]
      · have hz : ¬ (dI r.1 p.1 - r.2 * p.2 = 0) := fun e => ho (q2.mp e)
        have hz2 : ¬ (dI r.1 p.1 - r.2 * p.2 ≤ 0) := by omega
        simp [-Int.zero_sub, -x_blt, encP, at0e, at1e, hdot, hmul, hrl, hcc, x_blt, htu, g2, hfr, hin2, ho, hz2])
    have hc0 := eq_encs_nil cs
    refine ⟨some t2, dfn_rt rfl ?_⟩
    simp only [mlaw, q_cons, z_set, z_if, z_for, z_ret, List.map_cons, List.map_nil, List.length_cons, List.length_nil]
    simp [e0, e1, e2, hin, hfc, hc0, h0, hip, hfr]
    rw [f1]
    simp
end CH

set_option maxRecDepth 1000000
set_option maxHeartbeats 8000000
namespace CH
open PySem PySem.Spec PyProof.Rows L2
def topS (i : Nat) : Stmt := PySem.Challenge.pw_cornerhouse_k28_inner_points.main.body.getD i (.Pass ⟨0, 0, 0, 0⟩)
abbrev sI : Stmt := inClass (topS 22) 0
theorem scI : FnScope ["self", "dim", "rows", "corners", "rays"] ["self", "dim", "rows", "corners", "rays"] (defScope sI) := ⟨rfl, rfl, rfl, by decide +kernel, rfl, by decide +kernel, by decide +kernel⟩
abbrev s_law_begun : Stmt := topS 37
theorem sc_law_begun : FnScope ["_law_script", "_law_seed", "_law_cell"] ["_law_script"] (defScope s_law_begun) := ⟨rfl, rfl, rfl, by decide +kernel, rfl, by decide +kernel, by decide +kernel⟩
def c_law_begun : C := { N := ["_law_script", "_law_seed", "_law_cell"], sc := defScope s_law_begun, fn := fun _ => true, fns := [], F := fun _ _ _ => none, bn := ["int", "len"], M := [] }
theorem e_law_begun : evDef c_law_begun 1 (defBody s_law_begun) = f_law_begun := a_def (t_cons (a_set (by decide +kernel) (by decide +kernel) (by decide +kernel) t_int) (t_cons (a_for (by decide +kernel) (s_its (by decide +kernel) (t_v (by decide +kernel))) (d_nm (by decide +kernel)) (t_cons (a_set (by decide +kernel) (by decide +kernel) (by decide +kernel) (t_bin (t_bo rfl (t_bin (t_bo rfl (t_bin (t_bo rfl (t_bin (t_b (by decide +kernel)) (t_bo rfl t_int))) (t_bo rfl (t_bin (t_b (by decide +kernel)) (t_bo rfl t_int))))) (t_bo rfl t_int))) (t_bo rfl t_int))) t_nil)) (t_cons (a_ret (t_dict (by decide +kernel) (t_v (by decide +kernel)) t_int t_int (t_bin (t_b (by decide +kernel)) (t_bo rfl (t_blt (by decide +kernel) (by decide +kernel) rfl rfl (t_cons (t_bo rfl (t_cmp (t_bo rfl (t_blt (by decide +kernel) (by decide +kernel) rfl rfl (t_cons (t_b (by decide +kernel)) t_nil))) (t_bo rfl t_int))) t_nil)))))) t_nil))) rfl
abbrev s_law_taken : Stmt := topS 38
theorem sc_law_taken : FnScope ["_law_s", "_law_most_here", "_law_found", "_law_number_here"] ["_law_s", "_law_most_here"] (defScope s_law_taken) := ⟨rfl, rfl, rfl, by decide +kernel, rfl, by decide +kernel, by decide +kernel⟩
def c_law_taken : C := { N := ["_law_s", "_law_most_here", "_law_found", "_law_number_here"], sc := defScope s_law_taken, fn := fun _ => true, fns := [], F := fun _ _ _ => none, bn := ["len", "int"], M := [] }
theorem e_law_taken : evDef c_law_taken 2 (defBody s_law_taken) = f_law_taken := a_def (t_cons (a_if (by decide +kernel) (e_e rfl (t_cmp (t_bo rfl (t_key (t_v (by decide +kernel)))) (t_bo rfl t_int))) (t_cons (a_set (by decide +kernel) (by decide +kernel) (by decide +kernel) (t_bin (t_bo rfl (t_key (t_v (by decide +kernel)))) (t_b (by decide +kernel)))) (t_cons (a_dk (by decide +kernel) (by decide +kernel) (t_bin (t_bo rfl (t_key (t_v (by decide +kernel)))) (t_b (by decide +kernel))) t_str) (t_cons (a_ret (t_v (by decide +kernel))) t_nil))) t_nil) (t_cons (a_dk (by decide +kernel) (by decide +kernel) (t_bin (t_bo rfl (t_key (t_v (by decide +kernel)))) (t_bo rfl t_int)) t_str) (t_cons (a_if (by decide +kernel) (e_e rfl (t_cmp (t_bo rfl (t_key (t_v (by decide +kernel)))) (t_bo rfl (t_blt (by decide +kernel) (by decide +kernel) rfl rfl (t_cons (t_bo rfl (t_key (t_v (by decide +kernel)))) t_nil))))) (t_cons (a_set (by decide +kernel) (by decide +kernel) (by decide +kernel) (t_ix rfl (t_bo rfl (t_key (t_v (by decide +kernel)))) (t_bin (t_bo rfl (t_key (t_v (by decide +kernel)))) (t_bo rfl t_int)))) (t_cons (a_dk (by decide +kernel) (by decide +kernel) (t_bin (t_bo rfl (t_bin (t_b (by decide +kernel)) (t_b (by decide +kernel)))) (t_bo rfl (t_blt (by decide +kernel) (by decide +kernel) rfl rfl (t_cons (t_bo rfl (t_cmp (t_b (by decide +kernel)) (t_bo rfl (t_bin (t_bo rfl t_int) (t_bo rfl t_int))))) t_nil)))) t_str) (t_cons (a_ret (t_bin (t_b (by decide +kernel)) (t_b (by decide +kernel)))) t_nil))) t_nil) (t_cons (a_dk (by decide +kernel) (by decide +kernel) (t_bin (t_bo rfl (t_bin (t_bo rfl (t_key (t_v (by decide +kernel)))) (t_bo rfl t_int))) (t_bo rfl t_int)) t_str) (t_cons (a_ret (t_ife (e_e rfl (t_cmp (t_b (by decide +kernel)) (t_bo rfl (t_bin (t_bo rfl t_int) (t_bo rfl t_int))))) (t_bin (t_bo rfl (t_bin (t_bo rfl (t_bin (t_bo rfl (t_key (t_v (by decide +kernel)))) (t_bo rfl t_int))) (t_bo rfl t_int))) (t_b (by decide +kernel))) (t_bin (t_bo rfl (t_bin (t_bo rfl (t_key (t_v (by decide +kernel)))) (t_bo rfl t_int))) (t_b (by decide +kernel))))) t_nil))))) rfl
abbrev s_law_dim : Stmt := topS 46
theorem sc_law_dim : FnScope ["_law_s"] ["_law_s"] (defScope s_law_dim) := ⟨rfl, rfl, rfl, by decide +kernel, rfl, by decide +kernel, by decide +kernel⟩
def c_law_dim : C := { N := ["_law_s"], sc := defScope s_law_dim, fn := fun _ => true, fns := ["_law_taken"], F := fun x => if x = "_law_taken" then f_law_taken else fun _ _ => none, bn := [], M := [] }
theorem e_law_dim : evDef c_law_dim 1 (defBody s_law_dim) = f_law_dim := a_def (t_cons (a_ret (t_ix rfl (t_bo rfl (t_lst (t_cons t_int (t_cons t_int (t_cons t_int (t_cons t_int (t_cons t_int (t_cons t_int (t_cons t_int (t_cons t_int t_nil)))))))))) (t_call (by decide +kernel) (t_cons (t_v (by decide +kernel)) (t_cons t_int t_nil)) rfl))) t_nil) rfl
abbrev sis_whole : Stmt := topS 2
theorem scis_whole : FnScope ["number"] ["number"] (defScope sis_whole) := ⟨rfl, rfl, rfl, by decide +kernel, rfl, by decide +kernel, by decide +kernel⟩
def cis_whole : C := { N := ["number"], sc := defScope sis_whole, fn := fun _ => true, fns := [], F := fun _ _ _ => none, bn := ["isinstance", "int", "bool"], M := [] }
theorem eis_whole : evDef cis_whole 1 (defBody sis_whole) = fis_whole := a_def (t_cons (a_ret (t_and (t_cons (t_inst (by decide +kernel) (by decide +kernel) (by decide +kernel) (by decide +kernel) (t_v (by decide +kernel))) (t_cons (t_not (t_inst (by decide +kernel) (by decide +kernel) (by decide +kernel) (by decide +kernel) (t_v (by decide +kernel)))) t_nil)))) t_nil) rfl
abbrev sneed_dim : Stmt := topS 23
theorem scneed_dim : FnScope ["dim"] ["dim"] (defScope sneed_dim) := ⟨rfl, rfl, rfl, by decide +kernel, rfl, by decide +kernel, by decide +kernel⟩
def cneed_dim : C := { N := ["dim"], sc := defScope sneed_dim, fn := fun _ => true, fns := ["is_whole"], F := fun x => if x = "is_whole" then fis_whole else fun _ _ => none, bn := [], M := [], ks := fun x => if x = "MOST_DIMENSIONS" then some 4 else none }
theorem eneed_dim : evDef cneed_dim 1 (defBody sneed_dim) = fneed_dim := a_def (t_cons (a_if (by decide +kernel) (e_or (t_cons (e_not (e_e rfl (t_call (by decide +kernel) (t_cons (t_v (by decide +kernel)) t_nil) rfl))) (t_cons (e_not (e_e rfl (t_cmp2 rfl t_int (t_v (by decide +kernel)) (t_con (by decide +kernel) (by decide +kernel))))) t_nil))) (t_cons a_no t_nil) t_nil) t_nil) rfl
abbrev sis_row : Stmt := topS 3
theorem scis_row : FnScope ["numbers", "many", "one"] ["numbers", "many"] (defScope sis_row) := ⟨rfl, rfl, rfl, by decide +kernel, rfl, by decide +kernel, by decide +kernel⟩
def cis_row : C := { N := ["numbers", "many", "one"], sc := defScope sis_row, fn := fun _ => true, fns := ["is_whole"], F := fun x => if x = "is_whole" then fis_whole else fun _ _ => none, bn := ["isinstance", "tuple", "all", "len"], M := [] }
theorem eis_row : evDef cis_row 2 (defBody sis_row) = fis_row := a_def (t_cons (a_ret (t_and (t_cons (t_inst (by decide +kernel) (by decide +kernel) (by decide +kernel) (by decide +kernel) (t_v (by decide +kernel))) (t_cons (t_cmp (t_bo rfl (t_blt (by decide +kernel) (by decide +kernel) rfl rfl (t_cons (t_b (by decide +kernel)) t_nil))) (t_b (by decide +kernel))) (t_cons (t_blt (by decide +kernel) (by decide +kernel) rfl rfl (t_cons (t_bo rfl (t_comp (by decide +kernel) (by decide +kernel) (s_its (by decide +kernel) (t_b (by decide +kernel))) (d_nm (by decide +kernel)) i_0 (t_call (by decide +kernel) (t_cons (t_v (by decide +kernel)) t_nil) rfl))) t_nil)) t_nil))))) t_nil) rfl
abbrev sneed_rows : Stmt := topS 24
theorem scneed_rows : FnScope ["dim", "rows", "row"] ["dim", "rows"] (defScope sneed_rows) := ⟨rfl, rfl, rfl, by decide +kernel, rfl, by decide +kernel, by decide +kernel⟩
def cneed_rows : C := { N := ["dim", "rows", "row"], sc := defScope sneed_rows, fn := fun _ => true, fns := ["need_dim", "is_row", "is_whole"], F := fun x => if x = "need_dim" then fneed_dim else if x = "is_row" then fis_row else if x = "is_whole" then fis_whole else fun _ _ => none, bn := ["isinstance", "list", "tuple", "len"], M := [] }
theorem eneed_rows : evDef cneed_rows 2 (defBody sneed_rows) = fneed_rows := a_def (t_cons (a_ex rfl rfl (by decide +kernel) (t_call (by decide +kernel) (t_cons (t_v (by decide +kernel)) t_nil) rfl)) (t_cons (a_if (by decide +kernel) (e_not (e_e rfl (t_inst (by decide +kernel) (by decide +kernel) (by decide +kernel) (by decide +kernel) (t_v (by decide +kernel))))) (t_cons a_no t_nil) t_nil) (t_cons (a_for (by decide +kernel) (s_its (by decide +kernel) (t_v (by decide +kernel))) (d_nm (by decide +kernel)) (t_cons (a_if (by decide +kernel) (e_or (t_cons (e_not (e_e rfl (t_inst (by decide +kernel) (by decide +kernel) (by decide +kernel) (by decide +kernel) (t_v (by decide +kernel))))) (t_cons (e_e rfl (t_cmp (t_bo rfl (t_blt (by decide +kernel) (by decide +kernel) rfl rfl (t_cons (t_b (by decide +kernel)) t_nil))) (t_bo rfl t_int))) (t_cons (e_not (e_e rfl (t_call (by decide +kernel) (t_cons (t_ix rfl (t_b (by decide +kernel)) t_int) (t_cons (t_v (by decide +kernel)) t_nil)) rfl))) (t_cons (e_not (e_e rfl (t_call (by decide +kernel) (t_cons (t_ix rfl (t_b (by decide +kernel)) t_int) t_nil) rfl))) t_nil))))) (t_cons a_no t_nil) t_nil) t_nil)) t_nil))) rfl
abbrev sunit : Stmt := topS 9
theorem scunit : FnScope ["size", "place", "k"] ["size", "place"] (defScope sunit) := ⟨rfl, rfl, rfl, by decide +kernel, rfl, by decide +kernel, by decide +kernel⟩
def cunit : C := { N := ["size", "place", "k"], sc := defScope sunit, fn := fun _ => true, fns := [], F := fun _ _ _ => none, bn := ["tuple", "int", "range"], M := [] }
theorem eunit : evDef cunit 2 (defBody sunit) = funit := a_def (t_cons (a_ret (t_blt (by decide +kernel) (by decide +kernel) rfl rfl (t_cons (t_bo rfl (t_comp (by decide +kernel) (by decide +kernel) (s_rng (by decide +kernel) (t_b (by decide +kernel))) (d_nm (by decide +kernel)) i_0 (t_blt (by decide +kernel) (by decide +kernel) rfl rfl (t_cons (t_bo rfl (t_cmp (t_b (by decide +kernel)) (t_b (by decide +kernel)))) t_nil)))) t_nil))) t_nil) rfl
abbrev sdot : Stmt := topS 6
theorem scdot : FnScope ["one", "other", "left", "right"] ["one", "other"] (defScope sdot) := ⟨rfl, rfl, rfl, by decide +kernel, rfl, by decide +kernel, by decide +kernel⟩
def cdot : C := { N := ["one", "other", "left", "right"], sc := defScope sdot, fn := fun _ => true, fns := [], F := fun _ _ _ => none, bn := ["sum", "zip"], M := [] }
theorem edot : evDef cdot 2 (defBody sdot) = fdot := a_def (t_cons (a_ret (t_blt (by decide +kernel) (by decide +kernel) rfl rfl (t_cons (t_bo rfl (t_comp (by decide +kernel) (by decide +kernel) (s_zip (by decide +kernel) (t_b (by decide +kernel)) (t_b (by decide +kernel))) (d_tup (by decide +kernel)) i_0 (t_bin (t_b (by decide +kernel)) (t_b (by decide +kernel))))) t_nil))) t_nil) rfl
abbrev sopposite : Stmt := topS 8
theorem scopposite : FnScope ["numbers", "number"] ["numbers"] (defScope sopposite) := ⟨rfl, rfl, rfl, by decide +kernel, rfl, by decide +kernel, by decide +kernel⟩
def copposite : C := { N := ["numbers", "number"], sc := defScope sopposite, fn := fun _ => true, fns := [], F := fun _ _ _ => none, bn := ["tuple"], M := [] }
theorem eopposite : evDef copposite 1 (defBody sopposite) = fopposite := a_def (t_cons (a_ret (t_blt (by decide +kernel) (by decide +kernel) rfl rfl (t_cons (t_bo rfl (t_comp (by decide +kernel) (by decide +kernel) (s_its (by decide +kernel) (t_b (by decide +kernel))) (d_nm (by decide +kernel)) i_0 (t_bin (t_bo rfl t_int) (t_b (by decide +kernel))))) t_nil))) t_nil) rfl
abbrev sdivisor : Stmt := topS 4
theorem scdivisor : FnScope ["one", "other"] ["one", "other"] (defScope sdivisor) := ⟨rfl, rfl, rfl, by decide +kernel, rfl, by decide +kernel, by decide +kernel⟩
def cdivisor : C := { N := ["one", "other"], sc := defScope sdivisor, fn := fun _ => true, fns := [], F := fun _ _ _ => none, bn := ["abs"], M := [] }
theorem edivisor : evDef cdivisor 2 (defBody sdivisor) = fdivisor := a_def (t_cons (a_set (by decide +kernel) (by decide +kernel) (by decide +kernel) (t_blt (by decide +kernel) (by decide +kernel) rfl rfl (t_cons (t_b (by decide +kernel)) t_nil))) (t_cons (a_set (by decide +kernel) (by decide +kernel) (by decide +kernel) (t_blt (by decide +kernel) (by decide +kernel) rfl rfl (t_cons (t_b (by decide +kernel)) t_nil))) (t_cons (a_wh (e_e rfl (t_cmp (t_b (by decide +kernel)) (t_bo rfl t_int))) (t_cons (a_par (by decide +kernel) (by decide +kernel) (by decide +kernel) (by decide +kernel) (by decide +kernel) (by decide +kernel) (t_v (by decide +kernel)) (t_bin (t_b (by decide +kernel)) (t_b (by decide +kernel)))) t_nil)) (t_cons (a_ret (t_v (by decide +kernel))) t_nil)))) rfl
abbrev slowest : Stmt := topS 5
theorem sclowest : FnScope ["numbers", "common", "number"] ["numbers"] (defScope slowest) := ⟨rfl, rfl, rfl, by decide +kernel, rfl, by decide +kernel, by decide +kernel⟩
def clowest : C := { N := ["numbers", "common", "number"], sc := defScope slowest, fn := fun _ => true, fns := ["divisor"], F := fun x => if x = "divisor" then fdivisor else fun _ _ => none, bn := ["tuple"], M := [] }
theorem elowest : evDef clowest 1 (defBody slowest) = flowest := a_def (t_cons (a_set (by decide +kernel) (by decide +kernel) (by decide +kernel) t_int) (t_cons (a_for (by decide +kernel) (s_its (by decide +kernel) (t_v (by decide +kernel))) (d_nm (by decide +kernel)) (t_cons (a_set (by decide +kernel) (by decide +kernel) (by decide +kernel) (t_call (by decide +kernel) (t_cons (t_v (by decide +kernel)) (t_cons (t_v (by decide +kernel)) t_nil)) rfl)) t_nil)) (t_cons (a_if (by decide +kernel) (e_e rfl (t_cmp (t_b (by decide +kernel)) (t_bo rfl t_int))) (t_cons (a_ret (t_blt (by decide +kernel) (by decide +kernel) rfl rfl (t_cons (t_b (by decide +kernel)) t_nil))) t_nil) t_nil) (t_cons (a_ret (t_blt (by decide +kernel) (by decide +kernel) rfl rfl (t_cons (t_bo rfl (t_comp (by decide +kernel) (by decide +kernel) (s_its (by decide +kernel) (t_b (by decide +kernel))) (d_nm (by decide +kernel)) i_0 (t_bin (t_b (by decide +kernel)) (t_b (by decide +kernel))))) t_nil))) t_nil)))) rfl
abbrev sblend : Stmt := topS 7
theorem scblend : FnScope ["one", "many", "other", "more", "left", "right"] ["one", "many", "other", "more"] (defScope sblend) := ⟨rfl, rfl, rfl, by decide +kernel, rfl, by decide +kernel, by decide +kernel⟩
def cblend : C := { N := ["one", "many", "other", "more", "left", "right"], sc := defScope sblend, fn := fun _ => true, fns := ["lowest"], F := fun x => if x = "lowest" then flowest else fun _ _ => none, bn := ["zip"], M := [] }
theorem eblend : evDef cblend 4 (defBody sblend) = fblend := a_def (t_cons (a_ret (t_call (by decide +kernel) (t_cons (t_comp (by decide +kernel) (by decide +kernel) (s_zip (by decide +kernel) (t_b (by decide +kernel)) (t_b (by decide +kernel))) (d_tup (by decide +kernel)) i_0 (t_bin (t_bo rfl (t_bin (t_b (by decide +kernel)) (t_b (by decide +kernel)))) (t_bo rfl (t_bin (t_b (by decide +kernel)) (t_b (by decide +kernel)))))) t_nil) rfl)) t_nil) rfl
abbrev sturned_line : Stmt := topS 14
theorem scturned_line : FnScope ["lines", "rays", "row", "first", "many", "flat", "line", "led", "ray"] ["lines", "rays", "row", "first"] (defScope sturned_line) := ⟨rfl, rfl, rfl, by decide +kernel, rfl, by decide +kernel, by decide +kernel⟩
def cturned_line : C := { N := ["lines", "rays", "row", "first", "many", "flat", "line", "led", "ray"], sc := defScope sturned_line, fn := fun _ => true, fns := ["dot", "opposite", "blend"], F := fun x => if x = "dot" then fdot else if x = "opposite" then fopposite else if x = "blend" then fblend else fun _ _ => none, bn := [], M := [5] }
theorem eturned_line : evDef cturned_line 4 (defBody sturned_line) = fturned_line := a_def (t_cons (a_if (by decide +kernel) (e_e rfl (t_cmp (t_bo rfl (t_call (by decide +kernel) (t_cons (t_v (by decide +kernel)) (t_cons (t_v (by decide +kernel)) t_nil)) rfl)) (t_bo rfl t_int))) (t_cons (a_set (by decide +kernel) (by decide +kernel) (by decide +kernel) (t_call (by decide +kernel) (t_cons (t_v (by decide +kernel)) t_nil) rfl)) t_nil) t_nil) (t_cons (a_set (by decide +kernel) (by decide +kernel) (by decide +kernel) (t_call (by decide +kernel) (t_cons (t_v (by decide +kernel)) (t_cons (t_v (by decide +kernel)) t_nil)) rfl)) (t_cons (a_own (by decide +kernel) (by decide +kernel) (by decide +kernel) (t_lst t_nil)) (t_cons (a_for (by decide +kernel) (s_its (by decide +kernel) (t_v (by decide +kernel))) (d_nm (by decide +kernel)) (t_cons (a_if (by decide +kernel) (e_and (t_cons (e_e rfl (t_cmp (t_b (by decide +kernel)) (t_b (by decide +kernel)))) (t_cons (e_e rfl (t_cmp (t_b (by decide +kernel)) (t_bo rfl (t_call (by decide +kernel) (t_cons (t_v (by decide +kernel)) t_nil) rfl)))) t_nil))) (t_cons (a_app (by decide +kernel) (by decide +kernel) (by decide +kernel) (t_call (by decide +kernel) (t_cons (t_v (by decide +kernel)) (t_cons (t_v (by decide +kernel)) (t_cons (t_v (by decide +kernel)) (t_cons (t_bin (t_bo rfl t_int) (t_bo rfl (t_call (by decide +kernel) (t_cons (t_v (by decide +kernel)) (t_cons (t_v (by decide +kernel)) t_nil)) rfl))) t_nil)))) rfl)) t_nil) t_nil) t_nil)) (t_cons (a_set (by decide +kernel) (by decide +kernel) (by decide +kernel) (t_comp (by decide +kernel) (by decide +kernel) (s_its (by decide +kernel) (t_b (by decide +kernel))) (d_nm (by decide +kernel)) i_0 (t_call (by decide +kernel) (t_cons (t_v (by decide +kernel)) (t_cons (t_v (by decide +kernel)) (t_cons (t_v (by decide +kernel)) (t_cons (t_bin (t_bo rfl t_int) (t_bo rfl (t_call (by decide +kernel) (t_cons (t_v (by decide +kernel)) (t_cons (t_v (by decide +kernel)) t_nil)) rfl))) t_nil)))) rfl))) (t_cons (a_ret (t_tup (t_cons (t_v (by decide +kernel)) (t_cons (t_bin (t_b (by decide +kernel)) (t_bo rfl (t_lst (t_cons (t_v (by decide +kernel)) t_nil)))) t_nil)))) t_nil)))))) rfl
abbrev shas_all : Stmt := topS 12
theorem schas_all : FnScope ["some", "others", "one"] ["some", "others"] (defScope shas_all) := ⟨rfl, rfl, rfl, by decide +kernel, rfl, by decide +kernel, by decide +kernel⟩
def chas_all : C := { N := ["some", "others", "one"], sc := defScope shas_all, fn := fun _ => true, fns := [], F := fun _ _ _ => none, bn := [], M := [] }
theorem ehas_all : evDef chas_all 2 (defBody shas_all) = fhas_all := a_def (t_cons (a_for (by decide +kernel) (s_its (by decide +kernel) (t_v (by decide +kernel))) (d_nm (by decide +kernel)) (t_cons (a_if (by decide +kernel) (e_e rfl (t_cmp (t_b (by decide +kernel)) (t_b (by decide +kernel)))) (t_cons (a_ret t_bl) t_nil) t_nil) t_nil)) (t_cons (a_ret t_bl) t_nil)) rfl
abbrev sside_by_side : Stmt := topS 13
theorem scside_by_side : FnScope ["tight", "one", "other", "least", "both", "third", "k"] ["tight", "one", "other", "least"] (defScope sside_by_side) := ⟨rfl, rfl, rfl, by decide +kernel, rfl, by decide +kernel, by decide +kernel⟩
def cside_by_side : C := { N := ["tight", "one", "other", "least", "both", "third", "k"], sc := defScope sside_by_side, fn := fun _ => true, fns := ["has_all"], F := fun x => if x = "has_all" then fhas_all else fun _ _ => none, bn := ["range", "len"], M := [] }
theorem eside_by_side : evDef cside_by_side 4 (defBody sside_by_side) = fside_by_side := a_def (t_cons (a_set (by decide +kernel) (by decide +kernel) (by decide +kernel) (t_comp (by decide +kernel) (by decide +kernel) (s_its (by decide +kernel) (t_bo rfl (t_ix rfl (t_b (by decide +kernel)) (t_v (by decide +kernel))))) (d_nm (by decide +kernel)) (i_1 (e_e rfl (t_cmp (t_b (by decide +kernel)) (t_bo rfl (t_ix rfl (t_b (by decide +kernel)) (t_v (by decide +kernel))))))) (t_v (by decide +kernel)))) (t_cons (a_if (by decide +kernel) (e_e rfl (t_cmp (t_bo rfl (t_blt (by decide +kernel) (by decide +kernel) rfl rfl (t_cons (t_b (by decide +kernel)) t_nil))) (t_b (by decide +kernel)))) (t_cons (a_ret t_bl) t_nil) t_nil) (t_cons (a_for (by decide +kernel) (s_rng (by decide +kernel) (t_blt (by decide +kernel) (by decide +kernel) rfl rfl (t_cons (t_b (by decide +kernel)) t_nil))) (d_nm (by decide +kernel)) (t_cons (a_if (by decide +kernel) (e_and (t_cons (e_e rfl (t_cmp (t_b (by decide +kernel)) (t_b (by decide +kernel)))) (t_cons (e_e rfl (t_cmp (t_b (by decide +kernel)) (t_b (by decide +kernel)))) (t_cons (e_e rfl (t_call (by decide +kernel) (t_cons (t_ix rfl (t_b (by decide +kernel)) (t_v (by decide +kernel))) (t_cons (t_v (by decide +kernel)) t_nil)) rfl)) t_nil)))) (t_cons (a_ret t_bl) t_nil) t_nil) t_nil)) (t_cons (a_ret t_bl) t_nil)))) rfl
abbrev scut_rays : Stmt := topS 15
theorem sccut_rays : FnScope ["rays", "row", "tight", "least", "worth", "made", "one", "other", "ray", "k"] ["rays", "row", "tight", "least"] (defScope scut_rays) := ⟨rfl, rfl, rfl, by decide +kernel, rfl, by decide +kernel, by decide +kernel⟩
def ccut_rays : C := { N := ["rays", "row", "tight", "least", "worth", "made", "one", "other", "ray", "k"], sc := defScope scut_rays, fn := fun _ => true, fns := ["dot", "side_by_side", "blend"], F := fun x => if x = "dot" then fdot else if x = "side_by_side" then fside_by_side else if x = "blend" then fblend else fun _ _ => none, bn := ["range", "len"], M := [5] }
theorem ecut_rays : evDef ccut_rays 4 (defBody scut_rays) = fcut_rays := a_def (t_cons (a_set (by decide +kernel) (by decide +kernel) (by decide +kernel) (t_comp (by decide +kernel) (by decide +kernel) (s_its (by decide +kernel) (t_b (by decide +kernel))) (d_nm (by decide +kernel)) i_0 (t_call (by decide +kernel) (t_cons (t_v (by decide +kernel)) (t_cons (t_v (by decide +kernel)) t_nil)) rfl))) (t_cons (a_own (by decide +kernel) (by decide +kernel) (by decide +kernel) (t_comp (by decide +kernel) (by decide +kernel) (s_rng (by decide +kernel) (t_bo rfl (t_blt (by decide +kernel) (by decide +kernel) rfl rfl (t_cons (t_b (by decide +kernel)) t_nil)))) (d_nm (by decide +kernel)) (i_1 (e_e rfl (t_cmp (t_bo rfl (t_ix rfl (t_b (by decide +kernel)) (t_v (by decide +kernel)))) (t_bo rfl t_int)))) (t_ix rfl (t_b (by decide +kernel)) (t_v (by decide +kernel))))) (t_cons (a_for (by decide +kernel) (s_rng (by decide +kernel) (t_blt (by decide +kernel) (by decide +kernel) rfl rfl (t_cons (t_b (by decide +kernel)) t_nil))) (d_nm (by decide +kernel)) (t_cons (a_for (by decide +kernel) (s_rng (by decide +kernel) (t_blt (by decide +kernel) (by decide +kernel) rfl rfl (t_cons (t_b (by decide +kernel)) t_nil))) (d_nm (by decide +kernel)) (t_cons (a_if (by decide +kernel) (e_and (t_cons (e_e rfl (t_cmp (t_bo rfl (t_ix rfl (t_b (by decide +kernel)) (t_v (by decide +kernel)))) (t_bo rfl t_int))) (t_cons (e_e rfl (t_cmp (t_bo rfl (t_ix rfl (t_b (by decide +kernel)) (t_v (by decide +kernel)))) (t_bo rfl t_int))) (t_cons (e_e rfl (t_call (by decide +kernel) (t_cons (t_v (by decide +kernel)) (t_cons (t_v (by decide +kernel)) (t_cons (t_v (by decide +kernel)) (t_cons (t_v (by decide +kernel)) t_nil)))) rfl)) t_nil)))) (t_cons (a_app (by decide +kernel) (by decide +kernel) (by decide +kernel) (t_call (by decide +kernel) (t_cons (t_ix rfl (t_b (by decide +kernel)) (t_v (by decide +kernel))) (t_cons (t_bin (t_bo rfl t_int) (t_bo rfl (t_ix rfl (t_b (by decide +kernel)) (t_v (by decide +kernel))))) (t_cons (t_ix rfl (t_b (by decide +kernel)) (t_v (by decide +kernel))) (t_cons (t_ix rfl (t_b (by decide +kernel)) (t_v (by decide +kernel))) t_nil)))) rfl)) t_nil) t_nil) t_nil)) t_nil)) (t_cons (a_ret (t_v (by decide +kernel))) t_nil)))) rfl
abbrev stight_of : Stmt := topS 11
theorem sctight_of : FnScope ["rows", "ray", "k"] ["rows", "ray"] (defScope stight_of) := ⟨rfl, rfl, rfl, by decide +kernel, rfl, by decide +kernel, by decide +kernel⟩
def ctight_of : C := { N := ["rows", "ray", "k"], sc := defScope stight_of, fn := fun _ => true, fns := ["dot"], F := fun x => if x = "dot" then fdot else fun _ _ => none, bn := ["range", "len"], M := [] }
theorem etight_of : evDef ctight_of 2 (defBody stight_of) = ftight_of := a_def (t_cons (a_ret (t_comp (by decide +kernel) (by decide +kernel) (s_rng (by decide +kernel) (t_bo rfl (t_blt (by decide +kernel) (by decide +kernel) rfl rfl (t_cons (t_b (by decide +kernel)) t_nil)))) (d_nm (by decide +kernel)) (i_1 (e_e rfl (t_cmp (t_bo rfl (t_call (by decide +kernel) (t_cons (t_ix rfl (t_b (by decide +kernel)) (t_v (by decide +kernel))) (t_cons (t_v (by decide +kernel)) t_nil)) rfl)) (t_bo rfl t_int)))) (t_v (by decide +kernel)))) t_nil) rfl
abbrev scone : Stmt := topS 16
theorem sccone : FnScope ["rows", "size", "lines", "rays", "k", "crossing", "tight", "line", "ray"] ["rows", "size"] (defScope scone) := ⟨rfl, rfl, rfl, by decide +kernel, rfl, by decide +kernel, by decide +kernel⟩
def ccone : C := { N := ["rows", "size", "lines", "rays", "k", "crossing", "tight", "line", "ray"], sc := defScope scone, fn := fun _ => true, fns := ["unit", "turned_line", "cut_rays", "tight_of", "dot"], F := fun x => if x = "unit" then funit else if x = "turned_line" then fturned_line else if x = "cut_rays" then fcut_rays else if x = "tight_of" then ftight_of else if x = "dot" then fdot else fun _ _ => none, bn := ["range", "len"], M := [] }
theorem econe : evDef ccone 2 (defBody scone) = fcone := a_def (t_cons (a_set (by decide +kernel) (by decide +kernel) (by decide +kernel) (t_comp (by decide +kernel) (by decide +kernel) (s_rng (by decide +kernel) (t_b (by decide +kernel))) (d_nm (by decide +kernel)) i_0 (t_call (by decide +kernel) (t_cons (t_v (by decide +kernel)) (t_cons (t_v (by decide +kernel)) t_nil)) rfl))) (t_cons (a_set (by decide +kernel) (by decide +kernel) (by decide +kernel) (t_lst t_nil)) (t_cons (a_for (by decide +kernel) (s_rng (by decide +kernel) (t_blt (by decide +kernel) (by decide +kernel) rfl rfl (t_cons (t_b (by decide +kernel)) t_nil))) (d_nm (by decide +kernel)) (t_cons (a_set (by decide +kernel) (by decide +kernel) (by decide +kernel) (t_comp (by decide +kernel) (by decide +kernel) (s_its (by decide +kernel) (t_b (by decide +kernel))) (d_nm (by decide +kernel)) (i_1 (e_e rfl (t_cmp (t_bo rfl (t_call (by decide +kernel) (t_cons (t_ix rfl (t_b (by decide +kernel)) (t_v (by decide +kernel))) (t_cons (t_v (by decide +kernel)) t_nil)) rfl)) (t_bo rfl t_int)))) (t_v (by decide +kernel)))) (t_cons (a_if (by decide +kernel) (e_e rfl (t_cmp (t_bo rfl (t_blt (by decide +kernel) (by decide +kernel) rfl rfl (t_cons (t_b (by decide +kernel)) t_nil))) (t_bo rfl t_int))) (t_cons (a_tup (by decide +kernel) (by decide +kernel) (by decide +kernel) (t_call (by decide +kernel) (t_cons (t_v (by decide +kernel)) (t_cons (t_v (by decide +kernel)) (t_cons (t_ix rfl (t_b (by decide +kernel)) (t_v (by decide +kernel))) (t_cons (t_ix rfl (t_b (by decide +kernel)) t_int) t_nil)))) rfl)) t_nil) (t_cons (a_set (by decide +kernel) (by decide +kernel) (by decide +kernel) (t_comp (by decide +kernel) (by decide +kernel) (s_its (by decide +kernel) (t_b (by decide +kernel))) (d_nm (by decide +kernel)) i_0 (t_call (by decide +kernel) (t_cons (t_sl (t_b (by decide +kernel)) t_o0 (t_o1 (t_v (by decide +kernel)))) (t_cons (t_v (by decide +kernel)) t_nil)) rfl))) (t_cons (a_set (by decide +kernel) (by decide +kernel) (by decide +kernel) (t_call (by decide +kernel) (t_cons (t_v (by decide +kernel)) (t_cons (t_ix rfl (t_b (by decide +kernel)) (t_v (by decide +kernel))) (t_cons (t_v (by decide +kernel)) (t_cons (t_bin (t_bo rfl (t_bin (t_b (by decide +kernel)) (t_bo rfl (t_blt (by decide +kernel) (by decide +kernel) rfl rfl (t_cons (t_b (by decide +kernel)) t_nil))))) (t_bo rfl t_int)) t_nil)))) rfl)) t_nil))) t_nil))) (t_cons (a_ret (t_tup (t_cons (t_v (by decide +kernel)) (t_cons (t_v (by decide +kernel)) t_nil)))) t_nil)))) rfl
abbrev swith_opposites : Stmt := topS 28
theorem scwith_opposites : FnScope ["lines", "rays", "line"] ["lines", "rays"] (defScope swith_opposites) := ⟨rfl, rfl, rfl, by decide +kernel, rfl, by decide +kernel, by decide +kernel⟩
def cwith_opposites : C := { N := ["lines", "rays", "line"], sc := defScope swith_opposites, fn := fun _ => true, fns := ["opposite"], F := fun x => if x = "opposite" then fopposite else fun _ _ => none, bn := [], M := [] }
theorem ewith_opposites : evDef cwith_opposites 2 (defBody swith_opposites) = fwith_opposites := a_def (t_cons (a_ret (t_bin (t_bo rfl (t_bin (t_b (by decide +kernel)) (t_bo rfl (t_comp (by decide +kernel) (by decide +kernel) (s_its (by decide +kernel) (t_b (by decide +kernel))) (d_nm (by decide +kernel)) i_0 (t_call (by decide +kernel) (t_cons (t_v (by decide +kernel)) t_nil) rfl))))) (t_b (by decide +kernel)))) t_nil) rfl
abbrev scorners_of : Stmt := topS 29
theorem sccorners_of : FnScope ["dim", "rows", "flat", "every", "corners", "lines", "rays", "row", "one"] ["dim", "rows"] (defScope scorners_of) := ⟨rfl, rfl, rfl, by decide +kernel, rfl, by decide +kernel, by decide +kernel⟩
def ccorners_of : C := { N := ["dim", "rows", "flat", "every", "corners", "lines", "rays", "row", "one"], sc := defScope scorners_of, fn := fun _ => true, fns := ["cone", "with_opposites", "unit"], F := fun x => if x = "cone" then fcone else if x = "with_opposites" then fwith_opposites else if x = "unit" then funit else fun _ _ => none, bn := ["len", "sorted"], M := [] }
theorem ecorners_of : evDef ccorners_of 2 (defBody scorners_of) = fcorners_of := a_def (t_cons (a_set (by decide +kernel) (by decide +kernel) (by decide +kernel) (t_comp (by decide +kernel) (by decide +kernel) (s_its (by decide +kernel) (t_b (by decide +kernel))) (d_nm (by decide +kernel)) i_0 (t_bin (t_bo rfl (t_ix rfl (t_b (by decide +kernel)) t_int)) (t_bo rfl (t_tup (t_cons (t_bin (t_bo rfl t_int) (t_bo rfl (t_ix rfl (t_b (by decide +kernel)) t_int))) t_nil)))))) (t_cons (a_tup (by decide +kernel) (by decide +kernel) (by decide +kernel) (t_call (by decide +kernel) (t_cons (t_bin (t_bo rfl (t_lst (t_cons (t_call (by decide +kernel) (t_cons (t_bin (t_b (by decide +kernel)) (t_bo rfl t_int)) (t_cons (t_v (by decide +kernel)) t_nil)) rfl) t_nil))) (t_b (by decide +kernel))) (t_cons (t_bin (t_b (by decide +kernel)) (t_bo rfl t_int)) t_nil)) rfl)) (t_cons (a_set (by decide +kernel) (by decide +kernel) (by decide +kernel) (t_call (by decide +kernel) (t_cons (t_v (by decide +kernel)) (t_cons (t_v (by decide +kernel)) t_nil)) rfl)) (t_cons (a_set (by decide +kernel) (by decide +kernel) (by decide +kernel) (t_comp (by decide +kernel) (by decide +kernel) (s_its (by decide +kernel) (t_b (by decide +kernel))) (d_nm (by decide +kernel)) (i_1 (e_e rfl (t_cmp (t_bo rfl (t_ix rfl (t_b (by decide +kernel)) (t_v (by decide +kernel)))) (t_bo rfl t_int)))) (t_tup (t_cons (t_sl (t_b (by decide +kernel)) t_o0 (t_o1 (t_v (by decide +kernel)))) (t_cons (t_ix rfl (t_b (by decide +kernel)) (t_v (by decide +kernel))) t_nil))))) (t_cons (a_if (by decide +kernel) (e_e rfl (t_cmp (t_bo rfl (t_blt (by decide +kernel) (by decide +kernel) rfl rfl (t_cons (t_b (by decide +kernel)) t_nil))) (t_bo rfl t_int))) (t_cons (a_ret (t_tup (t_cons (t_lst t_nil) (t_cons (t_lst t_nil) t_nil)))) t_nil) t_nil) (t_cons (a_ret (t_tup (t_cons (t_blt (by decide +kernel) (by decide +kernel) rfl rfl (t_cons (t_b (by decide +kernel)) t_nil)) (t_cons (t_blt (by decide +kernel) (by decide +kernel) rfl rfl (t_cons (t_bo rfl (t_comp (by decide +kernel) (by decide +kernel) (s_its (by decide +kernel) (t_b (by decide +kernel))) (d_nm (by decide +kernel)) (i_1 (e_e rfl (t_cmp (t_bo rfl (t_ix rfl (t_b (by decide +kernel)) (t_v (by decide +kernel)))) (t_bo rfl t_int)))) (t_sl (t_b (by decide +kernel)) t_o0 (t_o1 (t_v (by decide +kernel)))))) t_nil)) t_nil)))) t_nil)))))) rfl
abbrev srows_of : Stmt := topS 30
theorem scrows_of : FnScope ["dim", "corners", "rays", "flat", "points", "sides", "lines", "found", "one", "corner", "ray", "point", "k"] ["dim", "corners", "rays"] (defScope srows_of) := ⟨rfl, rfl, rfl, by decide +kernel, rfl, by decide +kernel, by decide +kernel⟩
def crows_of : C := { N := ["dim", "corners", "rays", "flat", "points", "sides", "lines", "found", "one", "corner", "ray", "point", "k"], sc := defScope srows_of, fn := fun _ => true, fns := ["cone", "with_opposites", "dot"], F := fun x => if x = "cone" then fcone else if x = "with_opposites" then fwith_opposites else if x = "dot" then fdot else fun _ _ => none, bn := ["sorted", "len", "any", "tuple", "range"], M := [] }
theorem erows_of : evDef crows_of 3 (defBody srows_of) = frows_of := a_def (t_cons (a_if (by decide +kernel) (e_e rfl (t_cmp (t_bo rfl (t_blt (by decide +kernel) (by decide +kernel) rfl rfl (t_cons (t_b (by decide +kernel)) t_nil))) (t_bo rfl t_int))) (t_cons (a_ret (t_lst (t_cons (t_tup (t_cons (t_blt (by decide +kernel) (by decide +kernel) rfl rfl (t_cons (t_bo rfl (t_comp (by decide +kernel) (by decide +kernel) (s_rng (by decide +kernel) (t_b (by decide +kernel))) (d_nm (by decide +kernel)) i_0 t_int)) t_nil)) (t_cons t_int t_nil))) t_nil))) t_nil) t_nil) (t_cons (a_set (by decide +kernel) (by decide +kernel) (by decide +kernel) (t_bin (t_bo rfl (t_comp (by decide +kernel) (by decide +kernel) (s_its (by decide +kernel) (t_b (by decide +kernel))) (d_nm (by decide +kernel)) i_0 (t_bin (t_bo rfl (t_ix rfl (t_b (by decide +kernel)) t_int)) (t_bo rfl (t_tup (t_cons (t_ix rfl (t_b (by decide +kernel)) t_int) t_nil)))))) (t_bo rfl (t_comp (by decide +kernel) (by decide +kernel) (s_its (by decide +kernel) (t_b (by decide +kernel))) (d_nm (by decide +kernel)) i_0 (t_bin (t_b (by decide +kernel)) (t_bo rfl (t_tup (t_cons t_int t_nil)))))))) (t_cons (a_tup (by decide +kernel) (by decide +kernel) (by decide +kernel) (t_call (by decide +kernel) (t_cons (t_v (by decide +kernel)) (t_cons (t_bin (t_b (by decide +kernel)) (t_bo rfl t_int)) t_nil)) rfl)) (t_cons (a_set (by decide +kernel) (by decide +kernel) (by decide +kernel) (t_sl (t_b (by decide +kernel)) t_o0 (t_o1 (t_blt (by decide +kernel) (by decide +kernel) rfl rfl (t_cons (t_b (by decide +kernel)) t_nil))))) (t_cons (a_set (by decide +kernel) (by decide +kernel) (by decide +kernel) (t_comp (by decide +kernel) (by decide +kernel) (s_its (by decide +kernel) (t_b (by decide +kernel))) (d_nm (by decide +kernel)) (i_1 (e_e rfl (t_blt (by decide +kernel) (by decide +kernel) rfl rfl (t_cons (t_bo rfl (t_comp (by decide +kernel) (by decide +kernel) (s_its (by decide +kernel) (t_b (by decide +kernel))) (d_nm (by decide +kernel)) i_0 (t_cmp (t_bo rfl (t_call (by decide +kernel) (t_cons (t_v (by decide +kernel)) (t_cons (t_v (by decide +kernel)) t_nil)) rfl)) (t_bo rfl t_int)))) t_nil)))) (t_v (by decide +kernel)))) (t_cons (a_ret (t_blt (by decide +kernel) (by decide +kernel) rfl rfl (t_cons (t_bo rfl (t_comp (by decide +kernel) (by decide +kernel) (s_its (by decide +kernel) (t_bo rfl (t_call (by decide +kernel) (t_cons (t_v (by decide +kernel)) (t_cons (t_v (by decide +kernel)) t_nil)) rfl))) (d_nm (by decide +kernel)) i_0 (t_tup (t_cons (t_sl (t_b (by decide +kernel)) t_o0 (t_o1 (t_v (by decide +kernel)))) (t_cons (t_bin (t_bo rfl t_int) (t_bo rfl (t_ix rfl (t_b (by decide +kernel)) (t_v (by decide +kernel))))) t_nil))))) t_nil))) t_nil)))))) rfl
abbrev sby_rows : Stmt := topS 31
theorem scby_rows : FnScope ["dim", "rows", "corners", "rays"] ["dim", "rows"] (defScope sby_rows) := ⟨rfl, rfl, rfl, by decide +kernel, rfl, by decide +kernel, by decide +kernel⟩
def cby_rows : C := { N := ["dim", "rows", "corners", "rays"], sc := defScope sby_rows, fn := fun _ => true, fns := ["need_rows", "corners_of", "rows_of"], F := fun x => if x = "need_rows" then fneed_rows else if x = "corners_of" then fcorners_of else if x = "rows_of" then frows_of else fun _ _ => none, bn := [], M := [], cls := ["Body"] }
theorem eby_rows : evDef cby_rows 2 (defBody sby_rows) = fby_rows := a_def (t_cons (a_ex rfl rfl (by decide +kernel) (t_call (by decide +kernel) (t_cons (t_v (by decide +kernel)) (t_cons (t_v (by decide +kernel)) t_nil)) rfl)) (t_cons (a_tup (by decide +kernel) (by decide +kernel) (by decide +kernel) (t_call (by decide +kernel) (t_cons (t_v (by decide +kernel)) (t_cons (t_v (by decide +kernel)) t_nil)) rfl)) (t_cons (a_ret (t_mk (by decide +kernel) rfl (t_cons (t_v (by decide +kernel)) (t_cons (t_call (by decide +kernel) (t_cons (t_v (by decide +kernel)) (t_cons (t_v (by decide +kernel)) (t_cons (t_v (by decide +kernel)) t_nil))) rfl) (t_cons (t_v (by decide +kernel)) (t_cons (t_v (by decide +kernel)) t_nil)))))) t_nil))) rfl
abbrev sis_point : Stmt := topS 25
theorem scis_point : FnScope ["dim", "point"] ["dim", "point"] (defScope sis_point) := ⟨rfl, rfl, rfl, by decide +kernel, rfl, by decide +kernel, by decide +kernel⟩
def cis_point : C := { N := ["dim", "point"], sc := defScope sis_point, fn := fun _ => true, fns := ["is_whole", "is_row"], F := fun x => if x = "is_whole" then fis_whole else if x = "is_row" then fis_row else fun _ _ => none, bn := ["isinstance", "tuple", "len"], M := [] }
theorem eis_point : evDef cis_point 2 (defBody sis_point) = fis_point := a_def (t_cons (a_if (by decide +kernel) (e_or (t_cons (e_not (e_e rfl (t_inst (by decide +kernel) (by decide +kernel) (by decide +kernel) (by decide +kernel) (t_v (by decide +kernel))))) (t_cons (e_e rfl (t_cmp (t_bo rfl (t_blt (by decide +kernel) (by decide +kernel) rfl rfl (t_cons (t_b (by decide +kernel)) t_nil))) (t_bo rfl t_int))) (t_cons (e_not (e_e rfl (t_call (by decide +kernel) (t_cons (t_ix rfl (t_b (by decide +kernel)) t_int) (t_cons (t_v (by decide +kernel)) t_nil)) rfl))) t_nil)))) (t_cons (a_ret t_bl) t_nil) t_nil) (t_cons (a_ret (t_and (t_cons (t_call (by decide +kernel) (t_cons (t_ix rfl (t_b (by decide +kernel)) t_int) t_nil) rfl) (t_cons (t_cmp (t_bo rfl (t_ix rfl (t_b (by decide +kernel)) t_int)) (t_bo rfl t_int)) t_nil)))) t_nil)) rfl
abbrev sneed_point : Stmt := topS 26
theorem scneed_point : FnScope ["dim", "point"] ["dim", "point"] (defScope sneed_point) := ⟨rfl, rfl, rfl, by decide +kernel, rfl, by decide +kernel, by decide +kernel⟩
def cneed_point : C := { N := ["dim", "point"], sc := defScope sneed_point, fn := fun _ => true, fns := ["is_point"], F := fun x => if x = "is_point" then fis_point else fun _ _ => none, bn := [], M := [] }
theorem eneed_point : evDef cneed_point 2 (defBody sneed_point) = fneed_point := a_def (t_cons (a_if (by decide +kernel) (e_not (e_e rfl (t_call (by decide +kernel) (t_cons (t_v (by decide +kernel)) (t_cons (t_v (by decide +kernel)) t_nil)) rfl))) (t_cons a_no t_nil) t_nil) t_nil) rfl
abbrev sneed_corners : Stmt := topS 27
theorem scneed_corners : FnScope ["dim", "corners", "rays", "corner", "ray", "number"] ["dim", "corners", "rays"] (defScope sneed_corners) := ⟨rfl, rfl, rfl, by decide +kernel, rfl, by decide +kernel, by decide +kernel⟩
def cneed_corners : C := { N := ["dim", "corners", "rays", "corner", "ray", "number"], sc := defScope sneed_corners, fn := fun _ => true, fns := ["need_dim", "need_point", "is_row"], F := fun x => if x = "need_dim" then fneed_dim else if x = "need_point" then fneed_point else if x = "is_row" then fis_row else fun _ _ => none, bn := ["isinstance", "list", "any"], M := [] }
theorem eneed_corners : evDef cneed_corners 3 (defBody sneed_corners) = fneed_corners := a_def (t_cons (a_ex rfl rfl (by decide +kernel) (t_call (by decide +kernel) (t_cons (t_v (by decide +kernel)) t_nil) rfl)) (t_cons (a_if (by decide +kernel) (e_or (t_cons (e_not (e_e rfl (t_inst (by decide +kernel) (by decide +kernel) (by decide +kernel) (by decide +kernel) (t_v (by decide +kernel))))) (t_cons (e_not (e_e rfl (t_inst (by decide +kernel) (by decide +kernel) (by decide +kernel) (by decide +kernel) (t_v (by decide +kernel))))) t_nil))) (t_cons a_no t_nil) t_nil) (t_cons (a_for (by decide +kernel) (s_its (by decide +kernel) (t_v (by decide +kernel))) (d_nm (by decide +kernel)) (t_cons (a_ex rfl rfl (by decide +kernel) (t_call (by decide +kernel) (t_cons (t_v (by decide +kernel)) (t_cons (t_v (by decide +kernel)) t_nil)) rfl)) t_nil)) (t_cons (a_for (by decide +kernel) (s_its (by decide +kernel) (t_v (by decide +kernel))) (d_nm (by decide +kernel)) (t_cons (a_if (by decide +kernel) (e_or (t_cons (e_not (e_e rfl (t_call (by decide +kernel) (t_cons (t_v (by decide +kernel)) (t_cons (t_v (by decide +kernel)) t_nil)) rfl))) (t_cons (e_not (e_e rfl (t_blt (by decide +kernel) (by decide +kernel) rfl rfl (t_cons (t_bo rfl (t_comp (by decide +kernel) (by decide +kernel) (s_its (by decide +kernel) (t_b (by decide +kernel))) (d_nm (by decide +kernel)) i_0 (t_cmp (t_b (by decide +kernel)) (t_bo rfl t_int)))) t_nil)))) t_nil))) (t_cons a_no t_nil) t_nil) t_nil)) t_nil)))) rfl
abbrev sby_corners : Stmt := topS 32
theorem scby_corners : FnScope ["dim", "corners", "rays", "rows", "found"] ["dim", "corners", "rays"] (defScope sby_corners) := ⟨rfl, rfl, rfl, by decide +kernel, rfl, by decide +kernel, by decide +kernel⟩
def cby_corners : C := { N := ["dim", "corners", "rays", "rows", "found"], sc := defScope sby_corners, fn := fun _ => true, fns := ["need_corners", "rows_of", "corners_of"], F := fun x => if x = "need_corners" then fneed_corners else if x = "rows_of" then frows_of else if x = "corners_of" then fcorners_of else fun _ _ => none, bn := [], M := [], cls := ["Body"] }
theorem eby_corners : evDef cby_corners 3 (defBody sby_corners) = fby_corners := a_def (t_cons (a_ex rfl rfl (by decide +kernel) (t_call (by decide +kernel) (t_cons (t_v (by decide +kernel)) (t_cons (t_v (by decide +kernel)) (t_cons (t_v (by decide +kernel)) t_nil))) rfl)) (t_cons (a_set (by decide +kernel) (by decide +kernel) (by decide +kernel) (t_call (by decide +kernel) (t_cons (t_v (by decide +kernel)) (t_cons (t_v (by decide +kernel)) (t_cons (t_v (by decide +kernel)) t_nil))) rfl)) (t_cons (a_set (by decide +kernel) (by decide +kernel) (by decide +kernel) (t_call (by decide +kernel) (t_cons (t_v (by decide +kernel)) (t_cons (t_v (by decide +kernel)) t_nil)) rfl)) (t_cons (a_ret (t_mk (by decide +kernel) rfl (t_cons (t_v (by decide +kernel)) (t_cons (t_v (by decide +kernel)) (t_cons (t_ix rfl (t_b (by decide +kernel)) t_int) (t_cons (t_ix rfl (t_b (by decide +kernel)) t_int) t_nil)))))) t_nil)))) rfl
abbrev s_law_number : Stmt := topS 39
theorem sc_law_number : FnScope ["_law_s", "_law_wide", "_law_number_here"] ["_law_s", "_law_wide"] (defScope s_law_number) := ⟨rfl, rfl, rfl, by decide +kernel, rfl, by decide +kernel, by decide +kernel⟩
def c_law_number : C := { N := ["_law_s", "_law_wide", "_law_number_here"], sc := defScope s_law_number, fn := fun _ => true, fns := ["_law_taken"], F := fun x => if x = "_law_taken" then f_law_taken else fun _ _ => none, bn := [], M := [] }
theorem e_law_number : evDef c_law_number 2 (defBody s_law_number) = f_law_number := a_def (t_cons (a_set (by decide +kernel) (by decide +kernel) (by decide +kernel) (t_bin (t_bo rfl (t_call (by decide +kernel) (t_cons (t_v (by decide +kernel)) (t_cons (t_bin (t_bo rfl (t_bin (t_bo rfl t_int) (t_b (by decide +kernel)))) (t_bo rfl t_int)) t_nil)) rfl)) (t_b (by decide +kernel)))) (t_cons (a_if (by decide +kernel) (e_and (t_cons (e_e rfl (t_cmp (t_b (by decide +kernel)) (t_b (by decide +kernel)))) (t_cons (e_e rfl (t_cmp (t_bo rfl (t_call (by decide +kernel) (t_cons (t_v (by decide +kernel)) (t_cons t_int t_nil)) rfl)) (t_bo rfl t_int))) t_nil))) (t_cons (a_ret (t_bin (t_bo rfl (t_bin (t_bo rfl (t_call (by decide +kernel) (t_cons (t_v (by decide +kernel)) (t_cons (t_bin (t_bo rfl (t_bin (t_bo rfl t_int) (t_bo rfl (t_bin (t_bo rfl t_int) (t_bo rfl t_int))))) (t_bo rfl t_int)) t_nil)) rfl)) (t_bo rfl (t_bin (t_bo rfl t_int) (t_bo rfl t_int))))) (t_bo rfl t_int))) t_nil) t_nil) (t_cons (a_ret (t_v (by decide +kernel))) t_nil))) rfl
abbrev s_law_numbers : Stmt := topS 40
theorem sc_law_numbers : FnScope ["_law_s", "_law_many", "_law_wide", "_law_k"] ["_law_s", "_law_many", "_law_wide"] (defScope s_law_numbers) := ⟨rfl, rfl, rfl, by decide +kernel, rfl, by decide +kernel, by decide +kernel⟩
def c_law_numbers : C := { N := ["_law_s", "_law_many", "_law_wide", "_law_k"], sc := defScope s_law_numbers, fn := fun _ => true, fns := ["_law_number"], F := fun x => if x = "_law_number" then f_law_number else fun _ _ => none, bn := ["tuple", "range"], M := [] }
theorem e_law_numbers : evDef c_law_numbers 3 (defBody s_law_numbers) = f_law_numbers := a_def (t_cons (a_ret (t_blt (by decide +kernel) (by decide +kernel) rfl rfl (t_cons (t_bo rfl (t_comp (by decide +kernel) (by decide +kernel) (s_rng (by decide +kernel) (t_b (by decide +kernel))) (d_nm (by decide +kernel)) i_0 (t_call (by decide +kernel) (t_cons (t_v (by decide +kernel)) (t_cons (t_v (by decide +kernel)) t_nil)) rfl))) t_nil))) t_nil) rfl
abbrev s_law_rows : Stmt := topS 43
theorem sc_law_rows : FnScope ["_law_s", "_law_dim_here", "_law_many", "_law_rows_here", "_law_k", "_law_way", "_law_row", "_law_place", "_law_other", "_law_j", "_law_number_here"] ["_law_s", "_law_dim_here", "_law_many"] (defScope s_law_rows) := ⟨rfl, rfl, rfl, by decide +kernel, rfl, by decide +kernel, by decide +kernel⟩
def c_law_rows : C := { N := ["_law_s", "_law_dim_here", "_law_many", "_law_rows_here", "_law_k", "_law_way", "_law_row", "_law_place", "_law_other", "_law_j", "_law_number_here"], sc := defScope s_law_rows, fn := fun _ => true, fns := ["_law_taken", "_law_numbers", "_law_number"], F := fun x => if x = "_law_taken" then f_law_taken else if x = "_law_numbers" then f_law_numbers else if x = "_law_number" then f_law_number else fun _ _ => none, bn := ["range", "tuple", "len", "int"], M := [3] }
theorem e_law_rows : evDef c_law_rows 3 (defBody s_law_rows) = f_law_rows := a_def (t_cons (a_own (by decide +kernel) (by decide +kernel) (by decide +kernel) (t_lst t_nil)) (t_cons (a_for (by decide +kernel) (s_rng (by decide +kernel) (t_call (by decide +kernel) (t_cons (t_v (by decide +kernel)) (t_cons (t_bin (t_b (by decide +kernel)) (t_bo rfl t_int)) t_nil)) rfl)) (d_nm (by decide +kernel)) (t_cons (a_set (by decide +kernel) (by decide +kernel) (by decide +kernel) (t_call (by decide +kernel) (t_cons (t_v (by decide +kernel)) (t_cons t_int t_nil)) rfl)) (t_cons (a_set (by decide +kernel) (by decide +kernel) (by decide +kernel) (t_tup (t_cons (t_call (by decide +kernel) (t_cons (t_v (by decide +kernel)) (t_cons (t_v (by decide +kernel)) (t_cons t_int t_nil))) rfl) (t_cons (t_call (by decide +kernel) (t_cons (t_v (by decide +kernel)) (t_cons t_int t_nil)) rfl) t_nil)))) (t_cons (a_if (by decide +kernel) (e_e rfl (t_cmp (t_b (by decide +kernel)) (t_bo rfl t_int))) (t_cons (a_set (by decide +kernel) (by decide +kernel) (by decide +kernel) (t_call (by decide +kernel) (t_cons (t_v (by decide +kernel)) (t_cons (t_v (by decide +kernel)) t_nil)) rfl)) (t_cons (a_set (by decide +kernel) (by decide +kernel) (by decide +kernel) (t_tup (t_cons (t_blt (by decide +kernel) (by decide +kernel) rfl rfl (t_cons (t_bo rfl (t_comp (by decide +kernel) (by decide +kernel) (s_rng (by decide +kernel) (t_b (by decide +kernel))) (d_nm (by decide +kernel)) i_0 (t_bin (t_bo rfl (t_bin (t_bo rfl t_int) (t_bo rfl (t_bin (t_bo rfl t_int) (t_bo rfl (t_call (by decide +kernel) (t_cons (t_v (by decide +kernel)) (t_cons t_int t_nil)) rfl)))))) (t_bo rfl (t_blt (by decide +kernel) (by decide +kernel) rfl rfl (t_cons (t_bo rfl (t_cmp (t_b (by decide +kernel)) (t_b (by decide +kernel)))) t_nil)))))) t_nil)) (t_cons (t_call (by decide +kernel) (t_cons (t_v (by decide +kernel)) (t_cons t_int t_nil)) rfl) t_nil)))) t_nil)) t_nil) (t_cons (a_if (by decide +kernel) (e_and (t_cons (e_e rfl (t_cmp (t_b (by decide +kernel)) (t_bo rfl t_int))) (t_cons (e_e rfl (t_cmp (t_bo rfl (t_blt (by decide +kernel) (by decide +kernel) rfl rfl (t_cons (t_b (by decide +kernel)) t_nil))) (t_bo rfl t_int))) t_nil))) (t_cons (a_set (by decide +kernel) (by decide +kernel) (by decide +kernel) (t_ix rfl (t_b (by decide +kernel)) (t_call (by decide +kernel) (t_cons (t_v (by decide +kernel)) (t_cons (t_blt (by decide +kernel) (by decide +kernel) rfl rfl (t_cons (t_b (by decide +kernel)) t_nil)) t_nil)) rfl))) (t_cons (a_set (by decide +kernel) (by decide +kernel) (by decide +kernel) (t_tup (t_cons (t_blt (by decide +kernel) (by decide +kernel) rfl rfl (t_cons (t_bo rfl (t_comp (by decide +kernel) (by decide +kernel) (s_its (by decide +kernel) (t_bo rfl (t_ix rfl (t_b (by decide +kernel)) t_int))) (d_nm (by decide +kernel)) i_0 (t_bin (t_bo rfl t_int) (t_b (by decide +kernel))))) t_nil)) (t_cons (t_bin (t_bo rfl (t_bin (t_bo rfl t_int) (t_bo rfl (t_ix rfl (t_b (by decide +kernel)) t_int)))) (t_bo rfl (t_call (by decide +kernel) (t_cons (t_v (by decide +kernel)) (t_cons t_int t_nil)) rfl))) t_nil)))) t_nil)) t_nil) (t_cons (a_app (by decide +kernel) (by decide +kernel) (by decide +kernel) (t_v (by decide +kernel))) t_nil)))))) (t_cons (a_ret (t_v (by decide +kernel))) t_nil))) rfl
abbrev s_law_point : Stmt := topS 42
theorem sc_law_point : FnScope ["_law_s", "_law_dim_here", "_law_wide"] ["_law_s", "_law_dim_here", "_law_wide"] (defScope s_law_point) := ⟨rfl, rfl, rfl, by decide +kernel, rfl, by decide +kernel, by decide +kernel⟩
def c_law_point : C := { N := ["_law_s", "_law_dim_here", "_law_wide"], sc := defScope s_law_point, fn := fun _ => true, fns := ["_law_numbers", "_law_taken"], F := fun x => if x = "_law_numbers" then f_law_numbers else if x = "_law_taken" then f_law_taken else fun _ _ => none, bn := [], M := [] }
theorem e_law_point : evDef c_law_point 3 (defBody s_law_point) = f_law_point := a_def (t_cons (a_ret (t_tup (t_cons (t_call (by decide +kernel) (t_cons (t_v (by decide +kernel)) (t_cons (t_v (by decide +kernel)) (t_cons (t_v (by decide +kernel)) t_nil))) rfl) (t_cons (t_bin (t_bo rfl t_int) (t_bo rfl (t_call (by decide +kernel) (t_cons (t_v (by decide +kernel)) (t_cons t_int t_nil)) rfl))) t_nil)))) t_nil) rfl
abbrev s_law_corners : Stmt := topS 44
theorem sc_law_corners : FnScope ["_law_s", "_law_dim_here", "_law_many", "_law_k"] ["_law_s", "_law_dim_here", "_law_many"] (defScope s_law_corners) := ⟨rfl, rfl, rfl, by decide +kernel, rfl, by decide +kernel, by decide +kernel⟩
def c_law_corners : C := { N := ["_law_s", "_law_dim_here", "_law_many", "_law_k"], sc := defScope s_law_corners, fn := fun _ => true, fns := ["_law_point", "_law_taken"], F := fun x => if x = "_law_point" then f_law_point else if x = "_law_taken" then f_law_taken else fun _ _ => none, bn := ["range"], M := [] }
theorem e_law_corners : evDef c_law_corners 3 (defBody s_law_corners) = f_law_corners := a_def (t_cons (a_ret (t_comp (by decide +kernel) (by decide +kernel) (s_rng (by decide +kernel) (t_bo rfl (t_call (by decide +kernel) (t_cons (t_v (by decide +kernel)) (t_cons (t_bin (t_b (by decide +kernel)) (t_bo rfl t_int)) t_nil)) rfl))) (d_nm (by decide +kernel)) i_0 (t_call (by decide +kernel) (t_cons (t_v (by decide +kernel)) (t_cons (t_v (by decide +kernel)) (t_cons t_int t_nil))) rfl))) t_nil) rfl
abbrev s_law_ray : Stmt := topS 41
theorem sc_law_ray : FnScope ["_law_s", "_law_dim_here", "_law_wide", "_law_ray_here", "_law_place", "_law_number_here", "_law_k"] ["_law_s", "_law_dim_here", "_law_wide"] (defScope s_law_ray) := ⟨rfl, rfl, rfl, by decide +kernel, rfl, by decide +kernel, by decide +kernel⟩
def c_law_ray : C := { N := ["_law_s", "_law_dim_here", "_law_wide", "_law_ray_here", "_law_place", "_law_number_here", "_law_k"], sc := defScope s_law_ray, fn := fun _ => true, fns := ["_law_numbers", "_law_taken"], F := fun x => if x = "_law_numbers" then f_law_numbers else if x = "_law_taken" then f_law_taken else fun _ _ => none, bn := ["tuple", "int", "range"], M := [] }
theorem e_law_ray : evDef c_law_ray 3 (defBody s_law_ray) = f_law_ray := a_def (t_cons (a_set (by decide +kernel) (by decide +kernel) (by decide +kernel) (t_call (by decide +kernel) (t_cons (t_v (by decide +kernel)) (t_cons (t_v (by decide +kernel)) (t_cons (t_v (by decide +kernel)) t_nil))) rfl)) (t_cons (a_if (by decide +kernel) (e_e rfl (t_cmp (t_bo rfl (t_comp (by decide +kernel) (by decide +kernel) (s_its (by decide +kernel) (t_b (by decide +kernel))) (d_nm (by decide +kernel)) (i_1 (e_e rfl (t_cmp (t_b (by decide +kernel)) (t_bo rfl t_int)))) (t_v (by decide +kernel)))) (t_bo rfl (t_lst t_nil)))) (t_cons (a_set (by decide +kernel) (by decide +kernel) (by decide +kernel) (t_call (by decide +kernel) (t_cons (t_v (by decide +kernel)) (t_cons (t_v (by decide +kernel)) t_nil)) rfl)) (t_cons (a_ret (t_blt (by decide +kernel) (by decide +kernel) rfl rfl (t_cons (t_bo rfl (t_comp (by decide +kernel) (by decide +kernel) (s_rng (by decide +kernel) (t_b (by decide +kernel))) (d_nm (by decide +kernel)) i_0 (t_blt (by decide +kernel) (by decide +kernel) rfl rfl (t_cons (t_bo rfl (t_cmp (t_b (by decide +kernel)) (t_b (by decide +kernel)))) t_nil)))) t_nil))) t_nil)) t_nil) (t_cons (a_ret (t_v (by decide +kernel))) t_nil))) rfl
abbrev s_law_rays : Stmt := topS 45
theorem sc_law_rays : FnScope ["_law_s", "_law_dim_here", "_law_many", "_law_rays_here", "_law_k", "_law_ray_here", "_law_number_here"] ["_law_s", "_law_dim_here", "_law_many"] (defScope s_law_rays) := ⟨rfl, rfl, rfl, by decide +kernel, rfl, by decide +kernel, by decide +kernel⟩
def c_law_rays : C := { N := ["_law_s", "_law_dim_here", "_law_many", "_law_rays_here", "_law_k", "_law_ray_here", "_law_number_here"], sc := defScope s_law_rays, fn := fun _ => true, fns := ["_law_taken", "_law_ray"], F := fun x => if x = "_law_taken" then f_law_taken else if x = "_law_ray" then f_law_ray else fun _ _ => none, bn := ["range", "tuple", "len"], M := [3] }
theorem e_law_rays : evDef c_law_rays 3 (defBody s_law_rays) = f_law_rays := a_def (t_cons (a_own (by decide +kernel) (by decide +kernel) (by decide +kernel) (t_lst t_nil)) (t_cons (a_for (by decide +kernel) (s_rng (by decide +kernel) (t_call (by decide +kernel) (t_cons (t_v (by decide +kernel)) (t_cons (t_bin (t_b (by decide +kernel)) (t_bo rfl t_int)) t_nil)) rfl)) (d_nm (by decide +kernel)) (t_cons (a_set (by decide +kernel) (by decide +kernel) (by decide +kernel) (t_call (by decide +kernel) (t_cons (t_v (by decide +kernel)) (t_cons (t_v (by decide +kernel)) (t_cons t_int t_nil))) rfl)) (t_cons (a_if (by decide +kernel) (e_and (t_cons (e_e rfl (t_cmp (t_bo rfl (t_blt (by decide +kernel) (by decide +kernel) rfl rfl (t_cons (t_b (by decide +kernel)) t_nil))) (t_bo rfl t_int))) (t_cons (e_e rfl (t_cmp (t_bo rfl (t_call (by decide +kernel) (t_cons (t_v (by decide +kernel)) (t_cons t_int t_nil)) rfl)) (t_bo rfl t_int))) t_nil))) (t_cons (a_set (by decide +kernel) (by decide +kernel) (by decide +kernel) (t_blt (by decide +kernel) (by decide +kernel) rfl rfl (t_cons (t_bo rfl (t_comp (by decide +kernel) (by decide +kernel) (s_its (by decide +kernel) (t_bo rfl (t_ix rfl (t_b (by decide +kernel)) (t_neg t_int)))) (d_nm (by decide +kernel)) i_0 (t_bin (t_bo rfl t_int) (t_b (by decide +kernel))))) t_nil))) t_nil) t_nil) (t_cons (a_app (by decide +kernel) (by decide +kernel) (by decide +kernel) (t_v (by decide +kernel))) t_nil)))) (t_cons (a_ret (t_v (by decide +kernel))) t_nil))) rfl
abbrev s_law_most : Stmt := topS 47
theorem sc_law_most : FnScope ["_law_dim_here"] ["_law_dim_here"] (defScope s_law_most) := ⟨rfl, rfl, rfl, by decide +kernel, rfl, by decide +kernel, by decide +kernel⟩
def c_law_most : C := { N := ["_law_dim_here"], sc := defScope s_law_most, fn := fun _ => true, fns := [], F := fun _ _ _ => none, bn := [], M := [] }
theorem e_law_most : evDef c_law_most 1 (defBody s_law_most) = f_law_most := a_def (t_cons (a_ret (t_ix rfl (t_bo rfl (t_lst (t_cons t_int (t_cons t_int (t_cons t_int (t_cons t_int (t_cons t_int t_nil))))))) (t_v (by decide +kernel)))) t_nil) rfl
abbrev s_law_body : Stmt := topS 53
theorem sc_law_body : FnScope ["_law_s", "_law_dim_here"] ["_law_s", "_law_dim_here"] (defScope s_law_body) := ⟨rfl, rfl, rfl, by decide +kernel, rfl, by decide +kernel, by decide +kernel⟩
def c_law_body : C := { N := ["_law_s", "_law_dim_here"], sc := defScope s_law_body, fn := fun _ => true, fns := ["by_rows", "_law_taken", "by_corners", "_law_rows", "_law_corners", "_law_rays", "_law_most"], F := fun x => if x = "by_rows" then fby_rows else if x = "_law_taken" then f_law_taken else if x = "by_corners" then fby_corners else if x = "_law_rows" then f_law_rows else if x = "_law_corners" then f_law_corners else if x = "_law_rays" then f_law_rays else if x = "_law_most" then f_law_most else fun _ _ => none, bn := [], M := [] }
theorem e_law_body : evDef c_law_body 2 (defBody s_law_body) = f_law_body := a_def (t_cons (a_if (by decide +kernel) (e_e rfl (t_cmp (t_bo rfl (t_call (by decide +kernel) (t_cons (t_v (by decide +kernel)) (t_cons t_int t_nil)) rfl)) (t_bo rfl t_int))) (t_cons (a_ret (t_call (by decide +kernel) (t_cons (t_v (by decide +kernel)) (t_cons (t_call (by decide +kernel) (t_cons (t_v (by decide +kernel)) (t_cons (t_v (by decide +kernel)) (t_cons t_int t_nil))) rfl) (t_cons (t_call (by decide +kernel) (t_cons (t_v (by decide +kernel)) (t_cons (t_v (by decide +kernel)) (t_cons t_int t_nil))) rfl) t_nil))) rfl)) t_nil) t_nil) (t_cons (a_ret (t_call (by decide +kernel) (t_cons (t_v (by decide +kernel)) (t_cons (t_call (by decide +kernel) (t_cons (t_v (by decide +kernel)) (t_cons (t_v (by decide +kernel)) (t_cons (t_call (by decide +kernel) (t_cons (t_v (by decide +kernel)) t_nil) rfl) t_nil))) rfl) t_nil)) rfl)) t_nil)) rfl
abbrev spoint_of : Stmt := topS 33
theorem scpoint_of : FnScope ["numbers", "low"] ["numbers"] (defScope spoint_of) := ⟨rfl, rfl, rfl, by decide +kernel, rfl, by decide +kernel, by decide +kernel⟩
def cpoint_of : C := { N := ["numbers", "low"], sc := defScope spoint_of, fn := fun _ => true, fns := ["lowest"], F := fun x => if x = "lowest" then flowest else fun _ _ => none, bn := [], M := [] }
theorem epoint_of : evDef cpoint_of 1 (defBody spoint_of) = fpoint_of := a_def (t_cons (a_set (by decide +kernel) (by decide +kernel) (by decide +kernel) (t_call (by decide +kernel) (t_cons (t_v (by decide +kernel)) t_nil) rfl)) (t_cons (a_ret (t_tup (t_cons (t_sl (t_b (by decide +kernel)) t_o0 (t_o1 (t_neg t_int))) (t_cons (t_ix rfl (t_b (by decide +kernel)) (t_neg t_int)) t_nil)))) t_nil)) rfl
abbrev sBody_is_empty : Stmt := inClass (topS 22) 1
theorem scBody_is_empty : FnScope ["self"] ["self"] (defScope sBody_is_empty) := ⟨rfl, rfl, rfl, by decide +kernel, rfl, by decide +kernel, by decide +kernel⟩
def cBody_is_empty : C := { N := ["self"], sc := defScope sBody_is_empty, fn := fun _ => true, fns := [], F := fun _ _ _ => none, bn := ["len"], M := [], ob := true }
theorem eBody_is_empty : evDef cBody_is_empty 1 (defBody sBody_is_empty) = fBody_is_empty := a_def (t_cons (a_ret (t_cmp (t_bo rfl (t_blt (by decide +kernel) (by decide +kernel) rfl rfl (t_cons (t_bo rfl (t_at rfl (t_v (by decide +kernel)))) t_nil))) (t_bo rfl t_int))) t_nil) rfl
abbrev sinner : Stmt := topS 35
theorem scinner : FnScope ["body", "bottom", "corner", "sums", "many", "ray", "tops", "under", "k"] ["body"] (defScope sinner) := ⟨rfl, rfl, rfl, by decide +kernel, rfl, by decide +kernel, by decide +kernel⟩
def cinner : C := { N := ["body", "bottom", "corner", "sums", "many", "ray", "tops", "under", "k"], sc := defScope sinner, fn := fun _ => true, fns := ["point_of"], F := fun x => if x = "point_of" then fpoint_of else fun _ _ => none, bn := ["len", "range", "tuple"], M := [], ob := true, mts := ["is_empty"], Mt := fun x => if x = "is_empty" then fBody_is_empty else fun _ _ => none }
theorem einner : evDef cinner 1 (defBody sinner) = finner := a_def (t_cons (a_if (by decide +kernel) (e_e rfl (t_mt (by decide +kernel) (t_v (by decide +kernel)) t_nil rfl)) (t_cons (a_ret t_non) t_nil) t_nil) (t_cons (a_set (by decide +kernel) (by decide +kernel) (by decide +kernel) t_int) (t_cons (a_for (by decide +kernel) (s_its (by decide +kernel) (t_at rfl (t_v (by decide +kernel)))) (d_nm (by decide +kernel)) (t_cons (a_set (by decide +kernel) (by decide +kernel) (by decide +kernel) (t_bin (t_b (by decide +kernel)) (t_bo rfl (t_ix rfl (t_b (by decide +kernel)) t_int)))) t_nil)) (t_cons (a_set (by decide +kernel) (by decide +kernel) (by decide +kernel) (t_comp (by decide +kernel) (by decide +kernel) (s_rng (by decide +kernel) (t_bo rfl (t_at rfl (t_v (by decide +kernel))))) (d_nm (by decide +kernel)) i_0 t_int)) (t_cons (a_for (by decide +kernel) (s_its (by decide +kernel) (t_at rfl (t_v (by decide +kernel)))) (d_tup (by decide +kernel)) (t_cons (a_set (by decide +kernel) (by decide +kernel) (by decide +kernel) (t_comp (by decide +kernel) (by decide +kernel) (s_rng (by decide +kernel) (t_bo rfl (t_at rfl (t_v (by decide +kernel))))) (d_nm (by decide +kernel)) i_0 (t_bin (t_bo rfl (t_ix rfl (t_b (by decide +kernel)) (t_v (by decide +kernel)))) (t_bo rfl (t_bin (t_bo rfl (t_ix rfl (t_b (by decide +kernel)) (t_v (by decide +kernel)))) (t_bo rfl (t_bin (t_b (by decide +kernel)) (t_b (by decide +kernel))))))))) t_nil)) (t_cons (a_set (by decide +kernel) (by decide +kernel) (by decide +kernel) (t_blt (by decide +kernel) (by decide +kernel) rfl rfl (t_cons (t_bo rfl (t_at rfl (t_v (by decide +kernel)))) t_nil))) (t_cons (a_for (by decide +kernel) (s_its (by decide +kernel) (t_at rfl (t_v (by decide +kernel)))) (d_nm (by decide +kernel)) (t_cons (a_set (by decide +kernel) (by decide +kernel) (by decide +kernel) (t_comp (by decide +kernel) (by decide +kernel) (s_rng (by decide +kernel) (t_bo rfl (t_at rfl (t_v (by decide +kernel))))) (d_nm (by decide +kernel)) i_0 (t_bin (t_bo rfl (t_ix rfl (t_b (by decide +kernel)) (t_v (by decide +kernel)))) (t_bo rfl (t_bin (t_bo rfl (t_bin (t_bo rfl (t_ix rfl (t_b (by decide +kernel)) (t_v (by decide +kernel)))) (t_b (by decide +kernel)))) (t_b (by decide +kernel))))))) t_nil)) (t_cons (a_ret (t_call (by decide +kernel) (t_cons (t_bin (t_bo rfl (t_blt (by decide +kernel) (by decide +kernel) rfl rfl (t_cons (t_b (by decide +kernel)) t_nil))) (t_bo rfl (t_tup (t_cons (t_bin (t_b (by decide +kernel)) (t_b (by decide +kernel))) t_nil)))) t_nil) rfl)) t_nil)))))))) rfl
abbrev s_law_whole : Stmt := topS 49
theorem sc_law_whole : FnScope ["_law_number_here"] ["_law_number_here"] (defScope s_law_whole) := ⟨rfl, rfl, rfl, by decide +kernel, rfl, by decide +kernel, by decide +kernel⟩
def c_law_whole : C := { N := ["_law_number_here"], sc := defScope s_law_whole, fn := fun _ => true, fns := [], F := fun _ _ _ => none, bn := ["isinstance", "int", "bool"], M := [] }
theorem e_law_whole : evDef c_law_whole 1 (defBody s_law_whole) = f_law_whole := a_def (t_cons (a_ret (t_and (t_cons (t_inst (by decide +kernel) (by decide +kernel) (by decide +kernel) (by decide +kernel) (t_v (by decide +kernel))) (t_cons (t_not (t_inst (by decide +kernel) (by decide +kernel) (by decide +kernel) (by decide +kernel) (t_v (by decide +kernel)))) t_nil)))) t_nil) rfl
abbrev s_law_is_low : Stmt := topS 51
theorem sc_law_is_low : FnScope ["_law_numbers_here", "_law_shared", "_law_number_here", "_law_one"] ["_law_numbers_here"] (defScope s_law_is_low) := ⟨rfl, rfl, rfl, by decide +kernel, rfl, by decide +kernel, by decide +kernel⟩
def c_law_is_low : C := { N := ["_law_numbers_here", "_law_shared", "_law_number_here", "_law_one"], sc := defScope s_law_is_low, fn := fun _ => true, fns := [], F := fun _ _ _ => none, bn := ["abs"], M := [] }
theorem e_law_is_low : evDef c_law_is_low 1 (defBody s_law_is_low) = f_law_is_low := a_def (t_cons (a_set (by decide +kernel) (by decide +kernel) (by decide +kernel) t_int) (t_cons (a_for (by decide +kernel) (s_its (by decide +kernel) (t_v (by decide +kernel))) (d_nm (by decide +kernel)) (t_cons (a_set (by decide +kernel) (by decide +kernel) (by decide +kernel) (t_blt (by decide +kernel) (by decide +kernel) rfl rfl (t_cons (t_b (by decide +kernel)) t_nil))) (t_cons (a_wh (e_e rfl (t_cmp (t_b (by decide +kernel)) (t_bo rfl t_int))) (t_cons (a_par (by decide +kernel) (by decide +kernel) (by decide +kernel) (by decide +kernel) (by decide +kernel) (by decide +kernel) (t_v (by decide +kernel)) (t_bin (t_b (by decide +kernel)) (t_b (by decide +kernel)))) t_nil)) t_nil))) (t_cons (a_ret (t_cmp (t_b (by decide +kernel)) (t_bo rfl t_int))) t_nil))) rfl
abbrev s_law_is_numbers : Stmt := topS 50
theorem sc_law_is_numbers : FnScope ["_law_found", "_law_many", "_law_number_here"] ["_law_found", "_law_many"] (defScope s_law_is_numbers) := ⟨rfl, rfl, rfl, by decide +kernel, rfl, by decide +kernel, by decide +kernel⟩
def c_law_is_numbers : C := { N := ["_law_found", "_law_many", "_law_number_here"], sc := defScope s_law_is_numbers, fn := fun _ => true, fns := ["_law_whole"], F := fun x => if x = "_law_whole" then f_law_whole else fun _ _ => none, bn := ["isinstance", "tuple", "all", "len"], M := [] }
theorem e_law_is_numbers : evDef c_law_is_numbers 2 (defBody s_law_is_numbers) = f_law_is_numbers := a_def (t_cons (a_ret (t_and (t_cons (t_inst (by decide +kernel) (by decide +kernel) (by decide +kernel) (by decide +kernel) (t_v (by decide +kernel))) (t_cons (t_cmp (t_bo rfl (t_blt (by decide +kernel) (by decide +kernel) rfl rfl (t_cons (t_b (by decide +kernel)) t_nil))) (t_b (by decide +kernel))) (t_cons (t_blt (by decide +kernel) (by decide +kernel) rfl rfl (t_cons (t_bo rfl (t_comp (by decide +kernel) (by decide +kernel) (s_its (by decide +kernel) (t_b (by decide +kernel))) (d_nm (by decide +kernel)) i_0 (t_call (by decide +kernel) (t_cons (t_v (by decide +kernel)) t_nil) rfl))) t_nil)) t_nil))))) t_nil) rfl
abbrev s_law_is_point : Stmt := topS 52
theorem sc_law_is_point : FnScope ["_law_found", "_law_dim_here"] ["_law_found", "_law_dim_here"] (defScope s_law_is_point) := ⟨rfl, rfl, rfl, by decide +kernel, rfl, by decide +kernel, by decide +kernel⟩
def c_law_is_point : C := { N := ["_law_found", "_law_dim_here"], sc := defScope s_law_is_point, fn := fun _ => true, fns := ["_law_whole", "_law_is_low", "_law_is_numbers"], F := fun x => if x = "_law_whole" then f_law_whole else if x = "_law_is_low" then f_law_is_low else if x = "_law_is_numbers" then f_law_is_numbers else fun _ _ => none, bn := ["isinstance", "tuple", "len"], M := [] }
theorem e_law_is_point : evDef c_law_is_point 2 (defBody s_law_is_point) = f_law_is_point := a_def (t_cons (a_if (by decide +kernel) (e_or (t_cons (e_not (e_e rfl (t_inst (by decide +kernel) (by decide +kernel) (by decide +kernel) (by decide +kernel) (t_v (by decide +kernel))))) (t_cons (e_e rfl (t_cmp (t_bo rfl (t_blt (by decide +kernel) (by decide +kernel) rfl rfl (t_cons (t_b (by decide +kernel)) t_nil))) (t_bo rfl t_int))) (t_cons (e_not (e_e rfl (t_call (by decide +kernel) (t_cons (t_ix rfl (t_b (by decide +kernel)) t_int) (t_cons (t_v (by decide +kernel)) t_nil)) rfl))) t_nil)))) (t_cons (a_ret t_bl) t_nil) t_nil) (t_cons (a_ret (t_and (t_cons (t_call (by decide +kernel) (t_cons (t_ix rfl (t_b (by decide +kernel)) t_int) t_nil) rfl) (t_cons (t_cmp (t_bo rfl (t_ix rfl (t_b (by decide +kernel)) t_int)) (t_bo rfl t_int)) (t_cons (t_call (by decide +kernel) (t_cons (t_bin (t_bo rfl (t_ix rfl (t_b (by decide +kernel)) t_int)) (t_bo rfl (t_tup (t_cons (t_ix rfl (t_b (by decide +kernel)) t_int) t_nil)))) t_nil) rfl) t_nil))))) t_nil)) rfl
abbrev s_law_dot : Stmt := topS 48
theorem sc_law_dot : FnScope ["_law_one", "_law_other", "_law_found", "_law_k"] ["_law_one", "_law_other"] (defScope s_law_dot) := ⟨rfl, rfl, rfl, by decide +kernel, rfl, by decide +kernel, by decide +kernel⟩
def c_law_dot : C := { N := ["_law_one", "_law_other", "_law_found", "_law_k"], sc := defScope s_law_dot, fn := fun _ => true, fns := [], F := fun _ _ _ => none, bn := ["range", "len"], M := [] }
theorem e_law_dot : evDef c_law_dot 2 (defBody s_law_dot) = f_law_dot := a_def (t_cons (a_set (by decide +kernel) (by decide +kernel) (by decide +kernel) t_int) (t_cons (a_for (by decide +kernel) (s_rng (by decide +kernel) (t_blt (by decide +kernel) (by decide +kernel) rfl rfl (t_cons (t_b (by decide +kernel)) t_nil))) (d_nm (by decide +kernel)) (t_cons (a_set (by decide +kernel) (by decide +kernel) (by decide +kernel) (t_bin (t_b (by decide +kernel)) (t_bo rfl (t_bin (t_bo rfl (t_ix rfl (t_b (by decide +kernel)) (t_v (by decide +kernel)))) (t_bo rfl (t_ix rfl (t_b (by decide +kernel)) (t_v (by decide +kernel)))))))) t_nil)) (t_cons (a_ret (t_v (by decide +kernel))) t_nil))) rfl
abbrev slaw : Stmt := topS 54
theorem sclaw : FnScope ["_law_script", "_law_s", "_law_dim_here", "_law_body_here", "_law_found", "_law_row", "_law_sums", "_law_flat", "_law_number_here"] ["_law_script"] (defScope slaw) := ⟨rfl, rfl, rfl, by decide +kernel, rfl, by decide +kernel, by decide +kernel⟩
def claw : C := { N := ["_law_script", "_law_s", "_law_dim_here", "_law_body_here", "_law_found", "_law_row", "_law_sums", "_law_flat", "_law_number_here"], sc := defScope slaw, fn := fun _ => true, fns := ["_law_begun", "_law_dim", "_law_body", "inner", "_law_is_point", "_law_dot"], F := fun x => if x = "_law_begun" then f_law_begun else if x = "_law_dim" then f_law_dim else if x = "_law_body" then f_law_body else if x = "inner" then finner else if x = "_law_is_point" then f_law_is_point else if x = "_law_dot" then f_law_dot else fun _ _ => none, bn := ["tuple"], M := [], ob := true }
theorem elaw : evDef claw 1 (defBody slaw) = flaw := a_def (t_cons (a_set (by decide +kernel) (by decide +kernel) (by decide +kernel) (t_call (by decide +kernel) (t_cons (t_v (by decide +kernel)) t_nil) rfl)) (t_cons (a_set (by decide +kernel) (by decide +kernel) (by decide +kernel) (t_call (by decide +kernel) (t_cons (t_v (by decide +kernel)) t_nil) rfl)) (t_cons (a_set (by decide +kernel) (by decide +kernel) (by decide +kernel) (t_call (by decide +kernel) (t_cons (t_v (by decide +kernel)) (t_cons (t_v (by decide +kernel)) t_nil)) rfl)) (t_cons (a_set (by decide +kernel) (by decide +kernel) (by decide +kernel) (t_call (by decide +kernel) (t_cons (t_v (by decide +kernel)) t_nil) rfl)) (t_cons (a_if (by decide +kernel) (e_e rfl (t_cmp (t_bo rfl (t_at rfl (t_v (by decide +kernel)))) (t_bo rfl (t_lst t_nil)))) (t_cons (a_ret (t_cmp (t_b (by decide +kernel)) (t_bo rfl t_non))) t_nil) t_nil) (t_cons (a_if (by decide +kernel) (e_not (e_e rfl (t_call (by decide +kernel) (t_cons (t_v (by decide +kernel)) (t_cons (t_v (by decide +kernel)) t_nil)) rfl))) (t_cons (a_ret t_bl) t_nil) t_nil) (t_cons (a_for (by decide +kernel) (s_its (by decide +kernel) (t_at rfl (t_v (by decide +kernel)))) (d_nm (by decide +kernel)) (t_cons (a_set (by decide +kernel) (by decide +kernel) (by decide +kernel) (t_bin (t_bo rfl (t_call (by decide +kernel) (t_cons (t_ix rfl (t_b (by decide +kernel)) t_int) (t_cons (t_ix rfl (t_b (by decide +kernel)) t_int) t_nil)) rfl)) (t_bo rfl (t_bin (t_bo rfl (t_ix rfl (t_b (by decide +kernel)) t_int)) (t_bo rfl (t_ix rfl (t_b (by decide +kernel)) t_int)))))) (t_cons (a_set (by decide +kernel) (by decide +kernel) (by decide +kernel) (t_cmp (t_bo rfl (t_tup (t_cons (t_blt (by decide +kernel) (by decide +kernel) rfl rfl (t_cons (t_bo rfl (t_comp (by decide +kernel) (by decide +kernel) (s_its (by decide +kernel) (t_bo rfl (t_ix rfl (t_b (by decide +kernel)) t_int))) (d_nm (by decide +kernel)) i_0 (t_bin (t_bo rfl t_int) (t_b (by decide +kernel))))) t_nil)) (t_cons (t_bin (t_bo rfl t_int) (t_bo rfl (t_ix rfl (t_b (by decide +kernel)) t_int))) t_nil)))) (t_bo rfl (t_at rfl (t_v (by decide +kernel)))))) (t_cons (a_if (by decide +kernel) (e_or (t_cons (e_and (t_cons (e_e rfl (t_v (by decide +kernel))) (t_cons (e_e rfl (t_cmp (t_b (by decide +kernel)) (t_bo rfl t_int))) t_nil))) (t_cons (e_and (t_cons (e_not (e_e rfl (t_v (by decide +kernel)))) (t_cons (e_e rfl (t_cmp (t_b (by decide +kernel)) (t_bo rfl t_int))) t_nil))) t_nil))) (t_cons (a_ret t_bl) t_nil) t_nil) t_nil)))) (t_cons (a_ret t_bl) t_nil)))))))) rfl
theorem all_mk {l : PySem.W.OpenLaw} {w : World} {K : PySem.W.Frag} {h : Heap} {mg : Str → Option Value} {fa f1 f2 f3 f4 f5 f6 f7 f8 f9 f10 f11 f12 f13 f14 f15 f16 f17 f18 f19 f20 f21 f22 f23 f24 f25 f26 f27 f28 f29 f30 f31 f32 f33 f34 f35 f36 f37 f38 f39 f40 f41 f42 f43 f44 f45 Cl fI : Addr} (tr : l.prog.given.tree = none) (X : K.In h) (G : h.Ns mainGlobals mg) (hfa : mg "law" = some (.ref fa))
    {od1 an1 od2 an2 od3 an3 od4 an4 od5 an5 od6 an6 od7 an7 od8 an8 od9 an9 od10 an10 od11 an11 od12 an12 od13 an13 od14 an14 od15 an15 od16 an16 od17 an17 od18 an18 od19 an19 od20 an20 od21 an21 od22 an22 od23 an23 od24 an24 od25 an25 od26 an26 od27 an27 od28 an28 od29 an29 od30 an30 od31 an31 od32 an32 od33 an33 od34 an34 od35 an35 od36 an36 od37 an37 od38 an38 od39 an39 od40 an40 od41 an41 od42 an42 od43 an43 od44 an44 od45 an45 odI anI : Option Addr} {sl1 sl2 sl3 sl4 sl5 sl6 sl7 sl8 sl9 sl10 sl11 sl12 sl13 sl14 sl15 sl16 sl17 sl18 sl19 sl20 sl21 sl22 sl23 sl24 sl25 sl26 sl27 sl28 sl29 sl30 sl31 sl32 sl33 sl34 sl35 sl36 sl37 sl38 sl39 sl40 sl41 sl42 sl43 sl44 sl45 slI : Array (Option Value)} {oc1 kV1 dc1 pm1 cd1 ct1 oc2 kV2 dc2 pm2 cd2 ct2 oc3 kV3 dc3 pm3 cd3 ct3 oc4 kV4 dc4 pm4 cd4 ct4 oc5 kV5 dc5 pm5 cd5 ct5 oc6 kV6 dc6 pm6 cd6 ct6 oc7 kV7 dc7 pm7 cd7 ct7 oc8 kV8 dc8 pm8 cd8 ct8 oc9 kV9 dc9 pm9 cd9 ct9 oc10 kV10 dc10 pm10 cd10 ct10 oc11 kV11 dc11 pm11 cd11 ct11 oc12 kV12 dc12 pm12 cd12 ct12 oc13 kV13 dc13 pm13 cd13 ct13 oc14 kV14 dc14 pm14 cd14 ct14 oc15 kV15 dc15 pm15 cd15 ct15 oc16 kV16 dc16 pm16 cd16 ct16 oc17 kV17 dc17 pm17 cd17 ct17 oc18 kV18 dc18 pm18 cd18 ct18 oc19 kV19 dc19 pm19 cd19 ct19 oc20 kV20 dc20 pm20 cd20 ct20 oc21 kV21 dc21 pm21 cd21 ct21 oc22 kV22 dc22 pm22 cd22 ct22 oc23 kV23 dc23 pm23 cd23 ct23 oc24 kV24 dc24 pm24 cd24 ct24 oc25 kV25 dc25 pm25 cd25 ct25 oc26 kV26 dc26 pm26 cd26 ct26 oc27 kV27 dc27 pm27 cd27 ct27 oc28 kV28 dc28 pm28 cd28 ct28 oc29 kV29 dc29 pm29 cd29 ct29 oc30 kV30 dc30 pm30 cd30 ct30 oc31 kV31 dc31 pm31 cd31 ct31 oc32 kV32 dc32 pm32 cd32 ct32 oc33 kV33 dc33 pm33 cd33 ct33 oc34 kV34 dc34 pm34 cd34 ct34 oc35 kV35 dc35 pm35 cd35 ct35 oc36 kV36 dc36 pm36 cd36 ct36 oc37 kV37 dc37 pm37 cd37 ct37 oc38 kV38 dc38 pm38 cd38 ct38 oc39 kV39 dc39 pm39 cd39 ct39 oc40 kV40 dc40 pm40 cd40 ct40 oc41 kV41 dc41 pm41 cd41 ct41 oc42 kV42 dc42 pm42 cd42 ct42 oc43 kV43 dc43 pm43 cd43 ct43 oc44 kV44 dc44 pm44 cd44 ct44 oc45 kV45 dc45 pm45 cd45 ct45 ocI kVI dcI pmI cdI ctI : Value} {tk0 : Tok}
    (aC : PySem.W.nsIn K mainGlobals "Body" = some (some (.ref Cl))) (pg : PySem.W.plainGet K Cl Str.empty = true) (hd : PySem.W.hasDictIn K Cl = true) (po : PySem.W.plainOver K Cl = true) (sa : PySem.W.findIn K (.ref Cl) "__setattr__" = some (some (.builtin "object.__setattr__")))
    (n0 : PySem.W.findIn K (.ref Cl) "dim" = some none) (n1 : PySem.W.findIn K (.ref Cl) "rows" = some none) (n2 : PySem.W.findIn K (.ref Cl) "corners" = some none) (n3 : PySem.W.findIn K (.ref Cl) "rays" = some none)
    (aI : PySem.W.findIn K (.ref Cl) "__init__" = some (some (.ref fI))) (iI : PySem.W.isFn K (.ref fI) = true) (lI : K.lookup fI = some ⟨ocI, odI, .func (PySem.W.fnOf "__init__" "Body.__init__" (defArgs sI) (defBody sI) (defScope sI) .none kVI dcI pmI anI cdI ctI), slI⟩) (cI : PySem.W.codeIn K cdI "Body.__init__" = true) (kI : PySem.W.keepIn K (.ref fI) = true) (mkC : PySem.W.makesIn K Cl = true) (kC : PySem.W.keepIn K (.ref Cl) = true)
    (a1 : PySem.W.nsIn K mainGlobals "_law_begun" = some (some (.ref f1))) (l1 : K.lookup f1 = some ⟨oc1, od1, .func (PySem.W.fnOf "_law_begun" "_law_begun" (defArgs s_law_begun) (defBody s_law_begun) (defScope s_law_begun) .none kV1 dc1 pm1 an1 cd1 ct1), sl1⟩) (c1 : PySem.W.codeIn K cd1 "_law_begun" = true) (k1 : PySem.W.keepIn K (.ref f1) = true)
    (a2 : PySem.W.nsIn K mainGlobals "_law_taken" = some (some (.ref f2))) (l2 : K.lookup f2 = some ⟨oc2, od2, .func (PySem.W.fnOf "_law_taken" "_law_taken" (defArgs s_law_taken) (defBody s_law_taken) (defScope s_law_taken) .none kV2 dc2 pm2 an2 cd2 ct2), sl2⟩) (c2 : PySem.W.codeIn K cd2 "_law_taken" = true) (k2 : PySem.W.keepIn K (.ref f2) = true)
    (a3 : PySem.W.nsIn K mainGlobals "_law_dim" = some (some (.ref f3))) (l3 : K.lookup f3 = some ⟨oc3, od3, .func (PySem.W.fnOf "_law_dim" "_law_dim" (defArgs s_law_dim) (defBody s_law_dim) (defScope s_law_dim) .none kV3 dc3 pm3 an3 cd3 ct3), sl3⟩) (c3 : PySem.W.codeIn K cd3 "_law_dim" = true) (k3 : PySem.W.keepIn K (.ref f3) = true)
    (a4 : PySem.W.nsIn K mainGlobals "is_whole" = some (some (.ref f4))) (l4 : K.lookup f4 = some ⟨oc4, od4, .func (PySem.W.fnOf "is_whole" "is_whole" (defArgs sis_whole) (defBody sis_whole) (defScope sis_whole) .none kV4 dc4 pm4 an4 cd4 ct4), sl4⟩) (c4 : PySem.W.codeIn K cd4 "is_whole" = true) (k4 : PySem.W.keepIn K (.ref f4) = true)
    (a5 : PySem.W.nsIn K mainGlobals "need_dim" = some (some (.ref f5))) (l5 : K.lookup f5 = some ⟨oc5, od5, .func (PySem.W.fnOf "need_dim" "need_dim" (defArgs sneed_dim) (defBody sneed_dim) (defScope sneed_dim) .none kV5 dc5 pm5 an5 cd5 ct5), sl5⟩) (c5 : PySem.W.codeIn K cd5 "need_dim" = true) (k5 : PySem.W.keepIn K (.ref f5) = true)
    (a6 : PySem.W.nsIn K mainGlobals "is_row" = some (some (.ref f6))) (l6 : K.lookup f6 = some ⟨oc6, od6, .func (PySem.W.fnOf "is_row" "is_row" (defArgs sis_row) (defBody sis_row) (defScope sis_row) .none kV6 dc6 pm6 an6 cd6 ct6), sl6⟩) (c6 : PySem.W.codeIn K cd6 "is_row" = true) (k6 : PySem.W.keepIn K (.ref f6) = true)
    (a7 : PySem.W.nsIn K mainGlobals "need_rows" = some (some (.ref f7))) (l7 : K.lookup f7 = some ⟨oc7, od7, .func (PySem.W.fnOf "need_rows" "need_rows" (defArgs sneed_rows) (defBody sneed_rows) (defScope sneed_rows) .none kV7 dc7 pm7 an7 cd7 ct7), sl7⟩) (c7 : PySem.W.codeIn K cd7 "need_rows" = true) (k7 : PySem.W.keepIn K (.ref f7) = true)
    (a8 : PySem.W.nsIn K mainGlobals "unit" = some (some (.ref f8))) (l8 : K.lookup f8 = some ⟨oc8, od8, .func (PySem.W.fnOf "unit" "unit" (defArgs sunit) (defBody sunit) (defScope sunit) .none kV8 dc8 pm8 an8 cd8 ct8), sl8⟩) (c8 : PySem.W.codeIn K cd8 "unit" = true) (k8 : PySem.W.keepIn K (.ref f8) = true)
    (a9 : PySem.W.nsIn K mainGlobals "dot" = some (some (.ref f9))) (l9 : K.lookup f9 = some ⟨oc9, od9, .func (PySem.W.fnOf "dot" "dot" (defArgs sdot) (defBody sdot) (defScope sdot) .none kV9 dc9 pm9 an9 cd9 ct9), sl9⟩) (c9 : PySem.W.codeIn K cd9 "dot" = true) (k9 : PySem.W.keepIn K (.ref f9) = true)
    (a10 : PySem.W.nsIn K mainGlobals "opposite" = some (some (.ref f10))) (l10 : K.lookup f10 = some ⟨oc10, od10, .func (PySem.W.fnOf "opposite" "opposite" (defArgs sopposite) (defBody sopposite) (defScope sopposite) .none kV10 dc10 pm10 an10 cd10 ct10), sl10⟩) (c10 : PySem.W.codeIn K cd10 "opposite" = true) (k10 : PySem.W.keepIn K (.ref f10) = true)
    (a11 : PySem.W.nsIn K mainGlobals "divisor" = some (some (.ref f11))) (l11 : K.lookup f11 = some ⟨oc11, od11, .func (PySem.W.fnOf "divisor" "divisor" (defArgs sdivisor) (defBody sdivisor) (defScope sdivisor) .none kV11 dc11 pm11 an11 cd11 ct11), sl11⟩) (c11 : PySem.W.codeIn K cd11 "divisor" = true) (k11 : PySem.W.keepIn K (.ref f11) = true)
    (a12 : PySem.W.nsIn K mainGlobals "lowest" = some (some (.ref f12))) (l12 : K.lookup f12 = some ⟨oc12, od12, .func (PySem.W.fnOf "lowest" "lowest" (defArgs slowest) (defBody slowest) (defScope slowest) .none kV12 dc12 pm12 an12 cd12 ct12), sl12⟩) (c12 : PySem.W.codeIn K cd12 "lowest" = true) (k12 : PySem.W.keepIn K (.ref f12) = true)
    (a13 : PySem.W.nsIn K mainGlobals "blend" = some (some (.ref f13))) (l13 : K.lookup f13 = some ⟨oc13, od13, .func (PySem.W.fnOf "blend" "blend" (defArgs sblend) (defBody sblend) (defScope sblend) .none kV13 dc13 pm13 an13 cd13 ct13), sl13⟩) (c13 : PySem.W.codeIn K cd13 "blend" = true) (k13 : PySem.W.keepIn K (.ref f13) = true)
    (a14 : PySem.W.nsIn K mainGlobals "turned_line" = some (some (.ref f14))) (l14 : K.lookup f14 = some ⟨oc14, od14, .func (PySem.W.fnOf "turned_line" "turned_line" (defArgs sturned_line) (defBody sturned_line) (defScope sturned_line) .none kV14 dc14 pm14 an14 cd14 ct14), sl14⟩) (c14 : PySem.W.codeIn K cd14 "turned_line" = true) (k14 : PySem.W.keepIn K (.ref f14) = true)
    (a15 : PySem.W.nsIn K mainGlobals "has_all" = some (some (.ref f15))) (l15 : K.lookup f15 = some ⟨oc15, od15, .func (PySem.W.fnOf "has_all" "has_all" (defArgs shas_all) (defBody shas_all) (defScope shas_all) .none kV15 dc15 pm15 an15 cd15 ct15), sl15⟩) (c15 : PySem.W.codeIn K cd15 "has_all" = true) (k15 : PySem.W.keepIn K (.ref f15) = true)
    (a16 : PySem.W.nsIn K mainGlobals "side_by_side" = some (some (.ref f16))) (l16 : K.lookup f16 = some ⟨oc16, od16, .func (PySem.W.fnOf "side_by_side" "side_by_side" (defArgs sside_by_side) (defBody sside_by_side) (defScope sside_by_side) .none kV16 dc16 pm16 an16 cd16 ct16), sl16⟩) (c16 : PySem.W.codeIn K cd16 "side_by_side" = true) (k16 : PySem.W.keepIn K (.ref f16) = true)
    (a17 : PySem.W.nsIn K mainGlobals "cut_rays" = some (some (.ref f17))) (l17 : K.lookup f17 = some ⟨oc17, od17, .func (PySem.W.fnOf "cut_rays" "cut_rays" (defArgs scut_rays) (defBody scut_rays) (defScope scut_rays) .none kV17 dc17 pm17 an17 cd17 ct17), sl17⟩) (c17 : PySem.W.codeIn K cd17 "cut_rays" = true) (k17 : PySem.W.keepIn K (.ref f17) = true)
    (a18 : PySem.W.nsIn K mainGlobals "tight_of" = some (some (.ref f18))) (l18 : K.lookup f18 = some ⟨oc18, od18, .func (PySem.W.fnOf "tight_of" "tight_of" (defArgs stight_of) (defBody stight_of) (defScope stight_of) .none kV18 dc18 pm18 an18 cd18 ct18), sl18⟩) (c18 : PySem.W.codeIn K cd18 "tight_of" = true) (k18 : PySem.W.keepIn K (.ref f18) = true)
    (a19 : PySem.W.nsIn K mainGlobals "cone" = some (some (.ref f19))) (l19 : K.lookup f19 = some ⟨oc19, od19, .func (PySem.W.fnOf "cone" "cone" (defArgs scone) (defBody scone) (defScope scone) .none kV19 dc19 pm19 an19 cd19 ct19), sl19⟩) (c19 : PySem.W.codeIn K cd19 "cone" = true) (k19 : PySem.W.keepIn K (.ref f19) = true)
    (a20 : PySem.W.nsIn K mainGlobals "with_opposites" = some (some (.ref f20))) (l20 : K.lookup f20 = some ⟨oc20, od20, .func (PySem.W.fnOf "with_opposites" "with_opposites" (defArgs swith_opposites) (defBody swith_opposites) (defScope swith_opposites) .none kV20 dc20 pm20 an20 cd20 ct20), sl20⟩) (c20 : PySem.W.codeIn K cd20 "with_opposites" = true) (k20 : PySem.W.keepIn K (.ref f20) = true)
    (a21 : PySem.W.nsIn K mainGlobals "corners_of" = some (some (.ref f21))) (l21 : K.lookup f21 = some ⟨oc21, od21, .func (PySem.W.fnOf "corners_of" "corners_of" (defArgs scorners_of) (defBody scorners_of) (defScope scorners_of) .none kV21 dc21 pm21 an21 cd21 ct21), sl21⟩) (c21 : PySem.W.codeIn K cd21 "corners_of" = true) (k21 : PySem.W.keepIn K (.ref f21) = true)
    (a22 : PySem.W.nsIn K mainGlobals "rows_of" = some (some (.ref f22))) (l22 : K.lookup f22 = some ⟨oc22, od22, .func (PySem.W.fnOf "rows_of" "rows_of" (defArgs srows_of) (defBody srows_of) (defScope srows_of) .none kV22 dc22 pm22 an22 cd22 ct22), sl22⟩) (c22 : PySem.W.codeIn K cd22 "rows_of" = true) (k22 : PySem.W.keepIn K (.ref f22) = true)
    (a23 : PySem.W.nsIn K mainGlobals "by_rows" = some (some (.ref f23))) (l23 : K.lookup f23 = some ⟨oc23, od23, .func (PySem.W.fnOf "by_rows" "by_rows" (defArgs sby_rows) (defBody sby_rows) (defScope sby_rows) .none kV23 dc23 pm23 an23 cd23 ct23), sl23⟩) (c23 : PySem.W.codeIn K cd23 "by_rows" = true) (k23 : PySem.W.keepIn K (.ref f23) = true)
    (a24 : PySem.W.nsIn K mainGlobals "is_point" = some (some (.ref f24))) (l24 : K.lookup f24 = some ⟨oc24, od24, .func (PySem.W.fnOf "is_point" "is_point" (defArgs sis_point) (defBody sis_point) (defScope sis_point) .none kV24 dc24 pm24 an24 cd24 ct24), sl24⟩) (c24 : PySem.W.codeIn K cd24 "is_point" = true) (k24 : PySem.W.keepIn K (.ref f24) = true)
    (a25 : PySem.W.nsIn K mainGlobals "need_point" = some (some (.ref f25))) (l25 : K.lookup f25 = some ⟨oc25, od25, .func (PySem.W.fnOf "need_point" "need_point" (defArgs sneed_point) (defBody sneed_point) (defScope sneed_point) .none kV25 dc25 pm25 an25 cd25 ct25), sl25⟩) (c25 : PySem.W.codeIn K cd25 "need_point" = true) (k25 : PySem.W.keepIn K (.ref f25) = true)
    (a26 : PySem.W.nsIn K mainGlobals "need_corners" = some (some (.ref f26))) (l26 : K.lookup f26 = some ⟨oc26, od26, .func (PySem.W.fnOf "need_corners" "need_corners" (defArgs sneed_corners) (defBody sneed_corners) (defScope sneed_corners) .none kV26 dc26 pm26 an26 cd26 ct26), sl26⟩) (c26 : PySem.W.codeIn K cd26 "need_corners" = true) (k26 : PySem.W.keepIn K (.ref f26) = true)
    (a27 : PySem.W.nsIn K mainGlobals "by_corners" = some (some (.ref f27))) (l27 : K.lookup f27 = some ⟨oc27, od27, .func (PySem.W.fnOf "by_corners" "by_corners" (defArgs sby_corners) (defBody sby_corners) (defScope sby_corners) .none kV27 dc27 pm27 an27 cd27 ct27), sl27⟩) (c27 : PySem.W.codeIn K cd27 "by_corners" = true) (k27 : PySem.W.keepIn K (.ref f27) = true)
    (a28 : PySem.W.nsIn K mainGlobals "_law_number" = some (some (.ref f28))) (l28 : K.lookup f28 = some ⟨oc28, od28, .func (PySem.W.fnOf "_law_number" "_law_number" (defArgs s_law_number) (defBody s_law_number) (defScope s_law_number) .none kV28 dc28 pm28 an28 cd28 ct28), sl28⟩) (c28 : PySem.W.codeIn K cd28 "_law_number" = true) (k28 : PySem.W.keepIn K (.ref f28) = true)
    (a29 : PySem.W.nsIn K mainGlobals "_law_numbers" = some (some (.ref f29))) (l29 : K.lookup f29 = some ⟨oc29, od29, .func (PySem.W.fnOf "_law_numbers" "_law_numbers" (defArgs s_law_numbers) (defBody s_law_numbers) (defScope s_law_numbers) .none kV29 dc29 pm29 an29 cd29 ct29), sl29⟩) (c29 : PySem.W.codeIn K cd29 "_law_numbers" = true) (k29 : PySem.W.keepIn K (.ref f29) = true)
    (a30 : PySem.W.nsIn K mainGlobals "_law_rows" = some (some (.ref f30))) (l30 : K.lookup f30 = some ⟨oc30, od30, .func (PySem.W.fnOf "_law_rows" "_law_rows" (defArgs s_law_rows) (defBody s_law_rows) (defScope s_law_rows) .none kV30 dc30 pm30 an30 cd30 ct30), sl30⟩) (c30 : PySem.W.codeIn K cd30 "_law_rows" = true) (k30 : PySem.W.keepIn K (.ref f30) = true)
    (a31 : PySem.W.nsIn K mainGlobals "_law_point" = some (some (.ref f31))) (l31 : K.lookup f31 = some ⟨oc31, od31, .func (PySem.W.fnOf "_law_point" "_law_point" (defArgs s_law_point) (defBody s_law_point) (defScope s_law_point) .none kV31 dc31 pm31 an31 cd31 ct31), sl31⟩) (c31 : PySem.W.codeIn K cd31 "_law_point" = true) (k31 : PySem.W.keepIn K (.ref f31) = true)
    (a32 : PySem.W.nsIn K mainGlobals "_law_corners" = some (some (.ref f32))) (l32 : K.lookup f32 = some ⟨oc32, od32, .func (PySem.W.fnOf "_law_corners" "_law_corners" (defArgs s_law_corners) (defBody s_law_corners) (defScope s_law_corners) .none kV32 dc32 pm32 an32 cd32 ct32), sl32⟩) (c32 : PySem.W.codeIn K cd32 "_law_corners" = true) (k32 : PySem.W.keepIn K (.ref f32) = true)
    (a33 : PySem.W.nsIn K mainGlobals "_law_ray" = some (some (.ref f33))) (l33 : K.lookup f33 = some ⟨oc33, od33, .func (PySem.W.fnOf "_law_ray" "_law_ray" (defArgs s_law_ray) (defBody s_law_ray) (defScope s_law_ray) .none kV33 dc33 pm33 an33 cd33 ct33), sl33⟩) (c33 : PySem.W.codeIn K cd33 "_law_ray" = true) (k33 : PySem.W.keepIn K (.ref f33) = true)
    (a34 : PySem.W.nsIn K mainGlobals "_law_rays" = some (some (.ref f34))) (l34 : K.lookup f34 = some ⟨oc34, od34, .func (PySem.W.fnOf "_law_rays" "_law_rays" (defArgs s_law_rays) (defBody s_law_rays) (defScope s_law_rays) .none kV34 dc34 pm34 an34 cd34 ct34), sl34⟩) (c34 : PySem.W.codeIn K cd34 "_law_rays" = true) (k34 : PySem.W.keepIn K (.ref f34) = true)
    (a35 : PySem.W.nsIn K mainGlobals "_law_most" = some (some (.ref f35))) (l35 : K.lookup f35 = some ⟨oc35, od35, .func (PySem.W.fnOf "_law_most" "_law_most" (defArgs s_law_most) (defBody s_law_most) (defScope s_law_most) .none kV35 dc35 pm35 an35 cd35 ct35), sl35⟩) (c35 : PySem.W.codeIn K cd35 "_law_most" = true) (k35 : PySem.W.keepIn K (.ref f35) = true)
    (a36 : PySem.W.nsIn K mainGlobals "_law_body" = some (some (.ref f36))) (l36 : K.lookup f36 = some ⟨oc36, od36, .func (PySem.W.fnOf "_law_body" "_law_body" (defArgs s_law_body) (defBody s_law_body) (defScope s_law_body) .none kV36 dc36 pm36 an36 cd36 ct36), sl36⟩) (c36 : PySem.W.codeIn K cd36 "_law_body" = true) (k36 : PySem.W.keepIn K (.ref f36) = true)
    (a37 : PySem.W.nsIn K mainGlobals "point_of" = some (some (.ref f37))) (l37 : K.lookup f37 = some ⟨oc37, od37, .func (PySem.W.fnOf "point_of" "point_of" (defArgs spoint_of) (defBody spoint_of) (defScope spoint_of) .none kV37 dc37 pm37 an37 cd37 ct37), sl37⟩) (c37 : PySem.W.codeIn K cd37 "point_of" = true) (k37 : PySem.W.keepIn K (.ref f37) = true)
    (a38 : PySem.W.findIn K (.ref Cl) "is_empty" = some (some (.ref f38))) (i38 : PySem.W.isFn K (.ref f38) = true) (l38 : K.lookup f38 = some ⟨oc38, od38, .func (PySem.W.fnOf "is_empty" "Body.is_empty" (defArgs sBody_is_empty) (defBody sBody_is_empty) (defScope sBody_is_empty) .none kV38 dc38 pm38 an38 cd38 ct38), sl38⟩) (c38 : PySem.W.codeIn K cd38 "Body.is_empty" = true) (k38 : PySem.W.keepIn K (.ref f38) = true)
    (a39 : PySem.W.nsIn K mainGlobals "inner" = some (some (.ref f39))) (l39 : K.lookup f39 = some ⟨oc39, od39, .func (PySem.W.fnOf "inner" "inner" (defArgs sinner) (defBody sinner) (defScope sinner) .none kV39 dc39 pm39 an39 cd39 ct39), sl39⟩) (c39 : PySem.W.codeIn K cd39 "inner" = true) (k39 : PySem.W.keepIn K (.ref f39) = true)
    (a40 : PySem.W.nsIn K mainGlobals "_law_whole" = some (some (.ref f40))) (l40 : K.lookup f40 = some ⟨oc40, od40, .func (PySem.W.fnOf "_law_whole" "_law_whole" (defArgs s_law_whole) (defBody s_law_whole) (defScope s_law_whole) .none kV40 dc40 pm40 an40 cd40 ct40), sl40⟩) (c40 : PySem.W.codeIn K cd40 "_law_whole" = true) (k40 : PySem.W.keepIn K (.ref f40) = true)
    (a41 : PySem.W.nsIn K mainGlobals "_law_is_low" = some (some (.ref f41))) (l41 : K.lookup f41 = some ⟨oc41, od41, .func (PySem.W.fnOf "_law_is_low" "_law_is_low" (defArgs s_law_is_low) (defBody s_law_is_low) (defScope s_law_is_low) .none kV41 dc41 pm41 an41 cd41 ct41), sl41⟩) (c41 : PySem.W.codeIn K cd41 "_law_is_low" = true) (k41 : PySem.W.keepIn K (.ref f41) = true)
    (a42 : PySem.W.nsIn K mainGlobals "_law_is_numbers" = some (some (.ref f42))) (l42 : K.lookup f42 = some ⟨oc42, od42, .func (PySem.W.fnOf "_law_is_numbers" "_law_is_numbers" (defArgs s_law_is_numbers) (defBody s_law_is_numbers) (defScope s_law_is_numbers) .none kV42 dc42 pm42 an42 cd42 ct42), sl42⟩) (c42 : PySem.W.codeIn K cd42 "_law_is_numbers" = true) (k42 : PySem.W.keepIn K (.ref f42) = true)
    (a43 : PySem.W.nsIn K mainGlobals "_law_is_point" = some (some (.ref f43))) (l43 : K.lookup f43 = some ⟨oc43, od43, .func (PySem.W.fnOf "_law_is_point" "_law_is_point" (defArgs s_law_is_point) (defBody s_law_is_point) (defScope s_law_is_point) .none kV43 dc43 pm43 an43 cd43 ct43), sl43⟩) (c43 : PySem.W.codeIn K cd43 "_law_is_point" = true) (k43 : PySem.W.keepIn K (.ref f43) = true)
    (a44 : PySem.W.nsIn K mainGlobals "_law_dot" = some (some (.ref f44))) (l44 : K.lookup f44 = some ⟨oc44, od44, .func (PySem.W.fnOf "_law_dot" "_law_dot" (defArgs s_law_dot) (defBody s_law_dot) (defScope s_law_dot) .none kV44 dc44 pm44 an44 cd44 ct44), sl44⟩) (c44 : PySem.W.codeIn K cd44 "_law_dot" = true) (k44 : PySem.W.keepIn K (.ref f44) = true)
    (a45 : PySem.W.nsIn K mainGlobals "law" = some (some (.ref f45))) (l45 : K.lookup f45 = some ⟨oc45, od45, .func (PySem.W.fnOf "law" "law" (defArgs slaw) (defBody slaw) (defScope slaw) .none kV45 dc45 pm45 an45 cd45 ct45), sl45⟩) (c45 : PySem.W.codeIn K cd45 "law" = true) (k45 : PySem.W.keepIn K (.ref f45) = true)
    (z0 : PySem.W.nsIn K mainGlobals "int" = some none) (z1 : PySem.W.nsIn K mainGlobals "len" = some none) (z2 : PySem.W.nsIn K mainGlobals "isinstance" = some none) (z3 : PySem.W.nsIn K mainGlobals "bool" = some none) (z4 : PySem.W.nsIn K mainGlobals "tuple" = some none) (z5 : PySem.W.nsIn K mainGlobals "all" = some none) (z6 : PySem.W.nsIn K mainGlobals "list" = some none) (z7 : PySem.W.nsIn K mainGlobals "range" = some none) (z8 : PySem.W.nsIn K mainGlobals "sum" = some none) (z9 : PySem.W.nsIn K mainGlobals "zip" = some none) (z10 : PySem.W.nsIn K mainGlobals "abs" = some none) (z11 : PySem.W.nsIn K mainGlobals "sorted" = some none) (z12 : PySem.W.nsIn K mainGlobals "any" = some none) (q0 : PySem.W.nsIn K mainGlobals "MOST_DIMENSIONS" = some (some (.int 4 tk0))) :
    ∃ fd : FuncData, (∀ (s : Shared) (v : Value), BindsTo s fd ⟨[v], []⟩ [("_law_script", v)]) ∧ ∀ K2 : PySem.W.Frag, Sub K K2 → ∀ base : Heap, K2.In base → base.Ns mainGlobals mg → base.NoSeer → FnOk l.prog w K2 mg base CX0 42 fa fd ["_law_script"] (spL K2) := by
  have e := hfa.symm.trans (PySem.W.mg_of X G a45)
  cases e
  refine ⟨PySem.W.fnOf "law" "law" (defArgs slaw) (defBody slaw) (defScope slaw) .none kV45 dc45 pm45 an45 cd45 ct45, fun s v => .of_eq rfl, fun K2 sb base _ _ hs => ?_⟩
  have y0 := PySem.W.mg_none_of X G z0
  have y1 := PySem.W.mg_none_of X G z1
  have y2 := PySem.W.mg_none_of X G z2
  have y3 := PySem.W.mg_none_of X G z3
  have y4 := PySem.W.mg_none_of X G z4
  have y5 := PySem.W.mg_none_of X G z5
  have y6 := PySem.W.mg_none_of X G z6
  have y7 := PySem.W.mg_none_of X G z7
  have y8 := PySem.W.mg_none_of X G z8
  have y9 := PySem.W.mg_none_of X G z9
  have y10 := PySem.W.mg_none_of X G z10
  have y11 := PySem.W.mg_none_of X G z11
  have y12 := PySem.W.mg_none_of X G z12
  have O : ObOk K2 Cl := ⟨⟨sb.plainGet pg, sb.hasDict hd, sb.over po, sb.find sa⟩, sb.find n0, sb.find n1, sb.find n2, sb.find n3⟩
  have FI := fun_mk (K := K2) (st := sI) (sb _ _ lI) (sb.code cI) (sb.keep kI)
  have bI := FI.binds (ps := ["self", "dim", "rows", "corners", "rays"]) fun _ _ _ _ _ _ us hl => match us, hl with | [_, _, _, _, _], _ => rfl
  have MC : C8.Mak l.prog w K2 mg base 1 "Body" Cl (spI Cl) [] := ⟨⟨_, _, _, _, ⟨sb.makes mkC, sb.find aI, sb.isFn iI, sb.keep kC⟩, init_ok (P := l.prog) O FI scI ⟨_, _, _, _, rfl, ⟨rfl, rfl, rfl⟩, ⟨rfl, rfl, rfl⟩, ⟨rfl, rfl, rfl⟩, ⟨rfl, rfl, rfl⟩⟩, PySem.W.mg_of X G aC, bI, .nil⟩⟩
  have F1 := fun_mk (K := K2) (st := s_law_begun) (sb _ _ l1) (sb.code c1) (sb.keep k1)
  have G1 : FnOk l.prog w K2 mg base CX0 34 _ _ ["_law_script"] (spD K2 Cl 1 f_law_begun) := e_law_begun ▸ def_ok (k := 33) (cl := Cl) (c := c_law_begun) F1 sc_law_begun rfl rfl ⟨hs, tr, by decide, ks_nil, (fun h => nomatch h), cls_nil, mt_nil, (bn_cons y0 (bn_cons y1 bn_nil)), tab_nil⟩
  have b1 := F1.binds (ps := ["_law_script"]) fun _ _ _ _ _ _ us hl => match us, hl with | [_], _ => rfl
  have F2 := fun_mk (K := K2) (st := s_law_taken) (sb _ _ l2) (sb.code c2) (sb.keep k2)
  have G2 : FnOk l.prog w K2 mg base CX0 34 _ _ ["_law_s", "_law_most_here"] (spD K2 Cl 2 f_law_taken) := e_law_taken ▸ def_ok (k := 33) (cl := Cl) (c := c_law_taken) F2 sc_law_taken rfl rfl ⟨hs, tr, by decide, ks_nil, (fun h => nomatch h), cls_nil, mt_nil, (bn_cons y1 (bn_cons y0 bn_nil)), tab_nil⟩
  have b2 := F2.binds (ps := ["_law_s", "_law_most_here"]) fun _ _ _ _ _ _ us hl => match us, hl with | [_, _], _ => rfl
  have F3 := fun_mk (K := K2) (st := s_law_dim) (sb _ _ l3) (sb.code c3) (sb.keep k3)
  have G3 : FnOk l.prog w K2 mg base CX0 35 _ _ ["_law_s"] (spD K2 Cl 1 f_law_dim) := e_law_dim ▸ def_ok (k := 34) (cl := Cl) (c := c_law_dim) F3 sc_law_dim rfl rfl ⟨hs, tr, by decide, ks_nil, (fun h => nomatch h), cls_nil, mt_nil, bn_nil, (tab_cons (G := f_law_taken) rfl (Tb.mk G2 (by decide) (PySem.W.mg_of X G a2) (sb.keep k2) b2 rfl rfl rfl) tab_nil)⟩
  have b3 := F3.binds (ps := ["_law_s"]) fun _ _ _ _ _ _ us hl => match us, hl with | [_], _ => rfl
  have F4 := fun_mk (K := K2) (st := sis_whole) (sb _ _ l4) (sb.code c4) (sb.keep k4)
  have G4 : FnOk l.prog w K2 mg base CX0 34 _ _ ["number"] (spD K2 Cl 1 fis_whole) := eis_whole ▸ def_ok (k := 33) (cl := Cl) (c := cis_whole) F4 scis_whole rfl rfl ⟨hs, tr, by decide, ks_nil, (fun h => nomatch h), cls_nil, mt_nil, (bn_cons y2 (bn_cons y0 (bn_cons y3 bn_nil))), tab_nil⟩
  have b4 := F4.binds (ps := ["number"]) fun _ _ _ _ _ _ us hl => match us, hl with | [_], _ => rfl
  have F5 := fun_mk (K := K2) (st := sneed_dim) (sb _ _ l5) (sb.code c5) (sb.keep k5)
  have G5 : FnOk l.prog w K2 mg base CX0 35 _ _ ["dim"] (spD K2 Cl 1 fneed_dim) := eneed_dim ▸ def_ok (k := 34) (cl := Cl) (c := cneed_dim) F5 scneed_dim rfl rfl ⟨hs, tr, by decide, (ks_cons (PySem.W.mg_of X G q0) ks_nil), (fun h => nomatch h), cls_nil, mt_nil, bn_nil, (tab_cons (G := fis_whole) rfl (Tb.mk G4 (by decide) (PySem.W.mg_of X G a4) (sb.keep k4) b4 rfl rfl rfl) tab_nil)⟩
  have b5 := F5.binds (ps := ["dim"]) fun _ _ _ _ _ _ us hl => match us, hl with | [_], _ => rfl
  have F6 := fun_mk (K := K2) (st := sis_row) (sb _ _ l6) (sb.code c6) (sb.keep k6)
  have G6 : FnOk l.prog w K2 mg base CX0 35 _ _ ["numbers", "many"] (spD K2 Cl 2 fis_row) := eis_row ▸ def_ok (k := 34) (cl := Cl) (c := cis_row) F6 scis_row rfl rfl ⟨hs, tr, by decide, ks_nil, (fun h => nomatch h), cls_nil, mt_nil, (bn_cons y2 (bn_cons y4 (bn_cons y5 (bn_cons y1 bn_nil)))), (tab_cons (G := fis_whole) rfl (Tb.mk G4 (by decide) (PySem.W.mg_of X G a4) (sb.keep k4) b4 rfl rfl rfl) tab_nil)⟩
  have b6 := F6.binds (ps := ["numbers", "many"]) fun _ _ _ _ _ _ us hl => match us, hl with | [_, _], _ => rfl
  have F7 := fun_mk (K := K2) (st := sneed_rows) (sb _ _ l7) (sb.code c7) (sb.keep k7)
  have G7 : FnOk l.prog w K2 mg base CX0 36 _ _ ["dim", "rows"] (spD K2 Cl 2 fneed_rows) := eneed_rows ▸ def_ok (k := 35) (cl := Cl) (c := cneed_rows) F7 scneed_rows rfl rfl ⟨hs, tr, by decide, ks_nil, (fun h => nomatch h), cls_nil, mt_nil, (bn_cons y2 (bn_cons y6 (bn_cons y4 (bn_cons y1 bn_nil)))), (tab_cons (G := fneed_dim) rfl (Tb.mk G5 (by decide) (PySem.W.mg_of X G a5) (sb.keep k5) b5 rfl rfl rfl) (tab_cons (G := fis_row) rfl (Tb.mk G6 (by decide) (PySem.W.mg_of X G a6) (sb.keep k6) b6 rfl rfl rfl) (tab_cons (G := fis_whole) rfl (Tb.mk G4 (by decide) (PySem.W.mg_of X G a4) (sb.keep k4) b4 rfl rfl rfl) tab_nil)))⟩
  have b7 := F7.binds (ps := ["dim", "rows"]) fun _ _ _ _ _ _ us hl => match us, hl with | [_, _], _ => rfl
  have F8 := fun_mk (K := K2) (st := sunit) (sb _ _ l8) (sb.code c8) (sb.keep k8)
  have G8 : FnOk l.prog w K2 mg base CX0 34 _ _ ["size", "place"] (spD K2 Cl 2 funit) := eunit ▸ def_ok (k := 33) (cl := Cl) (c := cunit) F8 scunit rfl rfl ⟨hs, tr, by decide, ks_nil, (fun h => nomatch h), cls_nil, mt_nil, (bn_cons y4 (bn_cons y0 (bn_cons y7 bn_nil))), tab_nil⟩
  have b8 := F8.binds (ps := ["size", "place"]) fun _ _ _ _ _ _ us hl => match us, hl with | [_, _], _ => rfl
  have F9 := fun_mk (K := K2) (st := sdot) (sb _ _ l9) (sb.code c9) (sb.keep k9)
  have G9 : FnOk l.prog w K2 mg base CX0 34 _ _ ["one", "other"] (spD K2 Cl 2 fdot) := edot ▸ def_ok (k := 33) (cl := Cl) (c := cdot) F9 scdot rfl rfl ⟨hs, tr, by decide, ks_nil, (fun h => nomatch h), cls_nil, mt_nil, (bn_cons y8 (bn_cons y9 bn_nil)), tab_nil⟩
  have b9 := F9.binds (ps := ["one", "other"]) fun _ _ _ _ _ _ us hl => match us, hl with | [_, _], _ => rfl
  have F10 := fun_mk (K := K2) (st := sopposite) (sb _ _ l10) (sb.code c10) (sb.keep k10)
  have G10 : FnOk l.prog w K2 mg base CX0 34 _ _ ["numbers"] (spD K2 Cl 1 fopposite) := eopposite ▸ def_ok (k := 33) (cl := Cl) (c := copposite) F10 scopposite rfl rfl ⟨hs, tr, by decide, ks_nil, (fun h => nomatch h), cls_nil, mt_nil, (bn_cons y4 bn_nil), tab_nil⟩
  have b10 := F10.binds (ps := ["numbers"]) fun _ _ _ _ _ _ us hl => match us, hl with | [_], _ => rfl
  have F11 := fun_mk (K := K2) (st := sdivisor) (sb _ _ l11) (sb.code c11) (sb.keep k11)
  have G11 : FnOk l.prog w K2 mg base CX0 34 _ _ ["one", "other"] (spD K2 Cl 2 fdivisor) := edivisor ▸ def_ok (k := 33) (cl := Cl) (c := cdivisor) F11 scdivisor rfl rfl ⟨hs, tr, by decide, ks_nil, (fun h => nomatch h), cls_nil, mt_nil, (bn_cons y10 bn_nil), tab_nil⟩
  have b11 := F11.binds (ps := ["one", "other"]) fun _ _ _ _ _ _ us hl => match us, hl with | [_, _], _ => rfl
  have F12 := fun_mk (K := K2) (st := slowest) (sb _ _ l12) (sb.code c12) (sb.keep k12)
  have G12 : FnOk l.prog w K2 mg base CX0 35 _ _ ["numbers"] (spD K2 Cl 1 flowest) := elowest ▸ def_ok (k := 34) (cl := Cl) (c := clowest) F12 sclowest rfl rfl ⟨hs, tr, by decide, ks_nil, (fun h => nomatch h), cls_nil, mt_nil, (bn_cons y4 bn_nil), (tab_cons (G := fdivisor) rfl (Tb.mk G11 (by decide) (PySem.W.mg_of X G a11) (sb.keep k11) b11 rfl rfl rfl) tab_nil)⟩
  have b12 := F12.binds (ps := ["numbers"]) fun _ _ _ _ _ _ us hl => match us, hl with | [_], _ => rfl
  have F13 := fun_mk (K := K2) (st := sblend) (sb _ _ l13) (sb.code c13) (sb.keep k13)
  have G13 : FnOk l.prog w K2 mg base CX0 36 _ _ ["one", "many", "other", "more"] (spD K2 Cl 4 fblend) := eblend ▸ def_ok (k := 35) (cl := Cl) (c := cblend) F13 scblend rfl rfl ⟨hs, tr, by decide, ks_nil, (fun h => nomatch h), cls_nil, mt_nil, (bn_cons y9 bn_nil), (tab_cons (G := flowest) rfl (Tb.mk G12 (by decide) (PySem.W.mg_of X G a12) (sb.keep k12) b12 rfl rfl rfl) tab_nil)⟩
  have b13 := F13.binds (ps := ["one", "many", "other", "more"]) fun _ _ _ _ _ _ us hl => match us, hl with | [_, _, _, _], _ => rfl
  have F14 := fun_mk (K := K2) (st := sturned_line) (sb _ _ l14) (sb.code c14) (sb.keep k14)
  have G14 : FnOk l.prog w K2 mg base CX0 37 _ _ ["lines", "rays", "row", "first"] (spD K2 Cl 4 fturned_line) := eturned_line ▸ def_ok (k := 36) (cl := Cl) (c := cturned_line) F14 scturned_line rfl rfl ⟨hs, tr, by decide, ks_nil, (fun h => nomatch h), cls_nil, mt_nil, bn_nil, (tab_cons (G := fdot) rfl (Tb.mk G9 (by decide) (PySem.W.mg_of X G a9) (sb.keep k9) b9 rfl rfl rfl) (tab_cons (G := fopposite) rfl (Tb.mk G10 (by decide) (PySem.W.mg_of X G a10) (sb.keep k10) b10 rfl rfl rfl) (tab_cons (G := fblend) rfl (Tb.mk G13 (by decide) (PySem.W.mg_of X G a13) (sb.keep k13) b13 rfl rfl rfl) tab_nil)))⟩
  have b14 := F14.binds (ps := ["lines", "rays", "row", "first"]) fun _ _ _ _ _ _ us hl => match us, hl with | [_, _, _, _], _ => rfl
  have F15 := fun_mk (K := K2) (st := shas_all) (sb _ _ l15) (sb.code c15) (sb.keep k15)
  have G15 : FnOk l.prog w K2 mg base CX0 34 _ _ ["some", "others"] (spD K2 Cl 2 fhas_all) := ehas_all ▸ def_ok (k := 33) (cl := Cl) (c := chas_all) F15 schas_all rfl rfl ⟨hs, tr, by decide, ks_nil, (fun h => nomatch h), cls_nil, mt_nil, bn_nil, tab_nil⟩
  have b15 := F15.binds (ps := ["some", "others"]) fun _ _ _ _ _ _ us hl => match us, hl with | [_, _], _ => rfl
  have F16 := fun_mk (K := K2) (st := sside_by_side) (sb _ _ l16) (sb.code c16) (sb.keep k16)
  have G16 : FnOk l.prog w K2 mg base CX0 35 _ _ ["tight", "one", "other", "least"] (spD K2 Cl 4 fside_by_side) := eside_by_side ▸ def_ok (k := 34) (cl := Cl) (c := cside_by_side) F16 scside_by_side rfl rfl ⟨hs, tr, by decide, ks_nil, (fun h => nomatch h), cls_nil, mt_nil, (bn_cons y7 (bn_cons y1 bn_nil)), (tab_cons (G := fhas_all) rfl (Tb.mk G15 (by decide) (PySem.W.mg_of X G a15) (sb.keep k15) b15 rfl rfl rfl) tab_nil)⟩
  have b16 := F16.binds (ps := ["tight", "one", "other", "least"]) fun _ _ _ _ _ _ us hl => match us, hl with | [_, _, _, _], _ => rfl
  have F17 := fun_mk (K := K2) (st := scut_rays) (sb _ _ l17) (sb.code c17) (sb.keep k17)
  have G17 : FnOk l.prog w K2 mg base CX0 37 _ _ ["rays", "row", "tight", "least"] (spD K2 Cl 4 fcut_rays) := ecut_rays ▸ def_ok (k := 36) (cl := Cl) (c := ccut_rays) F17 sccut_rays rfl rfl ⟨hs, tr, by decide, ks_nil, (fun h => nomatch h), cls_nil, mt_nil, (bn_cons y7 (bn_cons y1 bn_nil)), (tab_cons (G := fdot) rfl (Tb.mk G9 (by decide) (PySem.W.mg_of X G a9) (sb.keep k9) b9 rfl rfl rfl) (tab_cons (G := fside_by_side) rfl (Tb.mk G16 (by decide) (PySem.W.mg_of X G a16) (sb.keep k16) b16 rfl rfl rfl) (tab_cons (G := fblend) rfl (Tb.mk G13 (by decide) (PySem.W.mg_of X G a13) (sb.keep k13) b13 rfl rfl rfl) tab_nil)))⟩
  have b17 := F17.binds (ps := ["rays", "row", "tight", "least"]) fun _ _ _ _ _ _ us hl => match us, hl with | [_, _, _, _], _ => rfl
  have F18 := fun_mk (K := K2) (st := stight_of) (sb _ _ l18) (sb.code c18) (sb.keep k18)
  have G18 : FnOk l.prog w K2 mg base CX0 35 _ _ ["rows", "ray"] (spD K2 Cl 2 ftight_of) := etight_of ▸ def_ok (k := 34) (cl := Cl) (c := ctight_of) F18 sctight_of rfl rfl ⟨hs, tr, by decide, ks_nil, (fun h => nomatch h), cls_nil, mt_nil, (bn_cons y7 (bn_cons y1 bn_nil)), (tab_cons (G := fdot) rfl (Tb.mk G9 (by decide) (PySem.W.mg_of X G a9) (sb.keep k9) b9 rfl rfl rfl) tab_nil)⟩
  have b18 := F18.binds (ps := ["rows", "ray"]) fun _ _ _ _ _ _ us hl => match us, hl with | [_, _], _ => rfl
  have F19 := fun_mk (K := K2) (st := scone) (sb _ _ l19) (sb.code c19) (sb.keep k19)
  have G19 : FnOk l.prog w K2 mg base CX0 38 _ _ ["rows", "size"] (spD K2 Cl 2 fcone) := econe ▸ def_ok (k := 37) (cl := Cl) (c := ccone) F19 sccone rfl rfl ⟨hs, tr, by decide, ks_nil, (fun h => nomatch h), cls_nil, mt_nil, (bn_cons y7 (bn_cons y1 bn_nil)), (tab_cons (G := funit) rfl (Tb.mk G8 (by decide) (PySem.W.mg_of X G a8) (sb.keep k8) b8 rfl rfl rfl) (tab_cons (G := fturned_line) rfl (Tb.mk G14 (by decide) (PySem.W.mg_of X G a14) (sb.keep k14) b14 rfl rfl rfl) (tab_cons (G := fcut_rays) rfl (Tb.mk G17 (by decide) (PySem.W.mg_of X G a17) (sb.keep k17) b17 rfl rfl rfl) (tab_cons (G := ftight_of) rfl (Tb.mk G18 (by decide) (PySem.W.mg_of X G a18) (sb.keep k18) b18 rfl rfl rfl) (tab_cons (G := fdot) rfl (Tb.mk G9 (by decide) (PySem.W.mg_of X G a9) (sb.keep k9) b9 rfl rfl rfl) tab_nil)))))⟩
  have b19 := F19.binds (ps := ["rows", "size"]) fun _ _ _ _ _ _ us hl => match us, hl with | [_, _], _ => rfl
  have F20 := fun_mk (K := K2) (st := swith_opposites) (sb _ _ l20) (sb.code c20) (sb.keep k20)
  have G20 : FnOk l.prog w K2 mg base CX0 35 _ _ ["lines", "rays"] (spD K2 Cl 2 fwith_opposites) := ewith_opposites ▸ def_ok (k := 34) (cl := Cl) (c := cwith_opposites) F20 scwith_opposites rfl rfl ⟨hs, tr, by decide, ks_nil, (fun h => nomatch h), cls_nil, mt_nil, bn_nil, (tab_cons (G := fopposite) rfl (Tb.mk G10 (by decide) (PySem.W.mg_of X G a10) (sb.keep k10) b10 rfl rfl rfl) tab_nil)⟩
  have b20 := F20.binds (ps := ["lines", "rays"]) fun _ _ _ _ _ _ us hl => match us, hl with | [_, _], _ => rfl
  have F21 := fun_mk (K := K2) (st := scorners_of) (sb _ _ l21) (sb.code c21) (sb.keep k21)
  have G21 : FnOk l.prog w K2 mg base CX0 39 _ _ ["dim", "rows"] (spD K2 Cl 2 fcorners_of) := ecorners_of ▸ def_ok (k := 38) (cl := Cl) (c := ccorners_of) F21 sccorners_of rfl rfl ⟨hs, tr, by decide, ks_nil, (fun h => nomatch h), cls_nil, mt_nil, (bn_cons y1 (bn_cons y11 bn_nil)), (tab_cons (G := fcone) rfl (Tb.mk G19 (by decide) (PySem.W.mg_of X G a19) (sb.keep k19) b19 rfl rfl rfl) (tab_cons (G := fwith_opposites) rfl (Tb.mk G20 (by decide) (PySem.W.mg_of X G a20) (sb.keep k20) b20 rfl rfl rfl) (tab_cons (G := funit) rfl (Tb.mk G8 (by decide) (PySem.W.mg_of X G a8) (sb.keep k8) b8 rfl rfl rfl) tab_nil)))⟩
  have b21 := F21.binds (ps := ["dim", "rows"]) fun _ _ _ _ _ _ us hl => match us, hl with | [_, _], _ => rfl
  have F22 := fun_mk (K := K2) (st := srows_of) (sb _ _ l22) (sb.code c22) (sb.keep k22)
  have G22 : FnOk l.prog w K2 mg base CX0 39 _ _ ["dim", "corners", "rays"] (spD K2 Cl 3 frows_of) := erows_of ▸ def_ok (k := 38) (cl := Cl) (c := crows_of) F22 scrows_of rfl rfl ⟨hs, tr, by decide, ks_nil, (fun h => nomatch h), cls_nil, mt_nil, (bn_cons y11 (bn_cons y1 (bn_cons y12 (bn_cons y4 (bn_cons y7 bn_nil))))), (tab_cons (G := fcone) rfl (Tb.mk G19 (by decide) (PySem.W.mg_of X G a19) (sb.keep k19) b19 rfl rfl rfl) (tab_cons (G := fwith_opposites) rfl (Tb.mk G20 (by decide) (PySem.W.mg_of X G a20) (sb.keep k20) b20 rfl rfl rfl) (tab_cons (G := fdot) rfl (Tb.mk G9 (by decide) (PySem.W.mg_of X G a9) (sb.keep k9) b9 rfl rfl rfl) tab_nil)))⟩
  have b22 := F22.binds (ps := ["dim", "corners", "rays"]) fun _ _ _ _ _ _ us hl => match us, hl with | [_, _, _], _ => rfl
  have F23 := fun_mk (K := K2) (st := sby_rows) (sb _ _ l23) (sb.code c23) (sb.keep k23)
  have G23 : FnOk l.prog w K2 mg base CX0 40 _ _ ["dim", "rows"] (spD K2 Cl 2 fby_rows) := eby_rows ▸ def_ok (k := 39) (cl := Cl) (c := cby_rows) F23 scby_rows rfl rfl ⟨hs, tr, by decide, ks_nil, (fun h => nomatch h), (cls_one (by decide) MC rfl), mt_nil, bn_nil, (tab_cons (G := fneed_rows) rfl (Tb.mk G7 (by decide) (PySem.W.mg_of X G a7) (sb.keep k7) b7 rfl rfl rfl) (tab_cons (G := fcorners_of) rfl (Tb.mk G21 (by decide) (PySem.W.mg_of X G a21) (sb.keep k21) b21 rfl rfl rfl) (tab_cons (G := frows_of) rfl (Tb.mk G22 (by decide) (PySem.W.mg_of X G a22) (sb.keep k22) b22 rfl rfl rfl) tab_nil)))⟩
  have b23 := F23.binds (ps := ["dim", "rows"]) fun _ _ _ _ _ _ us hl => match us, hl with | [_, _], _ => rfl
  have F24 := fun_mk (K := K2) (st := sis_point) (sb _ _ l24) (sb.code c24) (sb.keep k24)
  have G24 : FnOk l.prog w K2 mg base CX0 36 _ _ ["dim", "point"] (spD K2 Cl 2 fis_point) := eis_point ▸ def_ok (k := 35) (cl := Cl) (c := cis_point) F24 scis_point rfl rfl ⟨hs, tr, by decide, ks_nil, (fun h => nomatch h), cls_nil, mt_nil, (bn_cons y2 (bn_cons y4 (bn_cons y1 bn_nil))), (tab_cons (G := fis_whole) rfl (Tb.mk G4 (by decide) (PySem.W.mg_of X G a4) (sb.keep k4) b4 rfl rfl rfl) (tab_cons (G := fis_row) rfl (Tb.mk G6 (by decide) (PySem.W.mg_of X G a6) (sb.keep k6) b6 rfl rfl rfl) tab_nil))⟩
  have b24 := F24.binds (ps := ["dim", "point"]) fun _ _ _ _ _ _ us hl => match us, hl with | [_, _], _ => rfl
  have F25 := fun_mk (K := K2) (st := sneed_point) (sb _ _ l25) (sb.code c25) (sb.keep k25)
  have G25 : FnOk l.prog w K2 mg base CX0 37 _ _ ["dim", "point"] (spD K2 Cl 2 fneed_point) := eneed_point ▸ def_ok (k := 36) (cl := Cl) (c := cneed_point) F25 scneed_point rfl rfl ⟨hs, tr, by decide, ks_nil, (fun h => nomatch h), cls_nil, mt_nil, bn_nil, (tab_cons (G := fis_point) rfl (Tb.mk G24 (by decide) (PySem.W.mg_of X G a24) (sb.keep k24) b24 rfl rfl rfl) tab_nil)⟩
  have b25 := F25.binds (ps := ["dim", "point"]) fun _ _ _ _ _ _ us hl => match us, hl with | [_, _], _ => rfl
  have F26 := fun_mk (K := K2) (st := sneed_corners) (sb _ _ l26) (sb.code c26) (sb.keep k26)
  have G26 : FnOk l.prog w K2 mg base CX0 38 _ _ ["dim", "corners", "rays"] (spD K2 Cl 3 fneed_corners) := eneed_corners ▸ def_ok (k := 37) (cl := Cl) (c := cneed_corners) F26 scneed_corners rfl rfl ⟨hs, tr, by decide, ks_nil, (fun h => nomatch h), cls_nil, mt_nil, (bn_cons y2 (bn_cons y6 (bn_cons y12 bn_nil))), (tab_cons (G := fneed_dim) rfl (Tb.mk G5 (by decide) (PySem.W.mg_of X G a5) (sb.keep k5) b5 rfl rfl rfl) (tab_cons (G := fneed_point) rfl (Tb.mk G25 (by decide) (PySem.W.mg_of X G a25) (sb.keep k25) b25 rfl rfl rfl) (tab_cons (G := fis_row) rfl (Tb.mk G6 (by decide) (PySem.W.mg_of X G a6) (sb.keep k6) b6 rfl rfl rfl) tab_nil)))⟩
  have b26 := F26.binds (ps := ["dim", "corners", "rays"]) fun _ _ _ _ _ _ us hl => match us, hl with | [_, _, _], _ => rfl
  have F27 := fun_mk (K := K2) (st := sby_corners) (sb _ _ l27) (sb.code c27) (sb.keep k27)
  have G27 : FnOk l.prog w K2 mg base CX0 40 _ _ ["dim", "corners", "rays"] (spD K2 Cl 3 fby_corners) := eby_corners ▸ def_ok (k := 39) (cl := Cl) (c := cby_corners) F27 scby_corners rfl rfl ⟨hs, tr, by decide, ks_nil, (fun h => nomatch h), (cls_one (by decide) MC rfl), mt_nil, bn_nil, (tab_cons (G := fneed_corners) rfl (Tb.mk G26 (by decide) (PySem.W.mg_of X G a26) (sb.keep k26) b26 rfl rfl rfl) (tab_cons (G := frows_of) rfl (Tb.mk G22 (by decide) (PySem.W.mg_of X G a22) (sb.keep k22) b22 rfl rfl rfl) (tab_cons (G := fcorners_of) rfl (Tb.mk G21 (by decide) (PySem.W.mg_of X G a21) (sb.keep k21) b21 rfl rfl rfl) tab_nil)))⟩
  have b27 := F27.binds (ps := ["dim", "corners", "rays"]) fun _ _ _ _ _ _ us hl => match us, hl with | [_, _, _], _ => rfl
  have F28 := fun_mk (K := K2) (st := s_law_number) (sb _ _ l28) (sb.code c28) (sb.keep k28)
  have G28 : FnOk l.prog w K2 mg base CX0 35 _ _ ["_law_s", "_law_wide"] (spD K2 Cl 2 f_law_number) := e_law_number ▸ def_ok (k := 34) (cl := Cl) (c := c_law_number) F28 sc_law_number rfl rfl ⟨hs, tr, by decide, ks_nil, (fun h => nomatch h), cls_nil, mt_nil, bn_nil, (tab_cons (G := f_law_taken) rfl (Tb.mk G2 (by decide) (PySem.W.mg_of X G a2) (sb.keep k2) b2 rfl rfl rfl) tab_nil)⟩
  have b28 := F28.binds (ps := ["_law_s", "_law_wide"]) fun _ _ _ _ _ _ us hl => match us, hl with | [_, _], _ => rfl
  have F29 := fun_mk (K := K2) (st := s_law_numbers) (sb _ _ l29) (sb.code c29) (sb.keep k29)
  have G29 : FnOk l.prog w K2 mg base CX0 36 _ _ ["_law_s", "_law_many", "_law_wide"] (spD K2 Cl 3 f_law_numbers) := e_law_numbers ▸ def_ok (k := 35) (cl := Cl) (c := c_law_numbers) F29 sc_law_numbers rfl rfl ⟨hs, tr, by decide, ks_nil, (fun h => nomatch h), cls_nil, mt_nil, (bn_cons y4 (bn_cons y7 bn_nil)), (tab_cons (G := f_law_number) rfl (Tb.mk G28 (by decide) (PySem.W.mg_of X G a28) (sb.keep k28) b28 rfl rfl rfl) tab_nil)⟩
  have b29 := F29.binds (ps := ["_law_s", "_law_many", "_law_wide"]) fun _ _ _ _ _ _ us hl => match us, hl with | [_, _, _], _ => rfl
  have F30 := fun_mk (K := K2) (st := s_law_rows) (sb _ _ l30) (sb.code c30) (sb.keep k30)
  have G30 : FnOk l.prog w K2 mg base CX0 37 _ _ ["_law_s", "_law_dim_here", "_law_many"] (spD K2 Cl 3 f_law_rows) := e_law_rows ▸ def_ok (k := 36) (cl := Cl) (c := c_law_rows) F30 sc_law_rows rfl rfl ⟨hs, tr, by decide, ks_nil, (fun h => nomatch h), cls_nil, mt_nil, (bn_cons y7 (bn_cons y4 (bn_cons y1 (bn_cons y0 bn_nil)))), (tab_cons (G := f_law_taken) rfl (Tb.mk G2 (by decide) (PySem.W.mg_of X G a2) (sb.keep k2) b2 rfl rfl rfl) (tab_cons (G := f_law_numbers) rfl (Tb.mk G29 (by decide) (PySem.W.mg_of X G a29) (sb.keep k29) b29 rfl rfl rfl) (tab_cons (G := f_law_number) rfl (Tb.mk G28 (by decide) (PySem.W.mg_of X G a28) (sb.keep k28) b28 rfl rfl rfl) tab_nil)))⟩
  have b30 := F30.binds (ps := ["_law_s", "_law_dim_here", "_law_many"]) fun _ _ _ _ _ _ us hl => match us, hl with | [_, _, _], _ => rfl
  have F31 := fun_mk (K := K2) (st := s_law_point) (sb _ _ l31) (sb.code c31) (sb.keep k31)
  have G31 : FnOk l.prog w K2 mg base CX0 37 _ _ ["_law_s", "_law_dim_here", "_law_wide"] (spD K2 Cl 3 f_law_point) := e_law_point ▸ def_ok (k := 36) (cl := Cl) (c := c_law_point) F31 sc_law_point rfl rfl ⟨hs, tr, by decide, ks_nil, (fun h => nomatch h), cls_nil, mt_nil, bn_nil, (tab_cons (G := f_law_numbers) rfl (Tb.mk G29 (by decide) (PySem.W.mg_of X G a29) (sb.keep k29) b29 rfl rfl rfl) (tab_cons (G := f_law_taken) rfl (Tb.mk G2 (by decide) (PySem.W.mg_of X G a2) (sb.keep k2) b2 rfl rfl rfl) tab_nil))⟩
  have b31 := F31.binds (ps := ["_law_s", "_law_dim_here", "_law_wide"]) fun _ _ _ _ _ _ us hl => match us, hl with | [_, _, _], _ => rfl
  have F32 := fun_mk (K := K2) (st := s_law_corners) (sb _ _ l32) (sb.code c32) (sb.keep k32)
  have G32 : FnOk l.prog w K2 mg base CX0 38 _ _ ["_law_s", "_law_dim_here", "_law_many"] (spD K2 Cl 3 f_law_corners) := e_law_corners ▸ def_ok (k := 37) (cl := Cl) (c := c_law_corners) F32 sc_law_corners rfl rfl ⟨hs, tr, by decide, ks_nil, (fun h => nomatch h), cls_nil, mt_nil, (bn_cons y7 bn_nil), (tab_cons (G := f_law_point) rfl (Tb.mk G31 (by decide) (PySem.W.mg_of X G a31) (sb.keep k31) b31 rfl rfl rfl) (tab_cons (G := f_law_taken) rfl (Tb.mk G2 (by decide) (PySem.W.mg_of X G a2) (sb.keep k2) b2 rfl rfl rfl) tab_nil))⟩
  have b32 := F32.binds (ps := ["_law_s", "_law_dim_here", "_law_many"]) fun _ _ _ _ _ _ us hl => match us, hl with | [_, _, _], _ => rfl
  have F33 := fun_mk (K := K2) (st := s_law_ray) (sb _ _ l33) (sb.code c33) (sb.keep k33)
  have G33 : FnOk l.prog w K2 mg base CX0 37 _ _ ["_law_s", "_law_dim_here", "_law_wide"] (spD K2 Cl 3 f_law_ray) := e_law_ray ▸ def_ok (k := 36) (cl := Cl) (c := c_law_ray) F33 sc_law_ray rfl rfl ⟨hs, tr, by decide, ks_nil, (fun h => nomatch h), cls_nil, mt_nil, (bn_cons y4 (bn_cons y0 (bn_cons y7 bn_nil))), (tab_cons (G := f_law_numbers) rfl (Tb.mk G29 (by decide) (PySem.W.mg_of X G a29) (sb.keep k29) b29 rfl rfl rfl) (tab_cons (G := f_law_taken) rfl (Tb.mk G2 (by decide) (PySem.W.mg_of X G a2) (sb.keep k2) b2 rfl rfl rfl) tab_nil))⟩
  have b33 := F33.binds (ps := ["_law_s", "_law_dim_here", "_law_wide"]) fun _ _ _ _ _ _ us hl => match us, hl with | [_, _, _], _ => rfl
  have F34 := fun_mk (K := K2) (st := s_law_rays) (sb _ _ l34) (sb.code c34) (sb.keep k34)
  have G34 : FnOk l.prog w K2 mg base CX0 38 _ _ ["_law_s", "_law_dim_here", "_law_many"] (spD K2 Cl 3 f_law_rays) := e_law_rays ▸ def_ok (k := 37) (cl := Cl) (c := c_law_rays) F34 sc_law_rays rfl rfl ⟨hs, tr, by decide, ks_nil, (fun h => nomatch h), cls_nil, mt_nil, (bn_cons y7 (bn_cons y4 (bn_cons y1 bn_nil))), (tab_cons (G := f_law_taken) rfl (Tb.mk G2 (by decide) (PySem.W.mg_of X G a2) (sb.keep k2) b2 rfl rfl rfl) (tab_cons (G := f_law_ray) rfl (Tb.mk G33 (by decide) (PySem.W.mg_of X G a33) (sb.keep k33) b33 rfl rfl rfl) tab_nil))⟩
  have b34 := F34.binds (ps := ["_law_s", "_law_dim_here", "_law_many"]) fun _ _ _ _ _ _ us hl => match us, hl with | [_, _, _], _ => rfl
  have F35 := fun_mk (K := K2) (st := s_law_most) (sb _ _ l35) (sb.code c35) (sb.keep k35)
  have G35 : FnOk l.prog w K2 mg base CX0 34 _ _ ["_law_dim_here"] (spD K2 Cl 1 f_law_most) := e_law_most ▸ def_ok (k := 33) (cl := Cl) (c := c_law_most) F35 sc_law_most rfl rfl ⟨hs, tr, by decide, ks_nil, (fun h => nomatch h), cls_nil, mt_nil, bn_nil, tab_nil⟩
  have b35 := F35.binds (ps := ["_law_dim_here"]) fun _ _ _ _ _ _ us hl => match us, hl with | [_], _ => rfl
  have F36 := fun_mk (K := K2) (st := s_law_body) (sb _ _ l36) (sb.code c36) (sb.keep k36)
  have G36 : FnOk l.prog w K2 mg base CX0 41 _ _ ["_law_s", "_law_dim_here"] (spD K2 Cl 2 f_law_body) := e_law_body ▸ def_ok (k := 40) (cl := Cl) (c := c_law_body) F36 sc_law_body rfl rfl ⟨hs, tr, by decide, ks_nil, (fun h => nomatch h), cls_nil, mt_nil, bn_nil, (tab_cons (G := fby_rows) rfl (Tb.mk G23 (by decide) (PySem.W.mg_of X G a23) (sb.keep k23) b23 rfl rfl rfl) (tab_cons (G := f_law_taken) rfl (Tb.mk G2 (by decide) (PySem.W.mg_of X G a2) (sb.keep k2) b2 rfl rfl rfl) (tab_cons (G := fby_corners) rfl (Tb.mk G27 (by decide) (PySem.W.mg_of X G a27) (sb.keep k27) b27 rfl rfl rfl) (tab_cons (G := f_law_rows) rfl (Tb.mk G30 (by decide) (PySem.W.mg_of X G a30) (sb.keep k30) b30 rfl rfl rfl) (tab_cons (G := f_law_corners) rfl (Tb.mk G32 (by decide) (PySem.W.mg_of X G a32) (sb.keep k32) b32 rfl rfl rfl) (tab_cons (G := f_law_rays) rfl (Tb.mk G34 (by decide) (PySem.W.mg_of X G a34) (sb.keep k34) b34 rfl rfl rfl) (tab_cons (G := f_law_most) rfl (Tb.mk G35 (by decide) (PySem.W.mg_of X G a35) (sb.keep k35) b35 rfl rfl rfl) tab_nil)))))))⟩
  have b36 := F36.binds (ps := ["_law_s", "_law_dim_here"]) fun _ _ _ _ _ _ us hl => match us, hl with | [_, _], _ => rfl
  have F37 := fun_mk (K := K2) (st := spoint_of) (sb _ _ l37) (sb.code c37) (sb.keep k37)
  have G37 : FnOk l.prog w K2 mg base CX0 36 _ _ ["numbers"] (spD K2 Cl 1 fpoint_of) := epoint_of ▸ def_ok (k := 35) (cl := Cl) (c := cpoint_of) F37 scpoint_of rfl rfl ⟨hs, tr, by decide, ks_nil, (fun h => nomatch h), cls_nil, mt_nil, bn_nil, (tab_cons (G := flowest) rfl (Tb.mk G12 (by decide) (PySem.W.mg_of X G a12) (sb.keep k12) b12 rfl rfl rfl) tab_nil)⟩
  have b37 := F37.binds (ps := ["numbers"]) fun _ _ _ _ _ _ us hl => match us, hl with | [_], _ => rfl
  have F38 := fun_mk (K := K2) (st := sBody_is_empty) (sb _ _ l38) (sb.code c38) (sb.keep k38)
  have G38 : FnOk l.prog w K2 mg base CX0 34 _ _ ["self"] (spD K2 Cl 1 fBody_is_empty) := eBody_is_empty ▸ def_ok (k := 33) (cl := Cl) (c := cBody_is_empty) F38 scBody_is_empty rfl rfl ⟨hs, tr, by decide, ks_nil, (fun _ => O), cls_nil, mt_nil, (bn_cons y1 bn_nil), tab_nil⟩
  have b38 := F38.binds (ps := ["self"]) fun _ _ _ _ _ _ us hl => match us, hl with | [_], _ => rfl
  have F39 := fun_mk (K := K2) (st := sinner) (sb _ _ l39) (sb.code c39) (sb.keep k39)
  have G39 : FnOk l.prog w K2 mg base CX0 37 _ _ ["body"] (spD K2 Cl 1 finner) := einner ▸ def_ok (k := 36) (cl := Cl) (c := cinner) F39 scinner rfl rfl ⟨hs, tr, by decide, ks_nil, (fun _ => O), cls_nil, (mt_cons (G := fBody_is_empty) rfl (Mb.mk O ⟨sb.find a38, sb.isFn i38, sb.keep k38⟩ G38 (by decide) b38 (by decide) rfl rfl) mt_nil), (bn_cons y1 (bn_cons y7 (bn_cons y4 bn_nil))), (tab_cons (G := fpoint_of) rfl (Tb.mk G37 (by decide) (PySem.W.mg_of X G a37) (sb.keep k37) b37 rfl rfl rfl) tab_nil)⟩
  have b39 := F39.binds (ps := ["body"]) fun _ _ _ _ _ _ us hl => match us, hl with | [_], _ => rfl
  have F40 := fun_mk (K := K2) (st := s_law_whole) (sb _ _ l40) (sb.code c40) (sb.keep k40)
  have G40 : FnOk l.prog w K2 mg base CX0 34 _ _ ["_law_number_here"] (spD K2 Cl 1 f_law_whole) := e_law_whole ▸ def_ok (k := 33) (cl := Cl) (c := c_law_whole) F40 sc_law_whole rfl rfl ⟨hs, tr, by decide, ks_nil, (fun h => nomatch h), cls_nil, mt_nil, (bn_cons y2 (bn_cons y0 (bn_cons y3 bn_nil))), tab_nil⟩
  have b40 := F40.binds (ps := ["_law_number_here"]) fun _ _ _ _ _ _ us hl => match us, hl with | [_], _ => rfl
  have F41 := fun_mk (K := K2) (st := s_law_is_low) (sb _ _ l41) (sb.code c41) (sb.keep k41)
  have G41 : FnOk l.prog w K2 mg base CX0 34 _ _ ["_law_numbers_here"] (spD K2 Cl 1 f_law_is_low) := e_law_is_low ▸ def_ok (k := 33) (cl := Cl) (c := c_law_is_low) F41 sc_law_is_low rfl rfl ⟨hs, tr, by decide, ks_nil, (fun h => nomatch h), cls_nil, mt_nil, (bn_cons y10 bn_nil), tab_nil⟩
  have b41 := F41.binds (ps := ["_law_numbers_here"]) fun _ _ _ _ _ _ us hl => match us, hl with | [_], _ => rfl
  have F42 := fun_mk (K := K2) (st := s_law_is_numbers) (sb _ _ l42) (sb.code c42) (sb.keep k42)
  have G42 : FnOk l.prog w K2 mg base CX0 35 _ _ ["_law_found", "_law_many"] (spD K2 Cl 2 f_law_is_numbers) := e_law_is_numbers ▸ def_ok (k := 34) (cl := Cl) (c := c_law_is_numbers) F42 sc_law_is_numbers rfl rfl ⟨hs, tr, by decide, ks_nil, (fun h => nomatch h), cls_nil, mt_nil, (bn_cons y2 (bn_cons y4 (bn_cons y5 (bn_cons y1 bn_nil)))), (tab_cons (G := f_law_whole) rfl (Tb.mk G40 (by decide) (PySem.W.mg_of X G a40) (sb.keep k40) b40 rfl rfl rfl) tab_nil)⟩
  have b42 := F42.binds (ps := ["_law_found", "_law_many"]) fun _ _ _ _ _ _ us hl => match us, hl with | [_, _], _ => rfl
  have F43 := fun_mk (K := K2) (st := s_law_is_point) (sb _ _ l43) (sb.code c43) (sb.keep k43)
  have G43 : FnOk l.prog w K2 mg base CX0 36 _ _ ["_law_found", "_law_dim_here"] (spD K2 Cl 2 f_law_is_point) := e_law_is_point ▸ def_ok (k := 35) (cl := Cl) (c := c_law_is_point) F43 sc_law_is_point rfl rfl ⟨hs, tr, by decide, ks_nil, (fun h => nomatch h), cls_nil, mt_nil, (bn_cons y2 (bn_cons y4 (bn_cons y1 bn_nil))), (tab_cons (G := f_law_whole) rfl (Tb.mk G40 (by decide) (PySem.W.mg_of X G a40) (sb.keep k40) b40 rfl rfl rfl) (tab_cons (G := f_law_is_low) rfl (Tb.mk G41 (by decide) (PySem.W.mg_of X G a41) (sb.keep k41) b41 rfl rfl rfl) (tab_cons (G := f_law_is_numbers) rfl (Tb.mk G42 (by decide) (PySem.W.mg_of X G a42) (sb.keep k42) b42 rfl rfl rfl) tab_nil)))⟩
  have b43 := F43.binds (ps := ["_law_found", "_law_dim_here"]) fun _ _ _ _ _ _ us hl => match us, hl with | [_, _], _ => rfl
  have F44 := fun_mk (K := K2) (st := s_law_dot) (sb _ _ l44) (sb.code c44) (sb.keep k44)
  have G44 : FnOk l.prog w K2 mg base CX0 34 _ _ ["_law_one", "_law_other"] (spD K2 Cl 2 f_law_dot) := e_law_dot ▸ def_ok (k := 33) (cl := Cl) (c := c_law_dot) F44 sc_law_dot rfl rfl ⟨hs, tr, by decide, ks_nil, (fun h => nomatch h), cls_nil, mt_nil, (bn_cons y7 (bn_cons y1 bn_nil)), tab_nil⟩
  have b44 := F44.binds (ps := ["_law_one", "_law_other"]) fun _ _ _ _ _ _ us hl => match us, hl with | [_, _], _ => rfl
  have F45 := fun_mk (K := K2) (st := slaw) (sb _ _ l45) (sb.code c45) (sb.keep k45)
  have G45 : FnOk l.prog w K2 mg base CX0 42 _ _ ["_law_script"] (spD K2 Cl 1 flaw) := elaw ▸ def_ok (k := 41) (cl := Cl) (c := claw) F45 sclaw rfl rfl ⟨hs, tr, by decide, ks_nil, (fun _ => O), cls_nil, mt_nil, (bn_cons y4 bn_nil), (tab_cons (G := f_law_begun) rfl (Tb.mk G1 (by decide) (PySem.W.mg_of X G a1) (sb.keep k1) b1 rfl rfl rfl) (tab_cons (G := f_law_dim) rfl (Tb.mk G3 (by decide) (PySem.W.mg_of X G a3) (sb.keep k3) b3 rfl rfl rfl) (tab_cons (G := f_law_body) rfl (Tb.mk G36 (by decide) (PySem.W.mg_of X G a36) (sb.keep k36) b36 rfl rfl rfl) (tab_cons (G := finner) rfl (Tb.mk G39 (by decide) (PySem.W.mg_of X G a39) (sb.keep k39) b39 rfl rfl rfl) (tab_cons (G := f_law_is_point) rfl (Tb.mk G43 (by decide) (PySem.W.mg_of X G a43) (sb.keep k43) b43 rfl rfl rfl) (tab_cons (G := f_law_dot) rfl (Tb.mk G44 (by decide) (PySem.W.mg_of X G a44) (sb.keep k44) b44 rfl rfl rfl) tab_nil))))))⟩
  exact G45.imp (spL_of k28_law)
end CH
open PySem PySem.W PyProof.Rows
set_option maxHeartbeats 0 in
theorem PySem.Challenge.cw_cornerhouse_k28_inner_points_holds : PySem.Challenge.rw_cornerhouse_k28_inner_points.Holds := by
  w_on; o_law; k_head; (case hw => w_witness2)
  k_fill
  refine CH.walk_pl (l := PySem.Challenge.rw_cornerhouse_k28_inner_points) (k := 42) (x := "_law_script") rfl rfl ⟨rfl, by decide, by decide⟩ (by decide +kernel) (fun w h Y => PySem.W.kIn_of Y) ?F
  case F =>
    intro w mg fa h KX G hmg
    refine' CH.all_mk rfl KX G hmg ?aC ?pg ?hd ?po ?sa ?n0 ?n1 ?n2 ?n3 ?aI ?iI ?lI ?cI ?kI ?mkC ?kC ?a1 ?l1 ?c1 ?k1 ?a2 ?l2 ?c2 ?k2 ?a3 ?l3 ?c3 ?k3 ?a4 ?l4 ?c4 ?k4 ?a5 ?l5 ?c5 ?k5 ?a6 ?l6 ?c6 ?k6 ?a7 ?l7 ?c7 ?k7 ?a8 ?l8 ?c8 ?k8 ?a9 ?l9 ?c9 ?k9 ?a10 ?l10 ?c10 ?k10 ?a11 ?l11 ?c11 ?k11 ?a12 ?l12 ?c12 ?k12 ?a13 ?l13 ?c13 ?k13 ?a14 ?l14 ?c14 ?k14 ?a15 ?l15 ?c15 ?k15 ?a16 ?l16 ?c16 ?k16 ?a17 ?l17 ?c17 ?k17 ?a18 ?l18 ?c18 ?k18 ?a19 ?l19 ?c19 ?k19 ?a20 ?l20 ?c20 ?k20 ?a21 ?l21 ?c21 ?k21 ?a22 ?l22 ?c22 ?k22 ?a23 ?l23 ?c23 ?k23 ?a24 ?l24 ?c24 ?k24 ?a25 ?l25 ?c25 ?k25 ?a26 ?l26 ?c26 ?k26 ?a27 ?l27 ?c27 ?k27 ?a28 ?l28 ?c28 ?k28 ?a29 ?l29 ?c29 ?k29 ?a30 ?l30 ?c30 ?k30 ?a31 ?l31 ?c31 ?k31 ?a32 ?l32 ?c32 ?k32 ?a33 ?l33 ?c33 ?k33 ?a34 ?l34 ?c34 ?k34 ?a35 ?l35 ?c35 ?k35 ?a36 ?l36 ?c36 ?k36 ?a37 ?l37 ?c37 ?k37 ?a38 ?i38 ?l38 ?c38 ?k38 ?a39 ?l39 ?c39 ?k39 ?a40 ?l40 ?c40 ?k40 ?a41 ?l41 ?c41 ?k41 ?a42 ?l42 ?c42 ?k42 ?a43 ?l43 ?c43 ?k43 ?a44 ?l44 ?c44 ?k44 ?a45 ?l45 ?c45 ?k45 ?z0 ?z1 ?z2 ?z3 ?z4 ?z5 ?z6 ?z7 ?z8 ?z9 ?z10 ?z11 ?z12 ?q0
    (case aC => k_is); (case pg => k_is); (case hd => k_is); (case po => k_is); (case sa => k_is); (case n0 => k_is); (case n1 => k_is); (case n2 => k_is); (case n3 => k_is); (case aI => k_is); (case iI => k_is); (case lI => k_is); (case cI => k_is); (case kI => k_is); (case mkC => k_is); (case kC => k_is); (case a1 => k_is); (case l1 => k_is); (case c1 => k_is); (case k1 => k_is); (case a2 => k_is); (case l2 => k_is); (case c2 => k_is); (case k2 => k_is); (case a3 => k_is); (case l3 => k_is); (case c3 => k_is); (case k3 => k_is); (case a4 => k_is); (case l4 => k_is); (case c4 => k_is); (case k4 => k_is); (case a5 => k_is); (case l5 => k_is); (case c5 => k_is); (case k5 => k_is); (case a6 => k_is); (case l6 => k_is); (case c6 => k_is); (case k6 => k_is); (case a7 => k_is); (case l7 => k_is); (case c7 => k_is); (case k7 => k_is); (case a8 => k_is); (case l8 => k_is); (case c8 => k_is); (case k8 => k_is); (case a9 => k_is); (case l9 => k_is); (case c9 => k_is); (case k9 => k_is); (case a10 => k_is); (case l10 => k_is); (case c10 => k_is); (case k10 => k_is); (case a11 => k_is); (case l11 => k_is); (case c11 => k_is); (case k11 => k_is); (case a12 => k_is); (case l12 => k_is); (case c12 => k_is); (case k12 => k_is); (case a13 => k_is); (case l13 => k_is); (case c13 => k_is); (case k13 => k_is); (case a14 => k_is); (case l14 => k_is); (case c14 => k_is); (case k14 => k_is); (case a15 => k_is); (case l15 => k_is); (case c15 => k_is); (case k15 => k_is); (case a16 => k_is); (case l16 => k_is); (case c16 => k_is); (case k16 => k_is); (case a17 => k_is); (case l17 => k_is); (case c17 => k_is); (case k17 => k_is); (case a18 => k_is); (case l18 => k_is); (case c18 => k_is); (case k18 => k_is); (case a19 => k_is); (case l19 => k_is); (case c19 => k_is); (case k19 => k_is); (case a20 => k_is); (case l20 => k_is); (case c20 => k_is); (case k20 => k_is); (case a21 => k_is); (case l21 => k_is); (case c21 => k_is); (case k21 => k_is); (case a22 => k_is); (case l22 => k_is); (case c22 => k_is); (case k22 => k_is); (case a23 => k_is); (case l23 => k_is); (case c23 => k_is); (case k23 => k_is); (case a24 => k_is); (case l24 => k_is); (case c24 => k_is); (case k24 => k_is); (case a25 => k_is); (case l25 => k_is); (case c25 => k_is); (case k25 => k_is); (case a26 => k_is); (case l26 => k_is); (case c26 => k_is); (case k26 => k_is); (case a27 => k_is); (case l27 => k_is); (case c27 => k_is); (case k27 => k_is); (case a28 => k_is); (case l28 => k_is); (case c28 => k_is); (case k28 => k_is); (case a29 => k_is); (case l29 => k_is); (case c29 => k_is); (case k29 => k_is); (case a30 => k_is); (case l30 => k_is); (case c30 => k_is); (case k30 => k_is); (case a31 => k_is); (case l31 => k_is); (case c31 => k_is); (case k31 => k_is); (case a32 => k_is); (case l32 => k_is); (case c32 => k_is); (case k32 => k_is); (case a33 => k_is); (case l33 => k_is); (case c33 => k_is); (case k33 => k_is); (case a34 => k_is); (case l34 => k_is); (case c34 => k_is); (case k34 => k_is); (case a35 => k_is); (case l35 => k_is); (case c35 => k_is); (case k35 => k_is); (case a36 => k_is); (case l36 => k_is); (case c36 => k_is); (case k36 => k_is); (case a37 => k_is); (case l37 => k_is); (case c37 => k_is); (case k37 => k_is); (case a38 => k_is); (case i38 => k_is); (case l38 => k_is); (case c38 => k_is); (case k38 => k_is); (case a39 => k_is); (case l39 => k_is); (case c39 => k_is); (case k39 => k_is); (case a40 => k_is); (case l40 => k_is); (case c40 => k_is); (case k40 => k_is); (case a41 => k_is); (case l41 => k_is); (case c41 => k_is); (case k41 => k_is); (case a42 => k_is); (case l42 => k_is); (case c42 => k_is); (case k42 => k_is); (case a43 => k_is); (case l43 => k_is); (case c43 => k_is); (case k43 => k_is); (case a44 => k_is); (case l44 => k_is); (case c44 => k_is); (case k44 => k_is); (case a45 => k_is); (case l45 => k_is); (case c45 => k_is); (case k45 => k_is); (case z0 => k_is); (case z1 => k_is); (case z2 => k_is); (case z3 => k_is); (case z4 => k_is); (case z5 => k_is); (case z6 => k_is); (case z7 => k_is); (case z8 => k_is); (case z9 => k_is); (case z10 => k_is); (case z11 => k_is); (case z12 => k_is); (case q0 => k_is)
