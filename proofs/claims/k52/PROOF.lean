import PyProof.Rows.All
import HandS.List
import HandS.Comp
import HandS.Iter
import HandS.Exc
import HandS.Deep
import HandS.IsInst
import HandS.HeadEnd
import HandS.HeadHook2
import HandS.Style
import HandS.TupAny
import HandS.TupMul
import HandS.Wide
import HandS.NoneIn
import HandS.WordsDict
import HandS.SortInts
import KE.DataMinMax
import PyProof.Rows.SortWalkRead
import HandS.ExcOwn
import HandS.Small
import HandS.Zip
import KE.GoesEnum
import KE.GoesMore
import HandS.TryMany
import PyProof.ExcBaseAll.ValueError
import KE.KExcPX
import HandS.Conv
import HandS.More
import HandS.SortKw
import HandS.DictComp
import HandS.SetKeys
import HandS.SetFor
import HandS.Strs
import HandS.WordsExc
import HandS.Defaults
import HandS.Head0
import HandS.Head1
import HandS.Head2
import HandS.Words
import PySem.Challenge.RW_mindsrevised_k52_whole_orders_counted
set_option Elab.async false
/-! Mi: a small executable semantics of the subset of Python in which these programs are written: values without the heap, an IR of expressions and statements. -/
namespace Mi
open PySem

abbrev P := PyData
/-- a local's value: a pure value, a mutable object of the store, the script -/
inductive W where
  | pv (p : P) | rf (n : Nat) | sc (ns : List Int)
/-- a mutable object -/
inductive O where
  | lst (xs : List W) | dct (kvs : List ((Int ⊕ Str) × W)) | dead
abbrev Sto := List O
abbrev L := List (Option W)
/-- an exception of the program: its class, the value of its field -/
structure Ex where
  cls : Str
  fs : List P
inductive R (α : Type) where
  | ok (a : α) (S : Sto) | err (x : Ex) (S : Sto) | stuck
def R.bind {α β : Type} : R α → (α → Sto → R β) → R β
  | .ok a S, f => f a S
  | .err x S, _ => .err x S
  | .stuck, _ => .stuck
inductive SR where
  | nx (l : L) (S : Sto) | rt (p : W) (S : Sto) | bk (l : L) (S : Sto) | ct (l : L) (S : Sto) | err (x : Ex) (l : L) (S : Sto) | stuck

/-! ### operations on pure values -/
def maxLen : Nat := 16777216
def small (i : Int) : Bool := decide (-(2 ^ 64) < i ∧ i < 2 ^ 64)
def binop (o : Operator) (a b : P) : Option P :=
  match o, a, b with
  | .Add, .int i, .int j => some (.int (i + j))
  | .Add, .str x, .str y => if x.length + y.length ≤ maxLen then some (.str (x ++ y)) else none
  | .Add, .tuple xs, .tuple ys => if xs.length + ys.length ≤ maxLen then some (.tuple (xs ++ ys)) else none
  | .Add, .list xs, .list ys => if xs.length + ys.length ≤ maxLen then some (.list (xs ++ ys)) else none
  | .Sub, .int i, .int j => some (.int (i - j))
  | .Mult, .int i, .int j => if small i || small j then some (.int (i * j)) else none
  | .Mult, .tuple xs, .int j => if xs.isEmpty = false ∧ 2 ≤ j ∧ j ≤ 1000 ∧ xs.length ≤ 1000 then some (.tuple (List.replicate j.toNat xs).flatten) else none
  | .Mult, .list xs, .int j => if -(2 ^ 63) ≤ j ∧ j < 2 ^ 63 ∧ xs.length * j.toNat ≤ maxLen then some (.list (List.replicate j.toNat xs).flatten) else none
  | .FloorDiv, .int i, .int j => if 0 < j ∧ j < 1073741824 then some (.int (i / j)) else none
  | .Mod, .int i, .int j => if 0 < j then some (.int (i % j)) else none
  | .Pow, .int i, .int j => if 0 ≤ j ∧ j ≤ 1000000 ∧ i.natAbs < 2 ^ 64 then some (.int (i ^ j.toNat)) else none
  | .LShift, .int i, .int j => if 0 ≤ j ∧ j ≤ 1000000 ∧ i.natAbs < 2 ^ 64 then some (.int (i * 2 ^ j.toNat)) else none
  | .RShift, .int i, .int j => if 0 ≤ j then some (.int (i / 2 ^ j.toNat)) else none
  | .BitAnd, .int i, .int j => some (.int (Builtin.bitAnd i j))
  | .BitOr, .int i, .int j => some (.int (Builtin.bitOr i j))
  | .BitXor, .int i, .int j => some (.int (Builtin.bitXor i j))
  | _, _, _ => none
def augop (o : Operator) (a b : P) : Option P := match o, a, b with
  | .Add, .int i, .int j => some (.int (i + j))
  | .Sub, .int i, .int j => some (.int (i - j))
  | _, _, _ => none
def unop (o : UnaryOp) (a : P) : Option P :=
  match o, a with
  | .USub, .int i => some (.int (-i))
  | .Invert, .int i => some (.int (Builtin.bitNot i))
  | _, _ => none
def scal : P → P → Bool
  | .none, .none => true | .none, .int _ => true | .int _, .none => true | .none, .bool _ => true | .bool _, .none => true | .none, .str _ => true | .str _, .none => true
  | .int _, .int _ => true | .bool _, .bool _ => true | .str _, .str _ => true
  | .int _, .str _ => true | .str _, .int _ => true | .bool _, .str _ => true | .str _, .bool _ => true
  | _, _ => false
def eqP (a b : P) : Option Bool := if scal a b || (SeqAt.shaped a && SeqAt.shaped b) then some (PyData.eqv a b) else none
/-- a key of a dict -/
def keyP : P → Option (Int ⊕ Str)
  | .int i => some (.inl i)
  | .str x => some (.inr x)
  | _ => none
def kP : Int ⊕ Str → P
  | .inl i => .int i
  | .inr x => .str x
def dgetP (kvs : List (P × P)) (k : Int ⊕ Str) : Option P := (kvs.find? fun kv => decide (keyP kv.1 = some k)).map (·.2)
def putP (kvs : List (P × P)) (k : Int ⊕ Str) (v : P) : List (P × P) := if (kvs.any fun kv => decide (keyP kv.1 = some k)) = true then kvs.map (fun kv => if keyP kv.1 = some k then (kv.1, v) else kv) else kvs ++ [(kP k, v)]
def keysP : List (P × P) → Option (List Int)
  | [] => some []
  | (.int i, _) :: r => (keysP r).map (i :: ·)
  | _ => none
def flat : P → Bool
  | .none | .bool _ | .int _ | .str _ => true
  | _ => false
def inP (a b : P) : Option Bool :=
  match b with
  | .list ys => if (flat a && ys.all flat) || (SeqAt.shaped a && SeqAt.shaped (.list ys)) then some (ys.any fun y => PyData.eqv y a) else none
  | .tuple ys => if flat a && ys.all flat then some (ys.any fun y => PyData.eqv y a) else none
  | .dict kvs => match a with
    | .none => some false
    | .int i => some (dgetP kvs (.inl i)).isSome
    | .str x => some (dgetP kvs (.inr x)).isSome
    | _ => none
  | _ => none
def isP (a b : P) : Option Bool :=
  match a, b with
  | .none, .none => some true
  | .none, .bool _ | .none, .int _ | .none, .str _ | .none, .tuple _ | .none, .list _ => some false
  | .bool _, .none | .int _, .none | .str _, .none | .tuple _, .none | .list _, .none => some false
  | .bool x, .bool y => some (x == y)
  | .int _, .bool _ | .str _, .bool _ | .tuple _, .bool _ | .list _, .bool _ => some false
  | _, _ => none
def intsOf : List P → Option (List Int)
  | [] => some []
  | .int i :: r => (intsOf r).map (i :: ·)
  | _ => none
def ltP (a b : P) : Option Bool := match a, b with
  | .int i, .int j => some (decide (i < j))
  | .tuple xs, .tuple ys => (intsOf xs).bind fun ns => (intsOf ys).map fun ms => HT.lexLt ns ms
  | _, _ => none
def cmpP (o : CmpOp) (a b : P) : Option Bool :=
  match o with
  | .Eq => eqP a b
  | .NotEq => (eqP a b).map (!·)
  | .In => inP a b
  | .NotIn => (inP a b).map (!·)
  | .Is => isP a b
  | .IsNot => (isP a b).map (!·)
  | .Lt => ltP a b
  | .LtE => match a, b with | .int i, .int j => some (decide (i ≤ j)) | _, _ => none
  | .Gt => match a, b with | .int i, .int j => some (decide (j < i)) | _, _ => none
  | .GtE => match a, b with | .int i, .int j => some (decide (j ≤ i)) | _, _ => none
def truthP : P → Option Bool
  | .none => some false
  | .bool b => some b
  | .int i => some (i != 0)
  | .list xs => some (!xs.isEmpty)
  | .tuple xs => some (!xs.isEmpty)
  | _ => none
/-- a built-in class that isinstance asks for -/
inductive Ty where
  | tint | tbool | tstr | ttuple | tlist | tdict
def isiP : P → Ty → Option Bool
  | .dict _, _ => none
  | .bool _, .tint => some true
  | .int _, .tint => some true
  | .bool _, .tbool => some true
  | .str _, .tstr => some true
  | .tuple _, .ttuple => some true
  | .list _, .tlist => some true
  | _, _ => some false
abbrev idxN := L2.ixN
def idxL {α : Type} (xs : List α) (i : Int) : Option α := (idxN xs.length i).bind fun j => xs[j]?
def idxP (a i : P) : Option P :=
  match a, i with
  | .list xs, .int i => idxL xs i
  | .tuple xs, .int i => idxL xs i
  | .dict kvs, .int i => dgetP kvs (.inl i)
  | .dict kvs, .str x => dgetP kvs (.inr x)
  | _, _ => none
abbrev sIx := HT.sIx
def cut (xs : List P) (lo hi : Option Int) : List P := (xs.drop (sIx xs.length 0 lo)).take (sIx xs.length xs.length hi - sIx xs.length 0 lo)
def slcP (a : P) (lo hi : Option Int) : Option P :=
  match a with
  | .list xs => some (.list (cut xs lo hi))
  | .tuple xs => some (.tuple (cut xs lo hi))
  | _ => none
def boolsOf : List P → Option (List Bool)
  | [] => some []
  | .bool i :: r => (boolsOf r).map (i :: ·)
  | _ => none
def minL : Int → List Int → Int
  | m, [] => m
  | m, x :: r => minL (if x < m then x else m) r
def maxL : Int → List Int → Int
  | m, [] => m
  | m, x :: r => maxL (if m < x then x else m) r
def ins (x : Int) : List Int → List Int
  | [] => [x]
  | y :: r => if x ≤ y then x :: y :: r else y :: ins x r
def isort : List Int → List Int
  | [] => []
  | x :: r => ins x (isort r)
def insU (x : Int) : List Int → List Int
  | [] => [x]
  | y :: r => if x < y then x :: y :: r else if x = y then y :: r else y :: insU x r
def usort : List Int → List Int
  | [] => []
  | x :: r => insU x (usort r)
def rngL (i : Int) : Nat → List P
  | 0 => []
  | n + 1 => .int i :: rngL (i + 1) n
/-- built-in functions and types by their names -/
inductive B where
  | len | int | abs | min | max | minD | sum | all | any | sorted | tuple | list | range | sortedset | lenset | str
  deriving DecidableEq
def biP (b : B) (xs : List P) : Option P :=
  match b, xs with
  | .len, [.list ys] => some (.int ys.length)
  | .len, [.tuple ys] => some (.int ys.length)
  | .len, [.dict ys] => some (.int ys.length)
  | .len, [.str z] => if z.length ≤ maxLen then some (.int z.length) else none
  | .int, [.int i] => some (.int i)
  | .str, [.int i] => if i.natAbs.log2 < 1920 then some (.str (Str.ofString (toString i))) else none
  | .abs, [.int i] => some (.int (if i < 0 then -i else i))
  | .min, [.int i, .int j] => some (.int (if j < i then j else i))
  | .max, [.int i, .int j] => some (.int (if i < j then j else i))
  | .min, [.list ys] => (intsOf ys).bind fun ns => match ns with | [] => none | n :: r => some (.int (minL n r))
  | .max, [.list ys] => (intsOf ys).bind fun ns => match ns with | [] => none | n :: r => some (.int (maxL n r))
  | .min, [.tuple ys] => (intsOf ys).bind fun ns => match ns with | [] => none | n :: r => some (.int (minL n r))
  | .max, [.tuple ys] => (intsOf ys).bind fun ns => match ns with | [] => none | n :: r => some (.int (maxL n r))
  | .minD, [.list ys] => (intsOf ys).bind fun ns => match ns with | [] => some .none | n :: r => some (.int (minL n r))
  | .sum, [.list ys] => (intsOf ys).map fun ns => .int ns.sum
  | .all, [.list ys] => (boolsOf ys).map fun bs => .bool (bs.all id)
  | .any, [.list ys] => (boolsOf ys).map fun bs => .bool (bs.any id)
  | .sorted, [.list ys] => (intsOf ys).map fun ns => .list ((isort ns).map PyData.int)
  | .sortedset, [.list ys] => (intsOf ys).bind fun ns => if ns.length < 64 then some (.list ((usort ns).map PyData.int)) else none
  | .sortedset, [.tuple ys] => (intsOf ys).bind fun ns => if ns.length < 64 then some (.list ((usort ns).map PyData.int)) else none
  | .tuple, [.list ys] => some (.tuple ys)
  | .tuple, [.tuple ys] => some (.tuple ys)
  | .list, [.list ys] => some (.list ys)
  | .list, [.tuple ys] => some (.list ys)
  | _, _ => none

/-! ### the IR -/
inductive IK where
  | seq | rng1 | rng2 | enum | zip | rng3
mutual
inductive E where
  | var (i : Nat) | cst (p : P) | gcst (x : Str) (p : P)
  | bin (o : Operator) (a b : E) | un (o : UnaryOp) (a : E)
  | cmp (o : CmpOp) (a b : E) | cmp2 (o o' : CmpOp) (a b c : E)
  | and_ (a b : E) | or_ (a b : E) | not_ (a : E) | ife (c a b : E)
  | tup (es : EL) | lstv (es : EL) | lstm (es : EL)
  | idx (a i : E) | slc (a : E) (lo hi : OE)
  | pcall (f : Nat) (es : EL) | hcall (f : Nat) (es : EL) | gcall (f : Nat) (es : EL)
  | bi (b : B) (es : EL) | isi (a : E) (t : Ty) | isi2 (a : E) (t u : Ty)
  | lc (t : G) (k : IK) (it : EL) (ifs : EL) (elt : E) (own : List Nat)
  | lrng (tup : Bool) (es : EL) | dnew | dsrt (a : E) | sset (a : E) | frz (a : E) | app (o e : E) | ext (o e : E) | pop (o : E) | popi (o i : E) | lmk (e : E)
  | dcp (a : E) | dget (a i : E) | dcomp (t : G) (k : IK) (it : EL) (ifs : EL) (ke ve : E) (own : List Nat) | lidx (a e : E) | dsetd (a i : E)
  | lc2 (t : G) (k : IK) (it ifs : EL) (t1 : G) (k1 : IK) (it1 ifs1 : EL) (elt : E) (own own1 : List Nat) | lrep (a b : E) | catm (a b : E)
inductive EL where
  | nil | cons (e : E) (r : EL)
inductive OE where
  | no | some (e : E)
/-- a target -/
inductive G where
  | nm (i : Nat) | tup (ts : GL) | sub (o i : E)
inductive GL where
  | nil | cons (t : G) (r : GL)
end
mutual
inductive T where
  | pass | expr (e : E) | asg (t : G) (e : E) | par2 (i j : Nat) (a b : E) | aug (i : Nat) (o : Operator) (e : E)
  | ret (e : E) | retn | if_ (c : E) (a b : TL) | for_ (t : G) (k : IK) (it : EL) (body : TL) | while_ (c : E) (body : TL)
  | raise (x : Str) (es : EL) | try_ (body : TL) (hs : HL) | brk | cont
inductive TL where
  | nil | cons (t : T) (r : TL)
/-- except clauses: a class, a suite -/
inductive HL where
  | nil | cons (x : Str) (suite : TL) (r : HL) | named (x : Str) (i : Nat) (suite : TL) (r : HL)
end

/-! ### its meaning -/
/-- what runs around: the while loops' fuel, the calls, whether an exception of class a is caught by class b -/
structure Cf where
  fuel : Nat
  call : Nat → List W → Sto → R W
  sub : Str → Str → Option Bool
def asP : W → Option P
  | .pv p => some p
  | _ => none
def asPs : List W → Option (List P)
  | [] => some []
  | .pv p :: r => (asPs r).map (p :: ·)
  | _ :: _ => none
def ret {α : Type} (o : Option α) (S : Sto) : R α := match o with
  | some a => .ok a S
  | none => .stuck
/-- a pure value out of an operation -/
def retP (o : Option P) (S : Sto) : R W := match o with
  | some a => .ok (.pv a) S
  | none => .stuck
def pure1 (f : P → Option P) (a : W) (S : Sto) : R W := match a with
  | .pv p => retP (f p) S
  | _ => .stuck
def pure2 (f : P → P → Option P) (a b : W) (S : Sto) : R W := match a, b with
  | .pv p, .pv q => retP (f p q) S
  | _, _ => .stuck
/-- what is read as a list or tuple of pure items -/
def seqOf (w : W) (S : Sto) : Option (List W) := match w with
  | .pv (.list xs) => some (xs.map .pv)
  | .pv (.tuple xs) => some (xs.map .pv)
  | .rf n => match S[n]? with
    | some (.lst xs) => some xs
    | _ => none
  | _ => none
/-- x in l, l a mutable list -/
def inR (o : CmpOp) (p : P) (ps : List P) : Option Bool := match o with
  | .In => inP p (.list ps)
  | .NotIn => (inP p (.list ps)).map (!·)
  | _ => none
def cmpW (o : CmpOp) (a b : W) (S : Sto) : R W := match a, b with
  | .pv p, .pv q => retP ((cmpP o p q).map .bool) S
  | .pv p, .rf n => match S[n]? with
    | some (.lst xs) => match asPs xs with
      | some ps => retP ((inR o p ps).map .bool) S
      | none => .stuck
    | _ => .stuck
  | _, _ => .stuck
def truthW (a : W) (S : Sto) : Option Bool := match a with
  | .pv p => truthP p
  | .rf n => match S[n]? with
    | some (.lst xs) => some (!xs.isEmpty)
    | some (.dct xs) => some (!xs.isEmpty)
    | _ => none
  | .sc _ => none
def boolW (a : W) : Option Bool := match a with
  | .pv (.bool b) => some b
  | _ => none
def putW (kvs : List ((Int ⊕ Str) × W)) (k : Int ⊕ Str) (v : W) : List ((Int ⊕ Str) × W) := if (kvs.any fun kv => decide (kv.1 = k)) = true then kvs.map (fun kv => if kv.1 = k then (kv.1, v) else kv) else kvs ++ [(k, v)]
def getW (kvs : List ((Int ⊕ Str) × W)) (k : Int ⊕ Str) : Option W := (kvs.find? fun kv => decide (kv.1 = k)).map (·.2)
def keysI : List ((Int ⊕ Str) × W) → Option (List Int)
  | [] => some []
  | (.inl i, _) :: r => (keysI r).map (i :: ·)
  | _ => none
def setD (n : Nat) (kvs : List ((Int ⊕ Str) × W)) (i : P) (v : W) (S : Sto) : R Unit := match keyP i with
  | some k => if kvs.length < maxLen then .ok () (S.set n (.dct (putW kvs k v))) else .stuck
  | none => .stuck
/-- len, and the built-ins that read a list -/
def biW (b : B) (ws : List W) (S : Sto) : R W := match asPs ws with
  | some ps => retP (biP b ps) S
  | none => match b, ws with
    | .len, [w] => match seqOf w S with
      | some xs => .ok (.pv (.int xs.length)) S
      | none => .stuck
    | .tuple, [w] => match (seqOf w S).bind asPs with
      | some xs => .ok (.pv (.tuple xs)) S
      | none => .stuck
    | .list, [w] => match (seqOf w S).bind asPs with
      | some xs => .ok (.pv (.list xs)) S
      | none => .stuck
    | _, _ => .stuck
/-- sorted(d), a dict with keys of ints -/
def srtD (w : W) (S : Sto) : R W := match w with
  | .pv (.dict kvs) => match keysP kvs with
    | some ks => if ks.length < 64 then .ok (.pv (.list ((isort ks).map .int))) S else .stuck
    | none => .stuck
  | .rf n => match S[n]? with
    | some (.dct kvs) => match keysI kvs with
      | some ks => if ks.length < 64 then .ok (.pv (.list ((isort ks).map .int))) S else .stuck
      | none => .stuck
    | _ => .stuck
  | _ => .stuck
def idxW (a i : W) (S : Sto) : R W := match a, i with
  | .pv p, .pv q => retP (idxP p q) S
  | .rf n, .pv (.int i) => match S[n]? with
    | some (.lst xs) => ret (idxL xs i) S
    | some (.dct kvs) => ret (getW kvs (.inl i)) S
    | _ => .stuck
  | .rf n, .pv (.str x) => match S[n]? with
    | some (.dct kvs) => ret (getW kvs (.inr x)) S
    | _ => .stuck
  | _, _ => .stuck
def intR (a : W) (S : Sto) : R (Option Int) := match a with
  | .pv (.int i) => .ok (some i) S
  | _ => .stuck
def slcW (a : W) (l h : Option Int) (S : Sto) : R W := match a with
  | .pv p => retP (slcP p l h) S
  | .sc ns => .ok (.pv (.list (cut (ns.map .int) l h))) S
  | .rf _ => .stuck
def asKs : List ((Int ⊕ Str) × W) → Option (List (P × P))
  | [] => some []
  | (k, .pv p) :: r => (asKs r).map ((kP k, p) :: ·)
  | _ :: _ => none
def ksOf : List (P × P) → Option (List ((Int ⊕ Str) × W))
  | [] => some []
  | (.int i, v) :: r => (ksOf r).map ((.inl i, .pv v) :: ·)
  | (.str x, v) :: r => (ksOf r).map ((.inr x, .pv v) :: ·)
  | _ :: _ => none
def frzW (a : W) (S : Sto) : R W := match a with
  | .rf n => match S[n]? with
    | some (.lst xs) => match asPs xs with
      | some ps => .ok (.pv (.list ps)) (S.set n .dead)
      | none => .stuck
    | some (.dct kvs) => match asKs kvs with
      | some ps => .ok (.pv (.dict ps)) (S.set n .dead)
      | none => .stuck
    | _ => .stuck
  | w => .ok w S
/-- dict(d): a new one -/
def dcpW (a : W) (S : Sto) : R W := match a with
  | .pv (.dict kvs) => match ksOf kvs with
    | some ks => .ok (.rf S.length) (S ++ [.dct ks])
    | none => .stuck
  | _ => .stuck
/-- d.get(k, None) -/
def dgetW (a i : W) (S : Sto) : R W := match a, i with
  | .pv (.dict kvs), .pv (.int k) => .ok (.pv ((dgetP kvs (.inl k)).getD .none)) S
  | .pv (.dict kvs), .pv (.str k) => .ok (.pv ((dgetP kvs (.inr k)).getD .none)) S
  | _, _ => .stuck
/-- d.setdefault(k, []) -/
def dsetdW (a i : W) (S : Sto) : R W := match a, i with
  | .rf n, .pv p => match S[n]?, keyP p with
    | some (.dct kvs), some k => if kvs.length < maxLen then (match getW kvs k with
      | some w => .ok w S
      | none => .ok (.rf S.length) ((S ++ [O.lst []]).set n (O.dct (putW kvs k (.rf S.length))))) else .stuck
    | _, _ => .stuck
  | _, _ => .stuck
/-- a list that is changed, and further items: a new one -/
def catW (x y : W) (S : Sto) : R W := match x, y with
  | .rf n, .pv (.list qs) => match S[n]? with
    | some (.lst ws) => match asPs ws with
      | some ps => if ps.length + qs.length ≤ maxLen then .ok (.pv (.list (ps ++ qs))) S else .stuck
      | none => .stuck
    | _ => .stuck
  | _, _ => .stuck
/-- [x] * n, a new list that is changed -/
def repW (x y : W) (S : Sto) : R W := match x, y with
  | .pv (.list xs), .pv (.int j) => if -(2 ^ 63) ≤ j ∧ j < 2 ^ 63 ∧ xs.length * j.toNat ≤ maxLen then .ok (.rf S.length) (S ++ [O.lst ((List.replicate j.toNat xs).flatten.map W.pv)]) else .stuck
  | _, _ => .stuck
def isDctS (a : W) (S : Sto) : Bool := match a with
  | .rf n => match S[n]? with
    | some (.dct _) => true
    | _ => false
  | _ => false
def posP (x : P) : List P → Nat → Option Nat
  | [], _ => none
  | y :: r, n => if PyData.eqv y x then some n else posP x r (n + 1)
/-- l.index(x) -/
def lidxP (a x : P) : Option P := match a with
  | .list ys => if SeqAt.shaped (.list ys) && SeqAt.shaped x then (posP x ys 0).map fun n => .int (n : Nat) else none
  | _ => none
def isDct (a : W) : Bool := match a with
  | .pv (.dict _) => true
  | _ => false
def isLstP (a : W) : Bool := match a with
  | .pv (.list _) => true
  | _ => false
def appW (a e : W) (S : Sto) : R W := match a with
  | .rf n => match S[n]? with
    | some (.lst xs) => if xs.length < maxLen then .ok (.pv .none) (S.set n (.lst (xs ++ [e]))) else .stuck
    | _ => .stuck
  | _ => .stuck
def extP (n : Nat) (ys : List P) (S : Sto) : R W := match S[n]? with
  | some (.lst xs) => if xs.length + ys.length ≤ maxLen then .ok (.pv .none) (S.set n (.lst (xs ++ ys.map .pv))) else .stuck
  | _ => .stuck
def extW (a e : W) (S : Sto) : R W := match a, e with
  | .rf n, .pv (.list ys) => extP n ys S
  | .rf n, .pv (.tuple ys) => extP n ys S
  | _, _ => .stuck
def isLst (a : W) (S : Sto) : Bool := match a with
  | .rf n => match S[n]? with
    | some (.lst _) => true
    | _ => false
  | _ => false
def popW (a : W) (i : Int) (S : Sto) : R W := match a with
  | .rf n => match S[n]? with
    | some (.lst xs) => match idxN xs.length i with
      | some j => match xs[j]? with
        | some x => .ok x (S.set n (.lst (xs.eraseIdx j)))
        | none => .stuck
      | none => .stuck
    | _ => .stuck
  | _ => .stuck
def popiW (a i : W) (S : Sto) : R W := match i with
  | .pv (.int i) => popW a i S
  | _ => .stuck
def lmkW (a : W) (S : Sto) : R W := match seqOf a S with
  | some xs => .ok (.rf S.length) (S ++ [.lst xs])
  | none => .stuck
def setW (a i v : W) (S : Sto) : R Unit := match a, i with
  | .rf n, .pv (.int i) => match S[n]? with
    | some (.lst xs) => match idxN xs.length i with
      | some j => .ok () (S.set n (.lst (xs.set j v)))
      | none => .stuck
    | some (.dct kvs) => setD n kvs (.int i) v S
    | _ => .stuck
  | .rf n, .pv (.str x) => match S[n]? with
    | some (.dct kvs) => setD n kvs (.str x) v S
    | _ => .stuck
  | _, _ => .stuck
/-- a call of a def upon pure values, in a store of its own -/
def pcallR (r : R W) (S : Sto) : R W := match r with
  | .ok (.pv p) _ => .ok (.pv p) S
  | .ok _ _ => .stuck
  | .err x _ => .err x S
  | .stuck => .stuck
def flatO : O → Bool
  | .lst xs => (asPs xs).isSome
  | _ => false
def toRf0 : List W → Option (Nat × List W)
  | .rf n :: r => if (asPs r).isSome then some (n, .rf 0 :: r) else none
  | _ => none
/-- a call upon one mutable list of pure values (its first argument) and pure values -/
def hcallR (n : Nat) (r : R W) (S : Sto) : R W := match r with
  | .ok (.pv p) (o :: _) => if flatO o then .ok (.pv p) (S.set n o) else .stuck
  | .err x (o :: _) => if flatO o then .err x (S.set n o) else .stuck
  | _ => .stuck
def pcallW (c : Cf) (f : Nat) (ws : List W) (S : Sto) : R W := if (asPs ws).isSome then pcallR (c.call f ws []) S else .stuck
def hcallW (c : Cf) (f : Nat) (ws : List W) (S : Sto) : R W := match toRf0 ws with
  | some (n, ws') => match S[n]? with
    | some o => if flatO o then hcallR n (c.call f ws' [o]) S else .stuck
    | none => .stuck
  | none => .stuck
def argOk : W → Bool
  | .pv _ => true
  | .sc _ => true
  | .rf _ => false
/-- a call that makes a new list of pure values -/
def gcallR (r : R W) (S : Sto) : R W := match r with
  | .ok (.rf m) S' => match S'[m]? with
    | some o => if flatO o then .ok (.rf S.length) (S ++ [o]) else .stuck
    | none => .stuck
  | .ok _ _ => .stuck
  | .err x _ => .err x S
  | .stuck => .stuck
def gcallW (c : Cf) (f : Nat) (ws : List W) (S : Sto) : R W := if ws.all argOk then gcallR (c.call f ws []) S else .stuck
/-- list(range(..)), tuple(range(..)) -/
def rngW (k : Bool) (ws : List W) (S : Sto) : R W := match ws with
  | [.pv (.int n)] => if -(2 ^ 62) ≤ n ∧ n ≤ maxLen then .ok (.pv (if k then .tuple (rngL 0 n.toNat) else .list (rngL 0 n.toNat))) S else .stuck
  | [.pv (.int i), .pv (.int j)] => if -(2 ^ 62) ≤ i ∧ i < 2 ^ 62 ∧ -(2 ^ 62) ≤ j ∧ j < 2 ^ 62 ∧ j - i ≤ maxLen then .ok (.pv (if k then .tuple (rngL i (j - i).toNat) else .list (rngL i (j - i).toNat))) S else .stuck
  | _ => .stuck
def unpack (n : Nat) (w : W) : Option (List W) := match w with
  | .pv (.tuple xs) => if xs.length = n then some (xs.map .pv) else none
  | _ => none
def rngD (i : Int) : Nat → List P
  | 0 => []
  | n + 1 => .int i :: rngD (i - 1) n
def zipP : List P → List P → List P
  | x :: xs, y :: ys => .tuple [x, y] :: zipP xs ys
  | _, _ => []
def enumP (i : Int) : List P → List P
  | [] => []
  | x :: xs => .tuple [.int i, x] :: enumP (i + 1) xs
/-- the items that a for walks -/
def items (k : IK) (ws : List W) : Option (List P) := match k, ws with
  | .seq, [.pv (.list xs)] => some xs
  | .seq, [.pv (.tuple xs)] => some xs
  | .rng1, [.pv (.int n)] => if -(2 ^ 62) ≤ n ∧ n ≤ maxLen then some (rngL 0 n.toNat) else none
  | .rng2, [.pv (.int i), .pv (.int j)] => if -(2 ^ 62) ≤ i ∧ i < 2 ^ 62 ∧ -(2 ^ 62) ≤ j ∧ j < 2 ^ 62 ∧ j - i ≤ maxLen then some (rngL i (j - i).toNat) else none
  | .rng3, [.pv (.int i), .pv (.int j), .pv (.int c)] => if c = -1 ∧ -(2 ^ 62) ≤ i ∧ i < 2 ^ 62 ∧ -(2 ^ 62) ≤ j ∧ j < 2 ^ 62 ∧ i - j ≤ maxLen then some (rngD i (i - j).toNat) else none
  | .enum, [.pv (.list xs)] => some (enumP 0 xs)
  | .enum, [.pv (.tuple xs)] => some (enumP 0 xs)
  | .zip, [.pv (.list xs), .pv (.list ys)] => some (zipP xs ys)
  | .zip, [.pv (.tuple xs), .pv (.tuple ys)] => some (zipP xs ys)
  | .zip, [.pv (.list xs), .pv (.tuple ys)] => some (zipP xs ys)
  | _, _ => none
def wipe (l : L) : List Nat → L
  | [] => l
  | v :: vs => (wipe l vs).set v none
/-- the turns of a comprehension -/
def lcGo (turn : P → Sto → R (Option P)) : List P → Sto → R (List P)
  | [], S => .ok [] S
  | x :: xs, S => (turn x S).bind fun o S1 => (lcGo turn xs S1).bind fun ys S2 => match o with
    | some y => .ok (y :: ys) S2
    | none => .ok ys S2
/-- the turns of a comprehension of two clauses -/
def lc2Go (turn : P → Sto → R (List P)) : List P → Sto → R (List P)
  | [], S => .ok [] S
  | x :: xs, S => (turn x S).bind fun o S1 => (lc2Go turn xs S1).bind fun ys S2 => .ok (o ++ ys) S2
def lc2End (ys : List P) (S : Sto) : R W := if ys.length ≤ maxLen then .ok (.pv (.list ys)) S else .stuck
def dcPair (y z : W) (S : Sto) : R (Option ((Int ⊕ Str) × P)) := match y, z with
  | .pv (.int i), .pv p => .ok (some (.inl i, p)) S
  | .pv (.str x), .pv p => .ok (some (.inr x, p)) S
  | _, _ => .stuck
/-- the turns of a dict comprehension -/
def dcGo (turn : P → Sto → R (Option ((Int ⊕ Str) × P))) : List P → List (P × P) → Sto → R (List (P × P))
  | [], acc, S => .ok acc S
  | x :: xs, acc, S => (turn x S).bind fun o S1 => match o with
    | some kv => if acc.length < maxLen then dcGo turn xs (putP acc kv.1 kv.2) S1 else .stuck
    | none => dcGo turn xs acc S1
/-- behind a suite whose clause has a name -/
def SR.gone (r : SR) (i : Nat) : SR := match r with
  | .nx l S => .nx (l.set i none) S
  | .bk l S => .bk (l.set i none) S
  | .ct l S => .ct (l.set i none) S
  | r => r
/-- the turns of a for -/
def forGo (turn : P → L → Sto → SR) : List P → L → Sto → SR
  | [], l, S => .nx l S
  | x :: xs, l, S => match turn x l S with
    | .nx l1 S1 => forGo turn xs l1 S1
    | .ct l1 S1 => forGo turn xs l1 S1
    | .bk l1 S1 => .nx l1 S1
    | .rt p S1 => .rt p S1
    | .err x l1 S1 => .err x l1 S1
    | .stuck => .stuck
/-- the turns of a while -/
def whileGo (c : L → Sto → R Bool) (body : L → Sto → SR) : Nat → L → Sto → SR
  | 0, _, _ => .stuck
  | n + 1, l, S => match c l S with
    | .ok true S1 => match body l S1 with
      | .nx l1 S2 => whileGo c body n l1 S2
      | .ct l1 S2 => whileGo c body n l1 S2
      | .bk l1 S2 => .nx l1 S2
      | .rt p S2 => .rt p S2
      | .err x l1 S2 => .err x l1 S2
      | .stuck => .stuck
    | .ok false S1 => .nx l S1
    | .err x S1 => .err x l S1
    | .stuck => .stuck
def SR.thenR (r : R α) (l : L) (f : α → Sto → SR) : SR := match r with
  | .ok a S => f a S
  | .err x S => .err x l S
  | .stuck => .stuck
def SR.seq (r : SR) (f : L → Sto → SR) : SR := match r with
  | .nx l S => f l S
  | r => r
/-- no error may leave a comprehension's block -/
def R.calm {α : Type} : R α → R α
  | .ok a S => .ok a S
  | _ => .stuck
/-- no error may leave an except suite -/
def SR.calm : SR → SR
  | .err _ _ _ => .stuck
  | r => r
def truthR (r : R W) : R Bool := r.bind fun w S => ret (truthW w S) S

/-- a value, and the test that it is -/
def pl (v : L → Sto → R W) : (L → Sto → R W) × (L → Sto → R Bool) := (v, fun l S => truthR (v l S))
mutual
/-- an expression's value; an expression as a test -/
def evT (c : Cf) : E → (L → Sto → R W) × (L → Sto → R Bool)
  | .var i => pl fun l S => match l[i]? with
    | some (some w) => .ok w S
    | _ => .stuck
  | .cst p => pl fun _ S => .ok (.pv p) S
  | .gcst _ p => pl fun _ S => .ok (.pv p) S
  | .bin o a b => pl fun l S => ((evT c a).1 l S).bind fun x S => ((evT c b).1 l S).bind fun y S => pure2 (binop o) x y S
  | .un o a => pl fun l S => ((evT c a).1 l S).bind fun x S => pure1 (unop o) x S
  | .cmp o a b => pl fun l S => ((evT c a).1 l S).bind fun x S => ((evT c b).1 l S).bind fun y S => cmpW o x y S
  | .cmp2 o o' a b d => pl fun l S => ((evT c a).1 l S).bind fun x S => ((evT c b).1 l S).bind fun y S => (cmpW o x y S).bind fun r S => match boolW r with
    | some true => ((evT c d).1 l S).bind fun z S => cmpW o' y z S
    | some false => .ok (.pv (.bool false)) S
    | none => .stuck
  | .and_ a b => (fun l S => ((evT c a).1 l S).bind fun x S => match boolW x with
    | some true => (evT c b).1 l S
    | some false => .ok (.pv (.bool false)) S
    | none => .stuck, fun l S => ((evT c a).2 l S).bind fun k S => if k then (evT c b).2 l S else .ok false S)
  | .or_ a b => (fun l S => ((evT c a).1 l S).bind fun x S => match boolW x with
    | some false => (evT c b).1 l S
    | some true => .ok (.pv (.bool true)) S
    | none => .stuck, fun l S => ((evT c a).2 l S).bind fun k S => if k then .ok true S else (evT c b).2 l S)
  | .not_ a => (fun l S => ((evT c a).1 l S).bind fun x S => match boolW x with
    | some b => .ok (.pv (.bool (!b))) S
    | none => .stuck, fun l S => ((evT c a).2 l S).bind fun k S => .ok (!k) S)
  | .ife d a b => pl fun l S => ((evT c d).2 l S).bind fun k S => if k then (evT c a).1 l S else (evT c b).1 l S
  | .tup es => pl fun l S => (evs c es l S).bind fun ws S => retP ((asPs ws).map .tuple) S
  | .lstv es => pl fun l S => (evs c es l S).bind fun ws S => retP ((asPs ws).map .list) S
  | .lstm es => pl fun l S => (evs c es l S).bind fun ws S => .ok (.rf S.length) (S ++ [.lst ws])
  | .idx a i => pl fun l S => ((evT c a).1 l S).bind fun x S => ((evT c i).1 l S).bind fun y S => idxW x y S
  | .slc a lo hi => pl fun l S => ((evT c a).1 l S).bind fun x S => (evo c lo l S).bind fun y S => (evo c hi l S).bind fun z S => slcW x y z S
  | .pcall f es => pl fun l S => (evs c es l S).bind fun ws S => pcallW c f ws S
  | .hcall f es => pl fun l S => (evs c es l S).bind fun ws S => hcallW c f ws S
  | .gcall f es => pl fun l S => (evs c es l S).bind fun ws S => gcallW c f ws S
  | .bi b es => pl fun l S => (evs c es l S).bind fun ws S => biW b ws S
  | .isi a t => pl fun l S => ((evT c a).1 l S).bind fun x S => pure1 (fun p => (isiP p t).map .bool) x S
  | .isi2 a t u => pl fun l S => ((evT c a).1 l S).bind fun x S => pure1 (fun p => (isiP p t).bind fun k => (isiP p u).map fun m => .bool (k || m)) x S
  | .lc t k it ifs elt own => pl fun l S => (evs c it l S).bind fun ws S => match items k ws with
    | some xs => (lcGo (fun x S => ((gt c t (.pv x) (wipe l own) S).bind fun l1 S => (tes c ifs l1 S).bind fun k S =>
        if k then ((evT c elt).1 l1 S).bind fun y S => match y with
          | .pv p => .ok (some p) S
          | _ => .stuck
        else .ok none S).calm) xs S).bind fun ys S => .ok (.pv (.list ys)) S
    | none => .stuck
  | .lc2 t k it ifs t1 k1 it1 ifs1 elt own own1 => pl fun l S => (evs c it l S).bind fun ws S => match items k ws with
    | some xs => (lc2Go (fun x S => ((gt c t (.pv x) (wipe l own) S).bind fun l1 S => (tes c ifs l1 S).bind fun k S =>
        if k then (evs c it1 l1 S).bind fun ws S => match items k1 ws with
          | some xs => lcGo (fun x S => ((gt c t1 (.pv x) (wipe l1 own1) S).bind fun l2 S => (tes c ifs1 l2 S).bind fun k S =>
            if k then ((evT c elt).1 l2 S).bind fun y S => match y with
              | .pv p => .ok (some p) S
              | _ => .stuck
            else .ok none S).calm) xs S
          | none => .stuck
        else .ok [] S).calm) xs S).bind lc2End
    | none => .stuck
  | .lrng k es => pl fun l S => (evs c es l S).bind fun ws S => rngW k ws S
  | .sset a => pl fun l S => ((evT c a).1 l S).bind fun x S => biW .sortedset [x] S
  | .dsrt a => pl fun l S => ((evT c a).1 l S).bind fun x S => srtD x S
  | .dnew => pl fun _ S => .ok (.rf S.length) (S ++ [.dct []])
  | .frz a => pl fun l S => ((evT c a).1 l S).bind fun x S => frzW x S
  | .app a e => pl fun l S => ((evT c a).1 l S).bind fun x S => if isLst x S then ((evT c e).1 l S).bind fun y S => appW x y S else .stuck
  | .ext a e => pl fun l S => ((evT c a).1 l S).bind fun x S => if isLst x S then ((evT c e).1 l S).bind fun y S => extW x y S else .stuck
  | .pop a => pl fun l S => ((evT c a).1 l S).bind fun x S => popW x (-1) S
  | .popi a i => pl fun l S => ((evT c a).1 l S).bind fun x S => if isLst x S then ((evT c i).1 l S).bind fun y S => popiW x y S else .stuck
  | .lmk a => pl fun l S => ((evT c a).1 l S).bind fun x S => lmkW x S
  | .dcp a => pl fun l S => ((evT c a).1 l S).bind fun x S => dcpW x S
  | .dget a i => pl fun l S => ((evT c a).1 l S).bind fun x S => if isDct x then ((evT c i).1 l S).bind fun y S => dgetW x y S else .stuck
  | .dcomp t k it ifs ke ve own => pl fun l S => (evs c it l S).bind fun ws S => match items k ws with
    | some xs => (dcGo (fun x S => ((gt c t (.pv x) (wipe l own) S).bind fun l1 S => (tes c ifs l1 S).bind fun k S =>
        if k then ((evT c ke).1 l1 S).bind fun y S => ((evT c ve).1 l1 S).bind fun z S => dcPair y z S
        else .ok none S).calm) xs [] S).bind fun ys S => .ok (.pv (.dict ys)) S
    | none => .stuck
  | .lidx a i => pl fun l S => ((evT c a).1 l S).bind fun x S => if isLstP x then ((evT c i).1 l S).bind fun y S => pure2 lidxP x y S else .stuck
  | .catm a b => pl fun l S => ((evT c a).1 l S).bind fun x S => ((evT c b).1 l S).bind fun y S => catW x y S
  | .lrep a b => pl fun l S => ((evT c a).1 l S).bind fun x S => ((evT c b).1 l S).bind fun y S => repW x y S
  | .dsetd a i => pl fun l S => ((evT c a).1 l S).bind fun x S => if isDctS x S then ((evT c i).1 l S).bind fun y S => dsetdW x y S else .stuck
def tes (c : Cf) : EL → L → Sto → R Bool
  | .nil, _, S => .ok true S
  | .cons e r, l, S => ((evT c e).2 l S).bind fun k S => if k then tes c r l S else .ok false S
def evs (c : Cf) : EL → L → Sto → R (List W)
  | .nil, _, S => .ok [] S
  | .cons e r, l, S => ((evT c e).1 l S).bind fun x S => (evs c r l S).bind fun xs S => .ok (x :: xs) S
def evo (c : Cf) : OE → L → Sto → R (Option Int)
  | .no, _, S => .ok none S
  | .some e, l, S => ((evT c e).1 l S).bind fun x S => intR x S
def gt (c : Cf) : G → W → L → Sto → R L
  | .nm i, w, l, S => .ok (l.set i (some w)) S
  | .tup ts, w, l, S => match unpack (gcount ts) w with
    | some ws => gts c ts ws l S
    | none => .stuck
  | .sub o i, w, l, S => ((evT c o).1 l S).bind fun x S => ((evT c i).1 l S).bind fun y S => (setW x y w S).bind fun _ S => .ok l S
def gts (c : Cf) : GL → List W → L → Sto → R L
  | .nil, [], l, S => .ok l S
  | .cons t r, w :: ws, l, S => (gt c t w l S).bind fun l1 S => gts c r ws l1 S
  | _, _, _, _ => .stuck
def gcount : GL → Nat
  | .nil => 0
  | .cons _ r => gcount r + 1
end
def ev (c : Cf) (e : E) : L → Sto → R W := (evT c e).1
def te (c : Cf) (e : E) : L → Sto → R Bool := (evT c e).2
mutual
def ex (c : Cf) : T → L → Sto → SR
  | .pass, l, S => .nx l S
  | .expr e, l, S => SR.thenR (ev c e l S) l fun _ S => .nx l S
  | .asg t e, l, S => SR.thenR (ev c e l S) l fun w S => SR.thenR (gt c t w l S).calm l fun l1 S => .nx l1 S
  | .par2 i j a b, l, S => SR.thenR (ev c a l S) l fun x S => SR.thenR (ev c b l S) l fun y S => .nx ((l.set i (some x)).set j (some y)) S
  | .aug i o e, l, S => match l[i]? with
    | some (some x) => SR.thenR (ev c e l S) l fun y S => SR.thenR (pure2 (augop o) x y S) l fun z S => .nx (l.set i (some z)) S
    | _ => .stuck
  | .ret e, l, S => SR.thenR (ev c e l S) l fun w S => .rt w S
  | .retn, _, S => .rt (.pv .none) S
  | .if_ d a b, l, S => SR.thenR (te c d l S) l fun k S => if k then exs c a l S else exs c b l S
  | .for_ t k it body, l, S => SR.thenR (evs c it l S) l fun ws S => match items k ws with
    | some xs => forGo (fun x l S => SR.thenR (gt c t (.pv x) l S).calm l fun l1 S => exs c body l1 S) xs l S
    | none => .stuck
  | .while_ d body, l, S => whileGo (te c d) (exs c body) c.fuel l S
  | .raise x es, l, S => SR.thenR (evs c es l S) l fun ws S => match asPs ws with
    | some ps => .err ⟨x, ps⟩ l S
    | none => .stuck
  | .try_ body hs, l, S => match exs c body l S with
    | .err x l1 S1 => handle c hs x l1 S1
    | r => r
  | .brk, l, S => .bk l S
  | .cont, l, S => .ct l S
def exs (c : Cf) : TL → L → Sto → SR
  | .nil, l, S => .nx l S
  | .cons t r, l, S => (ex c t l S).seq fun l1 S1 => exs c r l1 S1
def handle (c : Cf) : HL → Ex → L → Sto → SR
  | .nil, x, l, S => .err x l S
  | .cons y suite r, x, l, S => match c.sub x.cls y with
    | some true => (exs c suite l S).calm
    | some false => handle c r x l S
    | none => .stuck
  | .named y i suite r, x, l, S => match c.sub x.cls y with
    | some true => (exs c suite (l.set i none) S).calm.gone i
    | some false => handle c r x l S
    | none => .stuck
end
/-- a def -/
structure Fn where
  name : Str
  params : List Str
  names : List Str
  body : TL
def startL (f : Fn) (ws : List W) : L := ws.map some ++ List.replicate (f.names.length - ws.length) none
def runFn (c : Cf) (f : Fn) (ws : List W) (S : Sto) : R W :=
  if ws.length = f.params.length then match exs c f.body (startL f ws) S with
    | .nx _ S => .ok (.pv .none) S
    | .rt w S => .ok w S
    | .err x _ S => .err x S
    | _ => .stuck
  else .stuck
/-- calls to a depth -/
def run (fns : List Fn) (sub : Str → Str → Option Bool) (fuel : Nat) : Nat → Nat → List W → Sto → R W
  | 0, _, _, _ => .stuck
  | d + 1, f, ws, S => match fns[f]? with
    | some fn => runFn ⟨fuel, run fns sub fuel d, sub⟩ fn ws S
    | none => .stuck
/-- which class catches which -/
def subOf (ex : List (Str × Str × Bool)) (x y : Str) : Option Bool := match ex with
  | [] => none
  | (a, b, k) :: r => if a = x ∧ b = y then some k else subOf r x y
end Mi
set_option Elab.async false
set_option linter.all false
set_option maxRecDepth 100000
set_option autoImplicit false
/-! Mi: how the small semantics lies in the layer's heap. -/
namespace Mi
open PySem PySem.Spec L2

theorem Paired.imp {α β : Type} {F G : α → β → Prop} (f : ∀ a b, F a b → G a b) : ∀ {l₁ : List α} {l₂ : List β}, Paired F l₁ l₂ → Paired G l₁ l₂
  | _, _, .nil => .nil
  | _, _, .cons r t => .cons (f _ _ r) (Paired.imp f t)

/-- the heap, the addresses of the store's objects, the store, the addresses of the callers' objects -/
structure Wd where
  H : Hp
  μ : List Addr
  S : Sto
  F : Addr → Prop
/-- a live object's address -/
def Wd.Ld (w : Wd) (a : Addr) : Prop := ∃ (n : Nat) (o : O), w.μ[n]? = some a ∧ w.S[n]? = some o ∧ o ≠ O.dead
/-- .. or one that a caller holds -/
def Wd.Lv (w : Wd) (a : Addr) : Prop := w.Ld a ∨ w.F a

/-- a tuple: in the heap (and no object that is changed), or of the written part -/
def SqB (K : PySem.W.Frag) (H : Hp) (B : Addr → Prop) (a : Addr) (xs : List V) : Prop :=
  (Rd H a (.tup xs) ∧ ¬ B a) ∨ ∃ (o : Obj) (its : Array Value) (n : Nat), K.lookup a = some o ∧ o.cls = .type "tuple" ∧ o.data = .seq its n ∧ its.size ≤ sizeLine ∧ Vals xs its.toList
/-- .. a list -/
def SqLB (K : PySem.W.Frag) (H : Hp) (B : Addr → Prop) (a : Addr) (xs : List V) : Prop :=
  (Rd H a (.lst xs) ∧ ¬ B a) ∨ ∃ (o : Obj) (its : Array Value) (n : Nat), K.lookup a = some o ∧ o.cls = .type "list" ∧ o.dict = none ∧ o.data = .seq its n ∧ its.size ≤ sizeLine ∧ Vals xs its.toList
theorem SqB.sq {K : PySem.W.Frag} {H : Hp} {B : Addr → Prop} {a : Addr} {xs : List V} (h : SqB K H B a xs) : SqT K H a xs := h.imp (fun z => z.1) fun z => z
theorem SqLB.sq {K : PySem.W.Frag} {H : Hp} {B : Addr → Prop} {a : Addr} {xs : List V} (h : SqLB K H B a xs) : SqL K H a xs := h.imp (fun z => z.1) fun z => z
theorem SqB.of {K : PySem.W.Frag} {H : Hp} {B : Addr → Prop} {a : Addr} {xs : List V} (h : SqT K H a xs) (n : ¬ B a) : SqB K H B a xs := h.imp (fun z => ⟨z, n⟩) fun z => z
theorem SqLB.of {K : PySem.W.Frag} {H : Hp} {B : Addr → Prop} {a : Addr} {xs : List V} (h : SqL K H a xs) (n : ¬ B a) : SqLB K H B a xs := h.imp (fun z => ⟨z, n⟩) fun z => z
mutual
inductive Rp (K : PySem.W.Frag) (H : Hp) (B : Addr → Prop) : V → P → Prop
  | non : Rp K H B .non .none
  | bl (b : Bool) : Rp K H B (.bl b) (.bool b)
  | int (i : Int) : Rp K H B (.int i) (.int i)
  | str (x : Str) : Rp K H B (.str x) (.str x)
  | lst {a : Addr} {xs : List V} {ds : List P} : H a = some (.lst xs) → ¬ B a → RpAll K H B xs ds → Rp K H B (.ref a) (.list ds)
  | tup {a : Addr} {xs : List V} {ds : List P} : SqB K H B a xs → True → RpAll K H B xs ds → Rp K H B (.ref a) (.tuple ds)
  | dct {a : Addr} {ks : List (Key × V)} {kvs : List (P × P)} : H a = some (.dK ks) → ¬ B a → RpKv K H B ks kvs → Rp K H B (.ref a) (.dict kvs)
inductive RpAll (K : PySem.W.Frag) (H : Hp) (B : Addr → Prop) : List V → List P → Prop
  | nil : RpAll K H B [] []
  | cons {v : V} {vs : List V} {d : P} {ds : List P} : Rp K H B v d → RpAll K H B vs ds → RpAll K H B (v :: vs) (d :: ds)
inductive RpKv (K : PySem.W.Frag) (H : Hp) (B : Addr → Prop) : List (Key × V) → List (P × P) → Prop
  | nil : RpKv K H B [] []
  | cons {k : Key} {v : V} {d : P} {ks : List (Key × V)} {kvs : List (P × P)} : Rp K H B v d → RpKv K H B ks kvs → RpKv K H B ((k, v) :: ks) ((kP k, d) :: kvs)
end

section
variable {K : PySem.W.Frag} {H H' : Hp} {B B' : Addr → Prop}
mutual
theorem Rp.dp : ∀ {v : V} {d : P}, Rp K H B v d → d.canLay0 = true → Dp K H v d
  | _, _, .non, _ => .non
  | _, _, .bl b, _ => .bl b
  | _, _, .int i, _ => .int i
  | _, _, .str x, _ => .str x
  | _, _, .lst h _ r, c => .lst (SqL.of h) (r.dp (by simpa [PyData.canLay0] using c))
  | _, _, .tup h _ r, c => .tup h.sq (r.dp (by simpa [PyData.canLay0] using c))
  | _, _, .dct _ _ _, c => by simp [PyData.canLay0] at c
theorem RpAll.dp : ∀ {v : List V} {d : List P}, RpAll K H B v d → PyData.canLayAll0 d = true → DpAll K H v d
  | _, _, .nil, _ => .nil
  | _, _, .cons r t, c => by
    rw [PyData.canLayAll0, Bool.and_eq_true] at c
    exact .cons (r.dp c.1) (t.dp c.2)
end
/-- what is kept -/
def Keeps (H H' : Hp) (B : Addr → Prop) : Prop := ∀ a o, H a = some o → ¬ B a → H' a = some o
theorem Rd.keep {a : Addr} {o : HO} (h : Rd H a o) (n : ¬ B a) (k : Keeps H H' B) : Rd H' a o := by
  rcases h with h | ⟨u, h⟩
  · exact .inl (k _ _ h n)
  · exact .inr ⟨u, k _ _ h n⟩
theorem Rd.held {a : Addr} {o : HO} (h : Rd H a o) : ∃ o, H a = some o := by
  rcases h with h | ⟨u, h⟩
  · exact ⟨_, h⟩
  · exact ⟨_, h⟩
theorem SqB.keep {a : Addr} {xs : List V} (k : Keeps H H' B) (hb : ∀ a, (∃ o, H a = some o) → ¬ B a → ¬ B' a) (h : SqB K H B a xs) : SqB K H' B' a xs :=
  h.imp (fun z => ⟨Rd.keep z.1 z.2 k, hb _ (Rd.held z.1) z.2⟩) fun z => z
theorem SqLB.keep {a : Addr} {xs : List V} (k : Keeps H H' B) (hb : ∀ a, (∃ o, H a = some o) → ¬ B a → ¬ B' a) (h : SqLB K H B a xs) : SqLB K H' B' a xs :=
  h.imp (fun z => ⟨Rd.keep z.1 z.2 k, hb _ (Rd.held z.1) z.2⟩) fun z => z
theorem Rp.mkTup {a : Addr} {xs : List V} {ds : List P} (h : SqT K H a xs) (n : ¬ B a) (r : RpAll K H B xs ds) : Rp K H B (.ref a) (.tuple ds) := .tup (SqB.of h n) trivial r
mutual
theorem Rp.keep (k : Keeps H H' B) (hb : ∀ a, (∃ o, H a = some o) → ¬ B a → ¬ B' a) : ∀ {v : V} {d : P}, Rp K H B v d → Rp K H' B' v d
  | _, _, .non => .non
  | _, _, .bl b => .bl b
  | _, _, .int i => .int i
  | _, _, .str x => .str x
  | _, _, .lst h n r => .lst (k _ _ h n) (hb _ ⟨_, h⟩ n) (r.keep k hb)
  | _, _, .tup h _ r => .tup (SqB.keep k hb h) trivial (r.keep k hb)
  | _, _, .dct h n r => .dct (k _ _ h n) (hb _ ⟨_, h⟩ n) (r.keep k hb)
theorem RpAll.keep (k : Keeps H H' B) (hb : ∀ a, (∃ o, H a = some o) → ¬ B a → ¬ B' a) : ∀ {v : List V} {d : List P}, RpAll K H B v d → RpAll K H' B' v d
  | _, _, .nil => .nil
  | _, _, .cons r t => .cons (r.keep k hb) (t.keep k hb)
theorem RpKv.keep (k : Keeps H H' B) (hb : ∀ a, (∃ o, H a = some o) → ¬ B a → ¬ B' a) : ∀ {v : List (Key × V)} {d : List (P × P)}, RpKv K H B v d → RpKv K H' B' v d
  | _, _, .nil => .nil
  | _, _, .cons r t => .cons (r.keep k hb) (t.keep k hb)
end
theorem keyP_kP : ∀ k : Int ⊕ Str, keyP (kP k) = some k
  | .inl _ => rfl
  | .inr _ => rfl
theorem RpKv.length : ∀ {v : List (Key × V)} {d : List (P × P)}, RpKv K H B v d → v.length = d.length
  | _, _, .nil => rfl
  | _, _, .cons _ t => by rw [List.length_cons, List.length_cons, t.length]
theorem RpKv.val {k : Int ⊕ Str} : ∀ {v : List (Key × V)} {d : List (P × P)}, RpKv K H B v d → (∀ p, dgetP d k = some p → ∃ x, valV v k = some x ∧ Rp K H B x p) ∧ (dgetP d k = none → valV v k = none)
  | _, _, .nil => ⟨fun p h => by simp [dgetP] at h, fun _ => rfl⟩
  | _, _, .cons (k := k') (ks := ks) (kvs := kvs) r t => by
    obtain ⟨i1, i2⟩ := RpKv.val (k := k) t
    by_cases e : k' = k
    · subst e
      refine ⟨fun p h => ?_, fun h => ?_⟩
      · simp [dgetP, keyP_kP] at h
        subst h
        exact ⟨_, by simp [valV], r⟩
      · simp [dgetP, keyP_kP] at h
    · refine ⟨fun p h => ?_, fun h => ?_⟩
      · have h' : dgetP kvs k = some p := by
          simp only [dgetP, List.find?_cons, keyP_kP, Option.some.injEq, e, decide_false] at h ⊢
          exact h
        obtain ⟨x, h1, h2⟩ := i1 p h'
        refine ⟨x, ?_, h2⟩
        simp only [valV, List.find?_cons, e, decide_false] at h1 ⊢
        exact h1
      · have h' : dgetP kvs k = none := by
          simp only [dgetP, List.find?_cons, keyP_kP, Option.some.injEq, e, decide_false] at h ⊢
          exact h
        have h1 := i2 h'
        simp only [valV, List.find?_cons, e, decide_false] at h1 ⊢
        exact h1
theorem RpKv.put {v : V} {p : P} (r : Rp K H B v p) (k : Int ⊕ Str) {ks : List (Key × V)} {kvs : List (P × P)} (h : RpKv K H B ks kvs) : RpKv K H B (putK ks k v) (putP kvs k p) := by
  have any : ∀ {ks : List (Key × V)} {kvs : List (P × P)}, RpKv K H B ks kvs → (ks.any fun kv => decide (kv.1 = k)) = (kvs.any fun kv => decide (keyP kv.1 = some k)) := by
    intro ks
    induction ks with
    | nil => intro kvs h; cases h; rfl
    | cons a ks ih =>
      intro kvs h
      cases h with
      | cons a b => rw [List.any_cons, List.any_cons, ih b, keyP_kP]; simp
  have m1 : ∀ {ks : List (Key × V)} {kvs : List (P × P)}, RpKv K H B ks kvs → RpKv K H B (ks.map fun kv => if kv.1 = k then (kv.1, v) else kv) (kvs.map fun kv => if keyP kv.1 = some k then (kv.1, p) else kv) := by
    intro ks
    induction ks with
    | nil => intro kvs h; cases h; exact .nil
    | cons a ks ih =>
      intro kvs h
      cases h with
      | cons a b =>
        rw [List.map_cons, List.map_cons]
        simp only [keyP_kP, Option.some.injEq]
        split
        · exact .cons r (ih b)
        · exact .cons a (ih b)
  have m2 : ∀ {ks : List (Key × V)} {kvs : List (P × P)}, RpKv K H B ks kvs → RpKv K H B (ks ++ [(k, v)]) (kvs ++ [(kP k, p)]) := by
    intro ks
    induction ks with
    | nil => intro kvs h; cases h; exact .cons r .nil
    | cons a ks ih =>
      intro kvs h
      cases h with
      | cons a b => exact .cons a (ih b)
  unfold putK putP
  rw [any h]
  split
  · exact m1 h
  · exact m2 h
theorem RpAll.length : ∀ {v : List V} {d : List P}, RpAll K H B v d → v.length = d.length
  | _, _, .nil => rfl
  | _, _, .cons _ t => by rw [List.length_cons, List.length_cons, t.length]
theorem RpAll.get : ∀ {v : List V} {d : List P} {i : Nat} {p : P}, RpAll K H B v d → d[i]? = some p → ∃ x, v[i]? = some x ∧ Rp K H B x p
  | _, _, _, _, .nil, e => by simp at e
  | _, _, 0, _, .cons r _, e => by simp at e; subst e; exact ⟨_, rfl, r⟩
  | _, _, i + 1, p, .cons _ t, e => by
    obtain ⟨x, h1, h2⟩ := RpAll.get (i := i) (p := p) t (by simpa using e)
    exact ⟨x, by simpa using h1, h2⟩
theorem RpAll.append : ∀ {v v' : List V} {d d' : List P}, RpAll K H B v d → RpAll K H B v' d' → RpAll K H B (v ++ v') (d ++ d')
  | _, _, _, _, .nil, s => s
  | _, _, _, _, .cons r t, s => .cons r (t.append s)
theorem RpAll.take (n : Nat) : ∀ {v : List V} {d : List P}, RpAll K H B v d → RpAll K H B (v.take n) (d.take n) := by
  induction n with
  | zero => intro v d _; simp; exact .nil
  | succ n ih =>
    intro v d h
    cases h with
    | nil => simp; exact .nil
    | cons r t => simp only [List.take_succ_cons]; exact .cons r (ih t)
theorem RpAll.drop (n : Nat) : ∀ {v : List V} {d : List P}, RpAll K H B v d → RpAll K H B (v.drop n) (d.drop n) := by
  induction n with
  | zero => intro v d h; simpa using h
  | succ n ih =>
    intro v d h
    cases h with
    | nil => simp; exact .nil
    | cons r t => simp only [List.drop_succ_cons]; exact ih t
end

/-- a value of the small semantics, at the layer's -/
def Rv (K : PySem.W.Frag) (w : Wd) (v : V) : W → Prop
  | .pv p => Rp K w.H w.Lv v p
  | .rf n => ∃ a, w.μ[n]? = some a ∧ v = .ref a
  | .sc ns => ∃ a, v = .ref a ∧ SqLB K w.H w.Lv a (ns.map V.int)
abbrev Rvs (K : PySem.W.Frag) (w : Wd) : List V → List W → Prop := Paired (Rv K w)
/-- an object of the store -/
def Ro (K : PySem.W.Frag) (w : Wd) (a : Addr) : O → Prop
  | .lst ws => ∃ vs, w.H a = some (.lst vs) ∧ Rvs K w vs ws
  | .dct kvs => ∃ ks : List (Key × V), w.H a = some (.dK ks) ∧ Paired (fun p q => p.1 = q.1 ∧ Rv K w p.2 q.2) ks kvs
  | .dead => True
/-- the store is held -/
structure Ok (K : PySem.W.Frag) (w : Wd) : Prop where
  len : w.μ.length = w.S.length
  inj : ∀ (i j : Nat) (a : Addr) (o o' : O), w.μ[i]? = some a → w.μ[j]? = some a → w.S[i]? = some o → o ≠ O.dead → w.S[j]? = some o' → o' ≠ O.dead → i = j
  obj : ∀ (n : Nat) (a : Addr) (o : O), w.μ[n]? = some a → w.S[n]? = some o → Ro K w a o
  frm : ∀ a, w.F a → ∃ o, w.H a = some o
  dis : ∀ a, w.Ld a → ¬ w.F a
structure Ext (K : PySem.W.Frag) (w w' : Wd) : Prop where
  keep : Keeps w.H w'.H w.Ld
  new : ∀ a, w'.Ld a → w.Ld a ∨ w.H a = none
  frm : w'.F = w.F
  pre : ∀ (n : Nat) (a : Addr), w.μ[n]? = some a → w'.μ[n]? = some a
section
variable {K : PySem.W.Frag} {w w' w'' : Wd}
theorem Ext.refl : Ext K w w := ⟨fun _ _ h _ => h, fun _ h => .inl h, rfl, fun _ _ h => h⟩
theorem Ext.heldL (e : Ext K w w') {a : Addr} (h : ∃ o, w.H a = some o) (n : ¬ w.Ld a) : ¬ w'.Ld a := fun q => by
  rcases e.new a q with z | z
  · exact n z
  · obtain ⟨o, h⟩ := h
    rw [z] at h; cases h
theorem Ext.held (e : Ext K w w') {a : Addr} (h : ∃ o, w.H a = some o) (n : ¬ w.Lv a) : ¬ w'.Lv a := fun q => by
  rcases q with q | q
  · exact e.heldL h (fun z => n (.inl z)) q
  · rw [e.frm] at q; exact n (.inr q)
theorem Ext.keepV (e : Ext K w w') : Keeps w.H w'.H w.Lv := fun a o h n => e.keep a o h fun z => n (.inl z)
theorem Ext.trans (a : Ext K w w') (b : Ext K w' w'') : Ext K w w'' where
  keep := fun x o h n => b.keep x o (a.keep x o h n) (a.heldL ⟨o, h⟩ n)
  new := fun x h => by
    rcases b.new x h with z | z
    · exact a.new x z
    · by_cases n : w.Ld x
      · exact .inl n
      · refine .inr ?_
        cases q : w.H x with
        | none => rfl
        | some o => rw [a.keep x o q n] at z; cases z
  frm := b.frm.trans a.frm
  pre := fun n x h => b.pre n x (a.pre n x h)
theorem Rp.ext (e : Ext K w w') {v : V} {p : P} (h : Rp K w.H w.Lv v p) : Rp K w'.H w'.Lv v p := h.keep e.keepV fun _ => e.held
theorem RpKv.ext (e : Ext K w w') {v : List (Key × V)} {p : List (P × P)} (h : RpKv K w.H w.Lv v p) : RpKv K w'.H w'.Lv v p := h.keep e.keepV fun _ => e.held
theorem RpAll.ext (e : Ext K w w') {v : List V} {p : List P} (h : RpAll K w.H w.Lv v p) : RpAll K w'.H w'.Lv v p := h.keep e.keepV fun _ => e.held
theorem Rv.ext (e : Ext K w w') {v : V} {x : W} (h : Rv K w v x) : Rv K w' v x := by
  cases x with
  | pv p => exact Rp.ext e h
  | rf n => obtain ⟨a, h1, h2⟩ := h; exact ⟨a, e.pre n a h1, h2⟩
  | sc ns => obtain ⟨a, h1, h2⟩ := h; exact ⟨a, h1, SqLB.keep e.keepV (fun _ => e.held) h2⟩
theorem Rvs.ext (e : Ext K w w') {v : List V} {x : List W} (h : Rvs K w v x) : Rvs K w' v x := Paired.imp (fun _ _ => Rv.ext e) h
end
/-- the locals: what the small semantics knows, the frame holds -/
structure Lr (K : PySem.W.Frag) (w : Wd) (σ : L2.St) (l : L) : Prop where
  len : σ.length = l.length
  get : ∀ (i : Nat) (x : W), l[i]? = some (some x) → ∃ v, σ[i]? = some (some v) ∧ Rv K w v x
section
variable {K : PySem.W.Frag} {w w' : Wd} {σ : L2.St} {l : L}
theorem Lr.ext (e : Ext K w w') (h : Lr K w σ l) : Lr K w' σ l := ⟨h.len, fun i x q => let ⟨v, a, b⟩ := h.get i x q; ⟨v, a, b.ext e⟩⟩
theorem Lr.set (h : Lr K w σ l) {v : V} {x : W} (r : Rv K w v x) (i : Nat) : Lr K w (σ.set i (some v)) (l.set i (some x)) := by
  refine ⟨by rw [List.length_set, List.length_set, h.len], fun j y q => ?_⟩
  by_cases e : i = j
  · subst e
    by_cases hl : i < l.length
    · rw [List.getElem?_set_self hl] at q
      cases q
      exact ⟨v, by rw [List.getElem?_set_self (by rw [h.len]; exact hl)], r⟩
    · rw [List.getElem?_eq_none (by simpa using hl)] at q; cases q
  · rw [List.getElem?_set_ne e] at q
    obtain ⟨u, a, b⟩ := h.get j y q
    exact ⟨u, by rw [List.getElem?_set_ne e]; exact a, b⟩
theorem Lr.unset (h : Lr K w σ l) (i : Nat) : Lr K w (σ.set i none) (l.set i none) := by
  refine ⟨by rw [List.length_set, List.length_set, h.len], fun j y q => ?_⟩
  by_cases e : i = j
  · subst e
    by_cases hl : i < l.length
    · rw [List.getElem?_set_self hl] at q; cases q
    · rw [List.getElem?_eq_none (by simpa using hl)] at q; cases q
  · rw [List.getElem?_set_ne e] at q
    obtain ⟨u, a, b⟩ := h.get j y q
    exact ⟨u, by rw [List.getElem?_set_ne e]; exact a, b⟩
theorem Lr.wipe (h : Lr K w σ l) : ∀ vs : List Nat, Lr K w (L2.wipe σ vs) (Mi.wipe l vs)
  | [] => h
  | v :: vs => by
    unfold L2.wipe Mi.wipe
    exact (h.wipe vs).unset v
end

/-! ### what follows a piece of code -/
/-- the classes of exceptions by names -/
def Xr (K : PySem.W.Frag) (w : Wd) (cls : Value) (d : Option Addr) (x : Ex) : Prop := cls = .ref (He.ga K x.cls) ∧ d = none ∧ x.fs = []
def After {α β : Type} (K : PySem.W.Frag) (E : WX) (RV : Wd → β → α → Prop) (r : R α) (w : Wd) (σ : L2.St) (Q : β → Hp → Prop) : Prop := match r with
  | .ok x S => ∀ (w' : Wd) (v : β), w'.S = S → Ext K w w' → Ok K w' → RV w' v x → Q v w'.H
  | .err x S => ∀ (w' : Wd) (cls : Value) (d : Option Addr), w'.S = S → Ext K w w' → Ok K w' → Xr K w' cls d x → E cls d σ w'.H
  | .stuck => False
section
variable {α β γ δ : Type} {K : PySem.W.Frag} {E : WX} {RV : Wd → β → α → Prop} {RV2 : Wd → δ → γ → Prop} {r : R α} {w w1 : Wd} {σ : L2.St} {Q Q' : β → Hp → Prop} {Q2 : δ → Hp → Prop}
theorem After.mono (e : Ext K w w1) (h : After K E RV r w σ Q) : After K E RV r w1 σ Q := by
  cases r with
  | ok a S => exact fun w' v h1 h2 h3 h4 => h w' v h1 (e.trans h2) h3 h4
  | err x S => exact fun w' c d h1 h2 h3 h4 => h w' c d h1 (e.trans h2) h3 h4
  | stuck => exact h
theorem After.imp (h : After K E RV r w σ Q) (i : ∀ w' v x S, r = .ok x S → w'.S = S → Ext K w w' → Ok K w' → RV w' v x → Q v w'.H → Q' v w'.H) : After K E RV r w σ Q' := by
  cases r with
  | ok a S => exact fun w' v h1 h2 h3 h4 => i w' v a S rfl h1 h2 h3 h4 (h w' v h1 h2 h3 h4)
  | err x S => exact h
  | stuck => exact h
theorem After.bind {g : α → Sto → R γ} (RV : Wd → β → α → Prop) (h : After K E RV2 (r.bind g) w σ Q2) :
    After K E RV r w σ fun v H1 => ∃ (w1 : Wd) (x : α), w1.H = H1 ∧ Ext K w w1 ∧ Ok K w1 ∧ RV w1 v x ∧ After K E RV2 (g x w1.S) w1 σ Q2 := by
  cases r with
  | ok a S =>
    intro w' v h1 h2 h3 h4
    refine ⟨w', a, rfl, h2, h3, h4, ?_⟩
    have h' : After K E RV2 (g a S) w σ Q2 := h
    rw [h1]
    exact h'.mono h2
  | err x S => exact h
  | stuck => exact h
end
def RvB (_ : Wd) (a b : Bool) : Prop := a = b
/-- an expression's reading by its meaning f; a test's; an argument list's -/
def tE (K : PySem.W.Frag) (E : WX) (f : L → Sto → R W) : TE := fun σ H Q => ∃ (w : Wd) (l : L), w.H = H ∧ Ok K w ∧ Lr K w σ l ∧ After K E (Rv K) (f l w.S) w σ Q
def tT (K : PySem.W.Frag) (E : WX) (f : L → Sto → R Bool) : TT := fun σ H Q => ∃ (w : Wd) (l : L), w.H = H ∧ Ok K w ∧ Lr K w σ l ∧ After K E RvB (f l w.S) w σ Q
def tA (K : PySem.W.Frag) (E : WX) (f : L → Sto → R (List W)) : TA := fun σ H Q => ∃ (w : Wd) (l : L), w.H = H ∧ Ok K w ∧ Lr K w σ l ∧ After K E (Rvs K) (f l w.S) w σ Q
/-- an operation on values by its meaning -/
def AfterV (K : PySem.W.Frag) (r : R W) (w : Wd) (Q : VK) : Prop := match r with
  | .ok x S => ∀ (w' : Wd) (v : V), w'.S = S → Ext K w w' → Ok K w' → Rv K w' v x → Q v w'.H
  | _ => False
def rB (K : PySem.W.Frag) (h : W → W → Sto → R W) : R2 := fun x y H Q => ∃ (w : Wd) (a b : W), w.H = H ∧ Ok K w ∧ Rv K w x a ∧ Rv K w y b ∧ AfterV K (h a b w.S) w Q
def rU1 (K : PySem.W.Frag) (h : W → Sto → R W) : V → Hp → VK → Prop := fun x H Q => ∃ (w : Wd) (a : W), w.H = H ∧ Ok K w ∧ Rv K w x a ∧ AfterV K (h a w.S) w Q
def rL (K : PySem.W.Frag) (h : List W → Sto → R W) : List V → Hp → VK → Prop := fun xs H Q => ∃ (w : Wd) (as : List W), w.H = H ∧ Ok K w ∧ Rvs K w xs as ∧ AfterV K (h as w.S) w Q
def NoErr {α : Type} (r : R α) : Prop := ∀ x S, r ≠ .err x S
theorem AfterV.of {K : PySem.W.Frag} {E : WX} {r : R W} {w : Wd} {σ : L2.St} {Q : VK} (n : NoErr r) (h : After K E (Rv K) r w σ Q) : AfterV K r w Q := by
  cases r with
  | ok a S => exact h
  | err x S => exact absurd rfl (n x S)
  | stuck => exact h
section
variable {X : Cx} {e : Expr}
theorem PE.imp' {t t' : TE} (h : PE X e t) (i : ∀ σ H Q, t' σ H Q → t σ H Q) : PE X e t' := ⟨fun pins s σ H Q I q => h.run pins s σ H Q I (i σ H Q q)⟩
theorem PT.imp' {t t' : TT} (h : PT X e t) (i : ∀ σ H Q, t' σ H Q → t σ H Q) : PT X e t' := ⟨fun pins s σ H Q I q => h.run pins s σ H Q I (i σ H Q q)⟩
theorem PW.imp' {t t' : TT} (h : PW X e t) (i : ∀ σ H Q, t' σ H Q → t σ H Q) : PW X e t' := ⟨fun wh pins s σ H Q I q => h.run wh pins s σ H Q I (i σ H Q q)⟩
theorem PA.imp' {es : List Expr} {t t' : TA} (h : PA X es t) (i : ∀ σ H Q, t' σ H Q → t σ H Q) : PA X es t' := ⟨fun pos pins s σ H Q I q => h.run pos pins s σ H Q I (i σ H Q q)⟩
theorem PS.imp' {st : Stmt} {t t' : TS} (h : PS X st t) (i : ∀ D σ H, t' D σ H → t D σ H) : PS X st t' := ⟨fun pins s σ H D I q => h.run pins s σ H D I (i D σ H q)⟩
theorem PSs.imp' {st : List Stmt} {t t' : TS} (h : PSs X st t) (i : ∀ D σ H, t' D σ H → t D σ H) : PSs X st t' := ⟨fun pins s σ H D I q => h.run pins s σ H D I (i D σ H q)⟩
end
/-- one expression, then another, in readings -/
theorem tE.bind {K : PySem.W.Frag} {E : WX} {γ δ : Type} {f : L → Sto → R W} {g : W → L → Sto → R γ} {RV2 : Wd → δ → γ → Prop} {w : Wd} {l : L} {σ : L2.St} {H : Hp} {Q : δ → Hp → Prop} {Q1 : VK} (eH : w.H = H) (ok : Ok K w) (lr : Lr K w σ l)
    (h : After K E RV2 ((f l w.S).bind fun x S => g x l S) w σ Q)
    (i : ∀ (w1 : Wd) (v : V) (x : W), Ext K w w1 → Ok K w1 → Lr K w1 σ l → Rv K w1 v x → After K E RV2 (g x l w1.S) w1 σ Q → Q1 v w1.H) : tE K E f σ H Q1 := by
  refine ⟨w, l, eH, ok, lr, (h.bind (Rv K)).imp fun w' v x S _ _ _ _ _ q => ?_⟩
  obtain ⟨w1, y, e1, e, o, r, a⟩ := q
  rw [← e1]
  exact i w1 v y e o (lr.ext e) r a
theorem tT.bind {K : PySem.W.Frag} {E : WX} {γ δ : Type} {f : L → Sto → R Bool} {g : Bool → L → Sto → R γ} {RV2 : Wd → δ → γ → Prop} {w : Wd} {l : L} {σ : L2.St} {H : Hp} {Q : δ → Hp → Prop} {Q1 : Bool → Hp → Prop} (eH : w.H = H) (ok : Ok K w) (lr : Lr K w σ l)
    (h : After K E RV2 ((f l w.S).bind fun x S => g x l S) w σ Q)
    (i : ∀ (w1 : Wd) (v : Bool), Ext K w w1 → Ok K w1 → Lr K w1 σ l → After K E RV2 (g v l w1.S) w1 σ Q → Q1 v w1.H) : tT K E f σ H Q1 := by
  refine ⟨w, l, eH, ok, lr, (h.bind RvB).imp fun w' v x S _ _ _ _ _ q => ?_⟩
  obtain ⟨w1, y, e1, e, o, r, a⟩ := q
  rw [← e1]
  cases r
  exact i w1 v e o (lr.ext e) a
theorem tA.bind {K : PySem.W.Frag} {E : WX} {γ δ : Type} {f : L → Sto → R (List W)} {g : List W → L → Sto → R γ} {RV2 : Wd → δ → γ → Prop} {w : Wd} {l : L} {σ : L2.St} {H : Hp} {Q : δ → Hp → Prop} {Q1 : List V → Hp → Prop} (eH : w.H = H) (ok : Ok K w) (lr : Lr K w σ l)
    (h : After K E RV2 ((f l w.S).bind fun x S => g x l S) w σ Q)
    (i : ∀ (w1 : Wd) (v : List V) (x : List W), Ext K w w1 → Ok K w1 → Lr K w1 σ l → Rvs K w1 v x → After K E RV2 (g x l w1.S) w1 σ Q → Q1 v w1.H) : tA K E f σ H Q1 := by
  refine ⟨w, l, eH, ok, lr, (h.bind (Rvs K)).imp fun w' v x S _ _ _ _ _ q => ?_⟩
  obtain ⟨w1, y, e1, e, o, r, a⟩ := q
  rw [← e1]
  exact i w1 v y e o (lr.ext e) r a
end Mi
set_option Elab.async false
set_option linter.all false
set_option maxRecDepth 100000
set_option autoImplicit false
/-! Mi: expressions. -/
namespace Mi
open PySem PySem.Spec L2

/-! ### worlds behind a step -/
section
variable {K : PySem.W.Frag} {w : Wd}
theorem Ok.some (o : Ok K w) {a : Addr} (h : w.Lv a) : ∃ u, w.H a = .some u := by
  rcases h with ⟨n, x, h1, h2, h3⟩ | h
  · have := o.obj n a x h1 h2
    cases x with
    | lst ws => obtain ⟨vs, e, _⟩ := this; exact ⟨_, e⟩
    | dct kvs => obtain ⟨vs, e, _⟩ := this; exact ⟨_, e⟩
    | dead => exact absurd rfl h3
  · exact o.frm a h
theorem Ok.nlv (o : Ok K w) {p : Addr} (h : w.H p = none) : ¬ w.Lv p := fun q => by
  obtain ⟨u, e⟩ := o.some q
  rw [h] at e; cases e
theorem frm_upd (o : Ok K w) {p : Addr} {u : HO} : ∀ a, w.F a → ∃ o, upd w.H p u a = .some o := fun a h => by
  obtain ⟨x, e⟩ := o.frm a h
  by_cases q : a = p
  · subst q; exact ⟨u, upd_same⟩
  · exact ⟨x, by rw [upd_ne q]; exact e⟩
/-- a new thing that is not of the store -/
theorem laid (o : Ok K w) {p : Addr} (h : w.H p = none) (u : HO) : Ext K w ⟨upd w.H p u, w.μ, w.S, w.F⟩ ∧ Ok K ⟨upd w.H p u, w.μ, w.S, w.F⟩ := by
  have e : Ext K w ⟨upd w.H p u, w.μ, w.S, w.F⟩ := by
    refine ⟨fun a x h1 _ => ?_, fun a h1 => .inl h1, rfl, fun _ _ h1 => h1⟩
    show upd w.H p u a = _
    rw [upd_ne (ne_of_none h1 h)]; exact h1
  refine ⟨e, o.len, o.inj, fun n a x h1 h2 => ?_, frm_upd o, o.dis⟩
  have q := o.obj n a x h1 h2
  have hp : ∀ y, w.H a = .some y → upd w.H p u a = .some y := fun y hy => by rw [upd_ne (ne_of_none hy h)]; exact hy
  cases x with
  | lst ws => obtain ⟨vs, e1, r⟩ := q; exact ⟨vs, hp _ e1, Rvs.ext e r⟩
  | dct kvs => obtain ⟨vs, e1, r⟩ := q; exact ⟨vs, hp _ e1, Paired.imp (fun _ _ z => ⟨z.1, Rv.ext e z.2⟩) r⟩
  | dead => trivial
theorem get_snoc {α : Type} {l : List α} {x y : α} {n : Nat} (h : (l ++ [x])[n]? = .some y) : (n < l.length ∧ l[n]? = .some y) ∨ (n = l.length ∧ y = x) := by
  by_cases hn : n < l.length
  · rw [List.getElem?_append_left hn] at h; exact .inl ⟨hn, h⟩
  · rw [List.getElem?_append_right (by omega)] at h
    by_cases e : n - l.length = 0
    · rw [e] at h; simp at h; exact .inr ⟨by omega, h.symm⟩
    · rw [List.getElem?_eq_none (by simp; omega)] at h; cases h
theorem snoc_get {α : Type} {l : List α} {x : α} : (l ++ [x])[l.length]? = .some x := by simp
theorem snoc_lt {α : Type} {l : List α} {x y : α} {n : Nat} (h : l[n]? = .some y) : (l ++ [x])[n]? = .some y := by
  have hn : n < l.length := by
    rcases List.getElem?_eq_some_iff.mp h with ⟨z, _⟩; exact z
  rw [List.getElem?_append_left hn]; exact h
/-- a new object of the store -/
theorem made (o : Ok K w) {p : Addr} (h : w.H p = none) {u : HO} {x : O} (hx : ∀ w', Ext K w w' → w'.H p = .some u → Ro K w' p x) :
    Ext K w ⟨upd w.H p u, w.μ ++ [p], w.S ++ [x], w.F⟩ ∧ Ok K ⟨upd w.H p u, w.μ ++ [p], w.S ++ [x], w.F⟩ := by
  have lv : ∀ a, (⟨upd w.H p u, w.μ ++ [p], w.S ++ [x], w.F⟩ : Wd).Ld a → w.Ld a ∨ a = p := fun a ⟨n, y, h1, h2, h3⟩ => by
    rcases get_snoc h1 with ⟨n1, e1⟩ | ⟨n1, e1⟩
    · rcases get_snoc h2 with ⟨n2, e2⟩ | ⟨n2, e2⟩
      · exact .inl ⟨n, y, e1, e2, h3⟩
      · have := o.len; omega
    · exact .inr e1
  have e : Ext K w ⟨upd w.H p u, w.μ ++ [p], w.S ++ [x], w.F⟩ := by
    refine ⟨fun a y h1 _ => ?_, fun a h1 => ?_, rfl, fun _ _ h1 => snoc_lt h1⟩
    · show upd w.H p u a = _
      rw [upd_ne (ne_of_none h1 h)]; exact h1
    · rcases lv a h1 with z | rfl
      · exact .inl z
      · exact .inr h
  have old : ∀ n a y, w.μ[n]? = .some a → w.S[n]? = .some y → y ≠ O.dead → a ≠ p := fun n a y h1 h2 h3 z => by
    subst z
    exact o.nlv h (.inl ⟨n, y, h1, h2, h3⟩)
  refine ⟨e, by simp [o.len], fun i j a y y' h1 h2 h3 h4 h5 h6 => ?_, fun n a y h1 h2 => ?_, frm_upd o, fun a h1 h2 => ?_⟩
  · rcases get_snoc h1 with ⟨n1, e1⟩ | ⟨n1, e1⟩ <;> rcases get_snoc h2 with ⟨n2, e2⟩ | ⟨n2, e2⟩
    · rcases get_snoc h3 with ⟨n3, e3⟩ | ⟨n3, e3⟩
      · rcases get_snoc h5 with ⟨n5, e5⟩ | ⟨n5, e5⟩
        · exact o.inj i j a y y' e1 e2 e3 h4 e5 h6
        · have := o.len; omega
      · have := o.len; omega
    · rcases get_snoc h3 with ⟨n3, e3⟩ | ⟨n3, e3⟩
      · exact absurd e2 (old i a y e1 e3 h4)
      · have := o.len; omega
    · rcases get_snoc h5 with ⟨n5, e5⟩ | ⟨n5, e5⟩
      · exact absurd e1 (old j a y' e2 e5 h6)
      · have := o.len; omega
    · omega
  · rcases get_snoc h2 with ⟨n2, e2⟩ | ⟨n2, e2⟩
    · rcases get_snoc h1 with ⟨n1, e1⟩ | ⟨n1, e1⟩
      · have q := o.obj n a y e1 e2
        have hp : ∀ y, w.H a = .some y → upd w.H p u a = .some y := fun y hy => by rw [upd_ne (ne_of_none hy h)]; exact hy
        cases y with
        | lst ws => obtain ⟨vs, e1, r⟩ := q; exact ⟨vs, hp _ e1, Rvs.ext e r⟩
        | dct kvs => obtain ⟨vs, e1, r⟩ := q; exact ⟨vs, hp _ e1, Paired.imp (fun _ _ z => ⟨z.1, Rv.ext e z.2⟩) r⟩
        | dead => trivial
      · have := o.len; omega
    · rcases get_snoc h1 with ⟨n1, e1⟩ | ⟨n1, e1⟩
      · have := o.len; omega
      · subst e1; subst e2
        exact hx _ e upd_same
  · rcases lv a h1 with z | rfl
    · exact o.dis a z h2
    · exact o.nlv h (.inr h2)
/-- an object of the store is changed -/
theorem wrote (o : Ok K w) {n : Nat} {p : Addr} {x y : O} {u : HO} (h1 : w.μ[n]? = .some p) (h2 : w.S[n]? = .some x) (h3 : x ≠ O.dead) (hy : ∀ w', Ext K w w' → w'.H p = .some u → Ro K w' p y) :
    Ext K w ⟨upd w.H p u, w.μ, w.S.set n y, w.F⟩ ∧ Ok K ⟨upd w.H p u, w.μ, w.S.set n y, w.F⟩ := by
  have lp : w.Ld p := ⟨n, x, h1, h2, h3⟩
  have hn : n < w.S.length := by rcases List.getElem?_eq_some_iff.mp h2 with ⟨z, _⟩; exact z
  have lv : ∀ a, (⟨upd w.H p u, w.μ, w.S.set n y, w.F⟩ : Wd).Ld a → w.Ld a := fun a ⟨m, z, e1, e2, e3⟩ => by
    by_cases q : n = m
    · subst q
      have e1 : w.μ[n]? = .some a := e1
      rw [h1] at e1; cases e1; exact lp
    · have e2 : (w.S.set n y)[m]? = .some z := e2
      rw [List.getElem?_set_ne q] at e2
      exact ⟨m, z, e1, e2, e3⟩
  have e : Ext K w ⟨upd w.H p u, w.μ, w.S.set n y, w.F⟩ := by
    refine ⟨fun a z h4 h5 => ?_, fun a h4 => .inl (lv a h4), rfl, fun _ _ h4 => h4⟩
    have : a ≠ p := fun q => h5 (q ▸ lp)
    show upd w.H p u a = _
    rw [upd_ne this]; exact h4
  have back : ∀ (m : Nat) (z : O), (w.S.set n y)[m]? = .some z → z ≠ O.dead → ∃ z', w.S[m]? = .some z' ∧ z' ≠ O.dead := fun m z e2 e3 => by
    by_cases q : n = m
    · subst q; exact ⟨x, h2, h3⟩
    · rw [List.getElem?_set_ne q] at e2; exact ⟨z, e2, e3⟩
  refine ⟨e, by simpa using o.len, fun i j a z z' a1 a2 a3 a4 a5 a6 => ?_, fun m a z a1 a2 => ?_, frm_upd o, fun a h => o.dis a (lv a h)⟩
  · obtain ⟨q1, b1, b2⟩ := back i z a3 a4
    obtain ⟨q2, b3, b4⟩ := back j z' a5 a6
    exact o.inj i j a q1 q2 a1 a2 b1 b2 b3 b4
  · have a1 : w.μ[m]? = .some a := a1
    have a2 : (w.S.set n y)[m]? = .some z := a2
    by_cases q : n = m
    · subst q
      rw [h1] at a1; cases a1
      rw [List.getElem?_set_self hn] at a2; cases a2
      exact hy _ e upd_same
    · rw [List.getElem?_set_ne q] at a2
      have q' := o.obj m a z a1 a2
      cases z with
      | dead => trivial
      | lst ws =>
        have ne : a ≠ p := fun z => q (o.inj n m p x (.lst ws) h1 (z ▸ a1) h2 h3 a2 (by intro z; cases z))
        obtain ⟨vs, e1, r⟩ := q'
        exact ⟨vs, (upd_ne ne).trans e1, Rvs.ext e r⟩
      | dct ws =>
        have ne : a ≠ p := fun z => q (o.inj n m p x (.dct ws) h1 (z ▸ a1) h2 h3 a2 (by intro z; cases z))
        obtain ⟨vs, e1, r⟩ := q'
        exact ⟨vs, (upd_ne ne).trans e1, Paired.imp (fun _ _ z => ⟨z.1, Rv.ext e z.2⟩) r⟩
/-- an object of the store is let go -/
theorem freed (o : Ok K w) {n : Nat} : Ext K w ⟨w.H, w.μ, w.S.set n .dead, w.F⟩ ∧ Ok K ⟨w.H, w.μ, w.S.set n .dead, w.F⟩ := by
  have get : ∀ (m : Nat) (z : O), (w.S.set n .dead)[m]? = .some z → z ≠ O.dead → w.S[m]? = .some z := fun m z e2 e3 => by
    by_cases q : n = m
    · subst q
      by_cases hn : n < w.S.length
      · rw [List.getElem?_set_self hn] at e2; cases e2; exact absurd rfl e3
      · rw [List.getElem?_eq_none (by simpa using hn)] at e2; cases e2
    · rw [List.getElem?_set_ne q] at e2; exact e2
  have lv : ∀ a, (⟨w.H, w.μ, w.S.set n .dead, w.F⟩ : Wd).Ld a → w.Ld a := fun a ⟨m, z, e1, e2, e3⟩ => ⟨m, z, e1, get m z e2 e3, e3⟩
  have e : Ext K w ⟨w.H, w.μ, w.S.set n .dead, w.F⟩ := ⟨fun a z h4 h5 => h4, fun a h => .inl (lv a h), rfl, fun _ _ h4 => h4⟩
  refine ⟨e, by simpa using o.len, fun i j a z z' a1 a2 a3 a4 a5 a6 => o.inj i j a z z' a1 a2 (get i z a3 a4) a4 (get j z' a5 a6) a6, fun m a z a1 a2 => ?_, o.frm, fun a h => o.dis a (lv a h)⟩
  cases z with
  | dead => trivial
  | lst ws =>
    obtain ⟨vs, e1, r⟩ := o.obj m a _ a1 (get m _ a2 (by intro z; cases z))
    exact ⟨vs, e1, Rvs.ext e r⟩
  | dct ws =>
    obtain ⟨vs, e1, r⟩ := o.obj m a _ a1 (get m _ a2 (by intro z; cases z))
    exact ⟨vs, e1, Paired.imp (fun _ _ z => ⟨z.1, Rv.ext e z.2⟩) r⟩
theorem Rvs.pure : ∀ {vs : List V} {ws : List W} {ps : List P}, Rvs K w vs ws → asPs ws = .some ps → RpAll K w.H w.Lv vs ps
  | _, _, _, .nil, e => by cases e; exact .nil
  | _, .pv p :: ws, ps, .cons r t, e => by
    unfold asPs at e
    cases q : asPs ws with
    | none => rw [q] at e; cases e
    | some qs => rw [q] at e; cases e; exact .cons r (Rvs.pure t q)
  | _, .rf _ :: _, _, .cons _ _, e => by cases e
  | _, .sc _ :: _, _, .cons _ _, e => by cases e
theorem RpAll.rvs : ∀ {vs : List V} {ps : List P}, RpAll K w.H w.Lv vs ps → Rvs K w vs (ps.map .pv)
  | _, _, .nil => .nil
  | _, _, .cons r t => .cons r (RpAll.rvs t)
theorem Rvs.length {vs : List V} {ws : List W} (h : Rvs K w vs ws) : vs.length = ws.length := Paired.length h
end

/-! ### expressions -/
section
variable {X : Cx} {E : WX} {a b d : Expr} {f g h : L → Sto → R W} {pos : Pos}
theorem s_var {i : Nat} {x : Str} (hN : X.N[i]? = some x) (hv : Vis X.env.scope x) (hd : (x == ("__debug__" : Str)) = false) (hcd : (x == ("__classdict__" : Str)) = false) :
    PE X (.Name x pos) (tE X.K E fun l S => match l[i]? with
      | some (some w) => .ok w S
      | _ => .stuck) := by
  refine PE.imp' (pe_var hN hv hd hcd) fun σ H Q ⟨w, l, eH, ok, lr, h⟩ => ?_
  dsimp only at h
  cases q : l[i]? with
  | none => rw [q] at h; exact h.elim
  | some o =>
    cases o with
    | none => rw [q] at h; exact h.elim
    | some y =>
      rw [q] at h
      obtain ⟨v, h1, h2⟩ := lr.get i y q
      have h3 := h w v rfl Ext.refl ok h2
      rw [eH] at h3
      exact ⟨v, h1, h3⟩
theorem s_cstV {e : Expr} {v : V} {p : P} (he : PE X e (tC v)) (r : ∀ H B, Rp X.K H B v p) : PE X e (tE X.K E fun _ S => .ok (.pv p) S) := by
  refine PE.imp' he fun σ H Q ⟨w, l, eH, ok, lr, h⟩ => ?_
  have h3 := h w v rfl Ext.refl ok (r _ _)
  rw [eH] at h3
  exact h3
theorem s_bin {op : Operator} {k : W → W → Sto → R W} (ho : OpR X (binaryOp op) (rB X.K k)) (n : ∀ x y S, NoErr (k x y S)) (ha : PE X a (tE X.K E f)) (hb : PE X b (tE X.K E g)) :
    PE X (.BinOp a op b pos) (tE X.K E fun l S => (f l S).bind fun x S => (g l S).bind fun y S => k x y S) := by
  refine PE.imp' (pe_op ho ha hb) fun σ H Q ⟨w, l, eH, ok, lr, h⟩ => ?_
  refine tE.bind (g := fun x l S => (g l S).bind fun y S => k x y S) eH ok lr h fun w1 v x e1 ok1 lr1 r1 h1 => ?_
  refine tE.bind (g := fun y l S => k x y S) rfl ok1 lr1 h1 fun w2 u y e2 ok2 lr2 r2 h2 => ?_
  exact ⟨w2, x, y, rfl, ok2, r1.ext e2, r2, AfterV.of (n _ _ _) h2⟩
theorem s_un {op : UnaryOp} {k : W → Sto → R W} (ho : UnR X (unaryOp op) (rU1 X.K k)) (n : ∀ x S, NoErr (k x S)) (ha : PE X a (tE X.K E f)) :
    PE X (.UnaryOp op a pos) (tE X.K E fun l S => (f l S).bind fun x S => k x S) := by
  refine PE.imp' (pe_un ho ha) fun σ H Q ⟨w, l, eH, ok, lr, h⟩ => ?_
  refine tE.bind (g := fun x l S => k x S) eH ok lr h fun w1 v x e1 ok1 lr1 r1 h1 => ?_
  exact ⟨w1, x, rfl, ok1, r1, AfterV.of (n _ _) h1⟩
theorem s_cmp {op : CmpOp} {k : W → W → Sto → R W} (ho : OpR X (compareOp op) (rB X.K k)) (n : ∀ x y S, NoErr (k x y S)) (ha : PE X a (tE X.K E f)) (hb : PE X b (tE X.K E g)) (hm : behindInMarks op b = false) :
    PE X (.Compare a [op] [b] pos) (tE X.K E fun l S => (f l S).bind fun x S => (g l S).bind fun y S => k x y S) := by
  refine PE.imp' (pe_cmpR ho ha hb hm) fun σ H Q ⟨w, l, eH, ok, lr, h⟩ => ?_
  refine tE.bind (g := fun x l S => (g l S).bind fun y S => k x y S) eH ok lr h fun w1 v x e1 ok1 lr1 r1 h1 => ?_
  refine tE.bind (g := fun y l S => k x y S) rfl ok1 lr1 h1 fun w2 u y e2 ok2 lr2 r2 h2 => ?_
  exact ⟨w2, x, y, rfl, ok2, r1.ext e2, r2, AfterV.of (n _ _ _) h2⟩
end
section
variable {X : Cx} {E : WX} {a b d : Expr} {f g h : L → Sto → R W} {pos : Pos}
theorem boolW_rv {K : PySem.W.Frag} {w : Wd} {v : V} {x : W} {k : Bool} (r : Rv K w v x) (e : boolW x = some k) : v = .bl k := by
  unfold boolW at e
  split at e
  · cases e; cases r; rfl
  · cases e
theorem rv_bl {K : PySem.W.Frag} {w : Wd} (k : Bool) : Rv K w (.bl k) (.pv (.bool k)) := Rp.bl k
/-- the value of a chain of two -/
def chainW (k k' : W → W → Sto → R W) (f g h : L → Sto → R W) (l : L) (S : Sto) : R W := (f l S).bind fun x S => (g l S).bind fun y S => (k x y S).bind fun r S => match boolW r with
      | some true => (h l S).bind fun z S => k' y z S
      | some false => .ok (.pv (.bool false)) S
      | none => .stuck
theorem chain_read {K : PySem.W.Frag} {E : WX} {k k' : W → W → Sto → R W} {f g h : L → Sto → R W} (n : ∀ x y S, NoErr (k x y S)) (n' : ∀ x y S, NoErr (k' x y S)) {σ : L2.St} {H : Hp} {Q : VK} (hh : tE K E (chainW k k' f g h) σ H Q) : tChain (rB K k) (rB K k') (tE K E f) (tE K E g) (tE K E h) σ H Q := by
  obtain ⟨w, l, eH, ok, lr, h0⟩ := hh
  refine tE.bind (g := fun x l S => (g l S).bind fun y S => (k x y S).bind fun r S => match boolW r with
      | some true => (h l S).bind fun z S => k' y z S
      | some false => .ok (.pv (.bool false)) S
      | none => .stuck) eH ok lr h0 fun w1 v x e1 ok1 lr1 r1 h1 => ?_
  refine tE.bind (g := fun y l S => (k x y S).bind fun r S => match boolW r with
      | some true => (h l S).bind fun z S => k' y z S
      | some false => .ok (.pv (.bool false)) S
      | none => .stuck) rfl ok1 lr1 h1 fun w2 u y e2 ok2 lr2 r2 h2 => ?_
  refine ⟨w2, x, y, rfl, ok2, r1.ext e2, r2, ?_⟩
  refine AfterV.of (σ := σ) (E := E) (n _ _ _) ((h2.bind (Rv K)).imp fun w3 v3 x3 S _ _ _ _ _ q => ?_)
  obtain ⟨w4, z, eH4, e4, ok4, r4, h4⟩ := q
  rw [← eH4]
  cases q : boolW z with
  | none => rw [q] at h4; exact h4.elim
  | some kk =>
    rw [q] at h4
    refine ⟨kk, boolW_rv r4 q, ?_⟩
    cases kk with
    | false => exact h4 w4 (.bl false) rfl Ext.refl ok4 (rv_bl false)
    | true =>
      refine tE.bind (g := fun z l S => k' y z S) rfl ok4 (lr2.ext e4) h4 fun w5 v5 z5 e5 ok5 lr5 r5 h5 => ?_
      exact ⟨w5, y, z5, rfl, ok5, (r2.ext e4).ext e5, r5, AfterV.of (n' _ _ _) h5⟩
theorem s_cmp2 {op op' : CmpOp} {k k' : W → W → Sto → R W} (ho : OpR X (compareOp op) (rB X.K k)) (ho' : OpR X (compareOp op') (rB X.K k')) (n : ∀ x y S, NoErr (k x y S)) (n' : ∀ x y S, NoErr (k' x y S))
    (ha : PE X a (tE X.K E f)) (hb : PE X b (tE X.K E g)) (hd : PE X d (tE X.K E h)) (hm : lastMarks [op, op'] [b, d] = false) :
    PE X (.Compare a [op, op'] [b, d] pos) (tE X.K E (chainW k k' f g h)) := PE.imp' (pe_chain ho ho' ha hb hd hm) fun σ H Q h0 => chain_read n n' h0
theorem s_and {rest : List Expr} (ha : PE X a (tE X.K E f)) (hb : PE X (.BoolOp .And (b :: rest) pos) (tE X.K E g)) :
    PE X (.BoolOp .And (a :: b :: rest) pos) (tE X.K E fun l S => (f l S).bind fun x S => match boolW x with
      | some true => g l S
      | some false => .ok (.pv (.bool false)) S
      | none => .stuck) := by
  refine PE.imp' (pe_and ha hb) fun σ H Q ⟨w, l, eH, ok, lr, h0⟩ => ?_
  refine tE.bind (g := fun x l S => match boolW x with
      | some true => g l S
      | some false => .ok (.pv (.bool false)) S
      | none => .stuck) eH ok lr h0 fun w1 v x e1 ok1 lr1 r1 h1 => ?_
  cases q : boolW x with
  | none => rw [q] at h1; exact h1.elim
  | some kk =>
    rw [q] at h1
    refine ⟨kk, boolW_rv r1 q, ?_⟩
    cases kk with
    | false => exact h1 w1 (.bl false) rfl Ext.refl ok1 (rv_bl false)
    | true => exact ⟨w1, l, rfl, ok1, lr1, h1⟩
theorem s_or {rest : List Expr} (ha : PE X a (tE X.K E f)) (hb : PE X (.BoolOp .Or (b :: rest) pos) (tE X.K E g)) :
    PE X (.BoolOp .Or (a :: b :: rest) pos) (tE X.K E fun l S => (f l S).bind fun x S => match boolW x with
      | some false => g l S
      | some true => .ok (.pv (.bool true)) S
      | none => .stuck) := by
  refine PE.imp' (pe_or ha hb) fun σ H Q ⟨w, l, eH, ok, lr, h0⟩ => ?_
  refine tE.bind (g := fun x l S => match boolW x with
      | some false => g l S
      | some true => .ok (.pv (.bool true)) S
      | none => .stuck) eH ok lr h0 fun w1 v x e1 ok1 lr1 r1 h1 => ?_
  cases q : boolW x with
  | none => rw [q] at h1; exact h1.elim
  | some kk =>
    rw [q] at h1
    refine ⟨kk, boolW_rv r1 q, ?_⟩
    cases kk with
    | true => exact h1 w1 (.bl true) rfl Ext.refl ok1 (rv_bl true)
    | false => exact ⟨w1, l, rfl, ok1, lr1, h1⟩
theorem s_not (ha : PE X a (tE X.K E f)) : PE X (.UnaryOp .Not a pos) (tE X.K E fun l S => (f l S).bind fun x S => match boolW x with
      | some b => .ok (.pv (.bool (!b))) S
      | none => .stuck) := by
  refine PE.imp' (pe_not ha) fun σ H Q ⟨w, l, eH, ok, lr, h0⟩ => ?_
  refine tE.bind (g := fun x l S => match boolW x with
      | some b => R.ok (W.pv (.bool (!b))) S
      | none => .stuck) eH ok lr h0 fun w1 v x e1 ok1 lr1 r1 h1 => ?_
  cases q : boolW x with
  | none => rw [q] at h1; exact h1.elim
  | some kk =>
    rw [q] at h1
    exact ⟨kk, boolW_rv r1 q, h1 w1 (.bl _) rfl Ext.refl ok1 (rv_bl _)⟩
theorem s_ife {c : L → Sto → R Bool} (hc : PT X d (tT X.K E c)) (ha : PE X a (tE X.K E f)) (hb : PE X b (tE X.K E g)) :
    PE X (.IfExp d a b pos) (tE X.K E fun l S => (c l S).bind fun k S => if k then f l S else g l S) := by
  refine PE.imp' (pe_ifExp hc ha hb) fun σ H Q ⟨w, l, eH, ok, lr, h0⟩ => ?_
  refine tT.bind (g := fun k l S => if k then f l S else g l S) eH ok lr h0 fun w1 k e1 ok1 lr1 h1 => ?_
  cases k with
  | true => exact ⟨w1, l, rfl, ok1, lr1, h1⟩
  | false => exact ⟨w1, l, rfl, ok1, lr1, h1⟩

/-! ### tests -/
theorem s_tand {rest : List Expr} {f g : L → Sto → R Bool} (ha : PT X a (tT X.K E f)) (hb : PW X (.BoolOp .And (b :: rest) pos) (tT X.K E g)) :
    PW X (.BoolOp .And (a :: b :: rest) pos) (tT X.K E fun l S => (f l S).bind fun k S => if k then g l S else .ok false S) := by
  refine PW.imp' (pw_and ha hb) fun σ H Q ⟨w, l, eH, ok, lr, h0⟩ => ?_
  refine tT.bind (g := fun k l S => if k then g l S else .ok false S) eH ok lr h0 fun w1 k e1 ok1 lr1 h1 => ?_
  cases k with
  | true => exact ⟨w1, l, rfl, ok1, lr1, h1⟩
  | false => exact h1 w1 false rfl Ext.refl ok1 rfl
theorem s_tor {rest : List Expr} {f g : L → Sto → R Bool} (ha : PT X a (tT X.K E f)) (hb : PW X (.BoolOp .Or (b :: rest) pos) (tT X.K E g)) :
    PW X (.BoolOp .Or (a :: b :: rest) pos) (tT X.K E fun l S => (f l S).bind fun k S => if k then .ok true S else g l S) := by
  refine PW.imp' (pw_or ha hb) fun σ H Q ⟨w, l, eH, ok, lr, h0⟩ => ?_
  refine tT.bind (g := fun k l S => if k then .ok true S else g l S) eH ok lr h0 fun w1 k e1 ok1 lr1 h1 => ?_
  cases k with
  | true => exact h1 w1 true rfl Ext.refl ok1 rfl
  | false => exact ⟨w1, l, rfl, ok1, lr1, h1⟩
theorem s_tnot {f : L → Sto → R Bool} (ha : PT X a (tT X.K E f)) : PT X (.UnaryOp .Not a pos) (tT X.K E fun l S => (f l S).bind fun k S => .ok (!k) S) := by
  refine PT.imp' (pt_not ha) fun σ H Q ⟨w, l, eH, ok, lr, h0⟩ => ?_
  refine tT.bind (g := fun k l S => .ok (!k) S) eH ok lr h0 fun w1 k e1 ok1 lr1 h1 => ?_
  exact h1 w1 (!k) rfl Ext.refl ok1 rfl
theorem s_truth (he : ∀ whole, isTrue a X.env whole = (do let v ← whole; standAt a.pos; holding [v] (truthy v))) (ha : PE X a (tE X.K E f)) : PT X a (tT X.K E fun l S => truthR (f l S)) := by
  refine PT.imp' (pt_truth ha he) fun σ H Q ⟨w, l, eH, ok, lr, h0⟩ => ?_
  refine tE.bind (g := fun x l S => ret (truthW x S) S) eH ok lr h0 fun w1 v x e1 ok1 lr1 r1 h1 => ?_
  have fin : ∀ k, truthW x w1.S = some k → Q k w1.H := fun k e => by
    rw [e] at h1
    exact h1 w1 k rfl Ext.refl ok1 rfl
  cases q : truthW x w1.S with
  | none => rw [q] at h1; exact h1.elim
  | some k =>
    refine ⟨k, ?_, fin k q⟩
    cases x with
    | pv p =>
      have q : truthP p = some k := q
      cases r1 with
      | non => cases q; rfl
      | bl b => cases q; rfl
      | int i => cases q; rfl
      | str x => cases q
      | lst s n r => cases q; refine .inl ⟨_, SqL.of s, ?_⟩; cases r <;> rfl
      | tup s n r => cases q; refine .inr (.inl ⟨_, s.sq, ?_⟩); cases r <;> rfl
      | dct s n r => cases q
    | sc ns => cases q
    | rf n =>
      obtain ⟨a, h2, rfl⟩ := r1
      have q : (match w1.S[n]? with
        | some (.lst xs) => some (!xs.isEmpty)
        | some (.dct xs) => some (!xs.isEmpty)
        | _ => none) = some k := q
      cases qs : w1.S[n]? with
      | none => rw [qs] at q; cases q
      | some o =>
        have z := ok1.obj n a o h2 qs
        rw [qs] at q
        cases o with
        | dead => cases q
        | lst ws =>
          obtain ⟨vs, e, r⟩ := z
          cases q
          exact .inl ⟨vs, SqL.of e, by cases r <;> rfl⟩
        | dct ws =>
          obtain ⟨vs, e, r⟩ := z
          cases q
          exact .inr (.inr ⟨vs, e, by cases r <;> rfl⟩)

/-! ### argument lists and displays -/
theorem s_nil : PA X [] (tA X.K E fun _ S => .ok [] S) := by
  refine PA.imp' pa_nil fun σ H Q ⟨w, l, eH, ok, lr, h0⟩ => ?_
  have := h0 w [] rfl Ext.refl ok .nil
  rw [eH] at this
  exact this
theorem s_cons {es : List Expr} {g : L → Sto → R (List W)} (ha : PE X a (tE X.K E f)) (hb : PA X es (tA X.K E g)) (hs : starEach (a :: es) X.env = (false, eval a X.env) :: starEach es X.env) :
    PA X (a :: es) (tA X.K E fun l S => (f l S).bind fun x S => (g l S).bind fun xs S => .ok (x :: xs) S) := by
  refine PA.imp' (pa_cons ha hb hs) fun σ H Q ⟨w, l, eH, ok, lr, h0⟩ => ?_
  refine tE.bind (g := fun x l S => (g l S).bind fun xs S => .ok (x :: xs) S) eH ok lr h0 fun w1 v x e1 ok1 lr1 r1 h1 => ?_
  refine tA.bind (g := fun xs l S => .ok (x :: xs) S) rfl ok1 lr1 h1 fun w2 vs xs e2 ok2 lr2 r2 h2 => ?_
  exact h2 w2 (v :: vs) rfl Ext.refl ok2 (.cons (r1.ext e2) r2)
theorem s_tup {es : List Expr} {k : Nat} {g : L → Sto → R (List W)} (hlen : ∀ l S xs S', g l S = .ok xs S' → xs.length ≤ maxLen) (hb : PA X es (tA X.K E g)) :
    PE X (.Tuple es k pos) (tE X.K E fun l S => (g l S).bind fun ws S => retP ((asPs ws).map .tuple) S) := by
  refine PE.imp' (pe_tup hb) fun σ H Q ⟨w, l, eH, ok, lr, h0⟩ => ?_
  refine ⟨w, l, eH, ok, lr, (h0.bind (Rvs X.K)).imp fun w' v x S hx hS e1 ok1 r1 q => ?_⟩
  obtain ⟨w1, ws, eH1, e1, ok1, r1, h1⟩ := q
  rw [← eH1]
  refine ⟨by have q1 := hlen _ _ _ _ hx; have q2 := Rvs.length r1; have q3 := Rvs.length (K := X.K) (w := w') ‹_›; have := sizeLine_eq; unfold maxLen at q1; omega, fun p hp => ?_⟩
  obtain ⟨e2, ok2⟩ := laid ok1 hp (.tup v)
  cases q : asPs ws with
  | none => rw [q] at h1; exact h1.elim
  | some ps =>
    rw [q] at h1
    refine h1 ⟨upd w1.H p (.tup v), w1.μ, w1.S, w1.F⟩ (.ref p) rfl e2 ok2 ?_
    exact Rp.mkTup (SqT.of upd_same) (fun z => ok1.nlv hp z) (RpAll.ext e2 (Rvs.pure r1 q))
end
end Mi
set_option Elab.async false
set_option linter.all false
set_option maxRecDepth 100000
set_option autoImplicit false
/-! Mi: operations on values. -/
namespace Mi
open PySem PySem.Spec L2
section
variable {X : Cx}
theorem rB_pure {K : PySem.W.Frag} {f : P → P → Option P} {x y : V} {H : Hp} {Q : VK} (h : rB K (pure2 f) x y H Q) :
    ∃ (w : Wd) (p q z : P), w.H = H ∧ Ok K w ∧ Rp K w.H w.Lv x p ∧ Rp K w.H w.Lv y q ∧ f p q = some z ∧ ∀ (w' : Wd) (v : V), w'.S = w.S → Ext K w w' → Ok K w' → Rp K w'.H w'.Lv v z → Q v w'.H := by
  obtain ⟨w, a, b, e, ok, r1, r2, k⟩ := h
  cases a with
  | pv p =>
    cases b with
    | pv q =>
      refine ⟨w, p, q, ?_⟩
      have k : AfterV K (retP (f p q) w.S) w Q := k
      cases z : f p q with
      | none => rw [z] at k; exact k.elim
      | some z' => rw [z] at k; exact ⟨z', e, ok, r1, r2, rfl, k⟩
    | rf n => exact k.elim
    | sc n => exact k.elim
  | rf n => exact k.elim
  | sc n => exact k.elim
theorem noerr2 {f : P → P → Option P} (x y : W) (S : Sto) : NoErr (pure2 f x y S) := by
  intro e S' h
  unfold pure2 at h
  split at h
  · unfold retP at h; split at h <;> cases h
  · cases h
theorem noerr1 {f : P → Option P} (x : W) (S : Sto) : NoErr (pure1 f x S) := by
  intro e S' h
  unfold pure1 at h
  split at h
  · unfold retP at h; split at h <;> cases h
  · cases h
theorem o_int {op : Operator} {C : Int → Int → Prop} {g : Int → Int → Int} (h : OpR X (binaryOp op) (rI C fun i j => .int (g i j))) {pins : List (Addr × Obj)} {s : Shared} {σ : L2.St} {i j : Int} {v u : Value} {Q : VK} {w : Wd}
    (I : Inv X pins σ w.H s) (rx : RelV (.int i) v) (ry : RelV (.int j) u) (hc : C i j) (ok : Ok X.K w) (k : ∀ (w' : Wd) (v : V), w'.S = w.S → Ext X.K w w' → Ok X.K w' → Rp X.K w'.H w'.Lv v (.int (g i j)) → Q v w'.H) :
    wpAny (model X.prog X.w) X.A (binaryOp op v u) (EP X pins σ Q) X.xe s :=
  h pins s σ w.H _ _ v u Q I rx ry ⟨i, j, rfl, rfl, hc, k w _ rfl Ext.refl ok (.int _)⟩
theorem o_int0 {op : Operator} {g : Int → Int → Int} (h : OpR X (binaryOp op) (rI0 fun i j => .int (g i j))) {pins : List (Addr × Obj)} {s : Shared} {σ : L2.St} {i j : Int} {v u : Value} {Q : VK} {w : Wd}
    (I : Inv X pins σ w.H s) (rx : RelV (.int i) v) (ry : RelV (.int j) u) (ok : Ok X.K w) (k : ∀ (w' : Wd) (v : V), w'.S = w.S → Ext X.K w w' → Ok X.K w' → Rp X.K w'.H w'.Lv v (.int (g i j)) → Q v w'.H) :
    wpAny (model X.prog X.w) X.A (binaryOp op v u) (EP X pins σ Q) X.xe s :=
  h pins s σ w.H _ _ v u Q I rx ry ⟨i, j, rfl, rfl, k w _ rfl Ext.refl ok (.int _)⟩
theorem small_mul {i j : Int} (h : (small i || small j) = true) : CMul i j := by
  rcases Bool.or_eq_true_iff.mp h with h | h
  · exact .inl (of_decide_eq_true h)
  · exact .inr (of_decide_eq_true h)
theorem some_if {c : Prop} [Decidable c] {α : Type} {a b : α} (h : (if c then some a else none) = some b) : c ∧ b = a := by
  by_cases hc : c
  · rw [if_pos hc] at h; cases h; exact ⟨hc, rfl⟩
  · rw [if_neg hc] at h; cases h
theorem o_add : OpR X (binaryOp .Add) (rB X.K (pure2 (binop .Add))) := by
  intro pins s σ H x y v u Q I rx ry h
  obtain ⟨w, p, q, z, rfl, ok, r1, r2, hz, k⟩ := rB_pure h
  unfold binop at hz
  split at hz <;> rename_i e <;> (try cases e)
  · cases hz; cases r1; cases r2; exact o_int0 op_add I rx ry ok k
  · obtain ⟨hc, rfl⟩ := some_if hz
    cases r1; cases r2
    exact op_add_str pins s σ w.H _ _ v u Q I rx ry ⟨_, _, rfl, rfl, (by rw [sizeLine_eq]; exact hc), k w _ rfl Ext.refl ok (.str _)⟩
  · obtain ⟨hc, rfl⟩ := some_if hz
    cases r1 with
    | tup s1 n1 a1 =>
      cases r2 with
      | tup s2 n2 a2 =>
        rename_i a xs b ys
        refine op_catA pins s σ w.H _ _ v u Q I rx ry ⟨a, b, xs, ys, rfl, rfl, s1.sq, s2.sq, (by rw [a1.length, a2.length, sizeLine_eq]; exact hc), fun e1 => ?_, fun e1 e2 => ?_, fun _ _ p hp => ?_⟩
        · subst e1
          cases a1
          exact k w _ rfl Ext.refl ok (.tup s2 n2 a2)
        · subst e2
          cases a2
          exact k w _ rfl Ext.refl ok (.tup s1 n1 (by rw [List.append_nil]; exact a1))
        · obtain ⟨e2, ok2⟩ := laid ok hp (.tup (xs ++ ys))
          exact k ⟨_, w.μ, w.S, w.F⟩ _ rfl e2 ok2 (Rp.mkTup (SqT.of upd_same) (fun z => ok.nlv hp z) (RpAll.ext e2 (a1.append a2)))
  · obtain ⟨hc, rfl⟩ := some_if hz
    cases r1 with
    | lst s1 n1 a1 =>
      cases r2 with
      | lst s2 n2 a2 =>
        rename_i a xs b ys
        refine op_cat pins s σ w.H _ _ v u Q I rx ry ⟨a, b, xs, ys, rfl, rfl, s1, s2, (by rw [a1.length, a2.length, sizeLine_eq]; exact hc), fun p hp => ?_⟩
        obtain ⟨e2, ok2⟩ := laid ok hp (.lst (xs ++ ys))
        exact k ⟨_, w.μ, w.S, w.F⟩ _ rfl e2 ok2 (.lst upd_same (fun z => ok.nlv hp z) (RpAll.ext e2 (a1.append a2)))
  all_goals cases hz
theorem RpAll.rep {K : PySem.W.Frag} {H : Hp} {B : Addr → Prop} {vs : List V} {ps : List P} (r : RpAll K H B vs ps) : ∀ n : Nat, RpAll K H B (List.replicate n vs).flatten (List.replicate n ps).flatten
  | 0 => .nil
  | n + 1 => by
    rw [List.replicate_succ, List.replicate_succ, List.flatten_cons, List.flatten_cons]
    exact r.append (RpAll.rep r n)
theorem o_mul : OpR X (binaryOp .Mult) (rB X.K (pure2 (binop .Mult))) := by
  intro pins s σ H x y v u Q I rx ry h
  obtain ⟨w, p, q, z, rfl, ok, r1, r2, hz, k⟩ := rB_pure h
  unfold binop at hz
  split at hz <;> rename_i e <;> (try cases e)
  · obtain ⟨hc, rfl⟩ := some_if hz
    cases r1; cases r2; exact o_int op_mul I rx ry (small_mul hc) ok k
  · obtain ⟨⟨h0, h1, h2, h3⟩, rfl⟩ := some_if hz
    cases r2
    cases r1 with
    | tup s1 n1 a1 =>
      rename_i a xs
      have hl := a1.length
      refine op_repT pins s σ w.H _ _ v u Q I rx ry ⟨a, _, xs, rfl, rfl, s1.sq, (fun e => by subst e; cases a1; cases h0), h1, h2, (by omega), fun p hp => ?_⟩
      obtain ⟨e2, ok2⟩ := laid ok hp (.tup (List.replicate (Int.toNat _) xs).flatten)
      exact k ⟨_, w.μ, w.S, w.F⟩ _ rfl e2 ok2 (Rp.mkTup (SqT.of upd_same) (fun z => ok.nlv hp z) (RpAll.ext e2 (a1.rep _)))
  · obtain ⟨⟨h0, h1, h2⟩, rfl⟩ := some_if hz
    cases r2
    cases r1 with
    | lst s1 n1 a1 =>
      rename_i a xs
      have hl := a1.length
      refine op_rep pins s σ w.H _ _ v u Q I rx ry ⟨a, _, xs, rfl, rfl, s1, h0, h1, (by rw [hl, sizeLine_eq]; exact h2), fun p hp => ?_⟩
      obtain ⟨e2, ok2⟩ := laid ok hp (.lst (List.replicate (Int.toNat _) xs).flatten)
      exact k ⟨_, w.μ, w.S, w.F⟩ _ rfl e2 ok2 (.lst upd_same (fun z => ok.nlv hp z) (RpAll.ext e2 (a1.rep _)))
  all_goals cases hz
theorem o_rep : OpR X (binaryOp .Mult) (rB X.K repW) := by
  intro pins s σ H x y v u Q I rx ry h
  obtain ⟨w, a, b, rfl, ok, r1, r2, k⟩ := h
  cases a with
  | rf _ => exact k.elim
  | sc _ => exact k.elim
  | pv p =>
    cases p with
    | list xs =>
      cases b with
      | rf _ => exact k.elim
      | sc _ => exact k.elim
      | pv q =>
        cases q with
        | int j =>
          cases r2
          cases r1 with
          | lst s1 n1 a1 =>
            rename_i a xs
            have hl := a1.length
            have k : AfterV X.K (if _ then _ else _) w Q := k
            split at k
            · rename_i hc
              obtain ⟨h0, h1, h2⟩ := hc
              refine op_rep pins s σ w.H _ _ v u Q I rx ry ⟨a, _, xs, rfl, rfl, s1, h0, h1, (by rw [hl, sizeLine_eq]; exact h2), fun p hp => ?_⟩
              obtain ⟨e2, ok2⟩ := made ok hp (u := .lst (List.replicate (Int.toNat _) xs).flatten) (x := .lst _) fun w2 x2 q2 => ⟨_, q2, (RpAll.ext x2 (a1.rep _)).rvs⟩
              exact k ⟨_, w.μ ++ [p], _, w.F⟩ (.ref p) rfl e2 ok2 ⟨p, by rw [← ok.len]; exact snoc_get, rfl⟩
            · exact k.elim
        | _ => exact k.elim
    | _ => exact k.elim
theorem noerr_rep (x y : W) (S : Sto) : NoErr (repW x y S) := by
  intro e S' h; unfold repW at h; split at h
  · split at h <;> cases h
  · cases h
theorem o_bin : ∀ op : Operator, OpR X (binaryOp op) (rB X.K (pure2 (binop op)))
  | .Add => o_add
  | .Mult => o_mul
  | .Sub => by
    intro pins s σ H x y v u Q I rx ry h
    obtain ⟨w, p, q, z, rfl, ok, r1, r2, hz, k⟩ := rB_pure h
    unfold binop at hz
    split at hz <;> rename_i e <;> (try cases e) <;> (try cases hz)
    cases r1; cases r2; exact o_int0 op_sub I rx ry ok k
  | .BitAnd => by
    intro pins s σ H x y v u Q I rx ry h
    obtain ⟨w, p, q, z, rfl, ok, r1, r2, hz, k⟩ := rB_pure h
    unfold binop at hz
    split at hz <;> rename_i e <;> (try cases e) <;> (try cases hz)
    cases r1; cases r2; exact o_int0 op_and I rx ry ok k
  | .BitOr => by
    intro pins s σ H x y v u Q I rx ry h
    obtain ⟨w, p, q, z, rfl, ok, r1, r2, hz, k⟩ := rB_pure h
    unfold binop at hz
    split at hz <;> rename_i e <;> (try cases e) <;> (try cases hz)
    cases r1; cases r2; exact o_int0 op_or I rx ry ok k
  | .BitXor => by
    intro pins s σ H x y v u Q I rx ry h
    obtain ⟨w, p, q, z, rfl, ok, r1, r2, hz, k⟩ := rB_pure h
    unfold binop at hz
    split at hz <;> rename_i e <;> (try cases e) <;> (try cases hz)
    cases r1; cases r2; exact o_int0 op_xor I rx ry ok k
  | .FloorDiv => by
    intro pins s σ H x y v u Q I rx ry h
    obtain ⟨w, p, q, z, rfl, ok, r1, r2, hz, k⟩ := rB_pure h
    unfold binop at hz
    split at hz <;> rename_i e <;> (try cases e) <;> (try cases hz; done)
    obtain ⟨hc, rfl⟩ := some_if hz
    cases r1; cases r2; exact o_int op_fdiv I rx ry hc ok k
  | .Mod => by
    intro pins s σ H x y v u Q I rx ry h
    obtain ⟨w, p, q, z, rfl, ok, r1, r2, hz, k⟩ := rB_pure h
    unfold binop at hz
    split at hz <;> rename_i e <;> (try cases e) <;> (try cases hz; done)
    obtain ⟨hc, rfl⟩ := some_if hz
    cases r1; cases r2; exact o_int op_mod I rx ry hc ok k
  | .Pow => by
    intro pins s σ H x y v u Q I rx ry h
    obtain ⟨w, p, q, z, rfl, ok, r1, r2, hz, k⟩ := rB_pure h
    unfold binop at hz
    split at hz <;> rename_i e <;> (try cases e) <;> (try cases hz; done)
    obtain ⟨hc, rfl⟩ := some_if hz
    cases r1; cases r2; exact o_int op_pow I rx ry hc ok k
  | .LShift => by
    intro pins s σ H x y v u Q I rx ry h
    obtain ⟨w, p, q, z, rfl, ok, r1, r2, hz, k⟩ := rB_pure h
    unfold binop at hz
    split at hz <;> rename_i e <;> (try cases e) <;> (try cases hz; done)
    obtain ⟨hc, rfl⟩ := some_if hz
    cases r1; cases r2; exact o_int op_shl I rx ry hc ok k
  | .RShift => by
    intro pins s σ H x y v u Q I rx ry h
    obtain ⟨w, p, q, z, rfl, ok, r1, r2, hz, k⟩ := rB_pure h
    unfold binop at hz
    split at hz <;> rename_i e <;> (try cases e) <;> (try cases hz; done)
    obtain ⟨hc, rfl⟩ := some_if hz
    cases r1; cases r2; exact o_int op_shr I rx ry hc ok k
  | .MatMult => by
    intro pins s σ H x y v u Q I rx ry h
    obtain ⟨w, p, q, z, rfl, ok, r1, r2, hz, k⟩ := rB_pure h
    unfold binop at hz
    split at hz <;> rename_i e <;> (try cases e) <;> cases hz
  | .Div => by
    intro pins s σ H x y v u Q I rx ry h
    obtain ⟨w, p, q, z, rfl, ok, r1, r2, hz, k⟩ := rB_pure h
    unfold binop at hz
    split at hz <;> rename_i e <;> (try cases e) <;> cases hz
end
end Mi
set_option Elab.async false
set_option linter.all false
set_option maxRecDepth 100000
set_option autoImplicit false
/-! Mi: comparisons. -/
namespace Mi
open PySem PySem.Spec L2
section
variable {K : PySem.W.Frag} {H : Hp} {B : Addr → Prop}
theorem RpAll.toInts : ∀ {vs : List V} {ps : List P} {ns : List Int}, RpAll K H B vs ps → intsOf ps = some ns → vs = ns.map V.int
  | _, _, _, .nil, e => by cases e; rfl
  | _, .int i :: ps, ns, .cons r t, e => by
    unfold intsOf at e
    cases q : intsOf ps with
    | none => rw [q] at e; cases e
    | some ms => rw [q] at e; cases e; cases r; rw [RpAll.toInts t q]; rfl
  | _, .none :: _, _, _, e => by cases e
  | _, .bool _ :: _, _, _, e => by cases e
  | _, .str _ :: _, _, _, e => by cases e
  | _, .list _ :: _, _, _, e => by cases e
  | _, .tuple _ :: _, _, _, e => by cases e
  | _, .dict _ :: _, _, _, e => by cases e
end
section
variable {X : Cx}
theorem map_bool {o : Option Bool} {z : P} (h : o.map PyData.bool = some z) : ∃ b, o = some b ∧ z = .bool b := by
  cases o with
  | none => cases h
  | some b => cases h; exact ⟨b, rfl, rfl⟩
/-- a comparison by its rule: pure values in, a bool out -/
theorem o_cmpK {op : CmpOp} (rule : ∀ (pins : List (Addr × Obj)) (s : Shared) (σ : L2.St) (w : Wd) (x y : V) (v u : Value) (Q : VK) (p q : P) (b : Bool), Inv X pins σ w.H s → RelV x v → RelV y u → Ok X.K w → Rp X.K w.H w.Lv x p → Rp X.K w.H w.Lv y q → cmpP op p q = some b → Q (.bl b) w.H →
      wpAny (model X.prog X.w) X.A (compareOp op v u) (EP X pins σ Q) X.xe s)
    (rule2 : ∀ (pins : List (Addr × Obj)) (s : Shared) (σ : L2.St) (w : Wd) (x : V) (a : Addr) (v u : Value) (Q : VK) (p : P) (xs : List V) (ps : List P) (b : Bool), Inv X pins σ w.H s → RelV x v → RelV (.ref a) u → Rp X.K w.H w.Lv x p → w.H a = some (.lst xs) → RpAll X.K w.H w.Lv xs ps → inR op p ps = some b → Q (.bl b) w.H →
      wpAny (model X.prog X.w) X.A (compareOp op v u) (EP X pins σ Q) X.xe s := by intro _ _ _ _ _ _ _ _ _ _ _ _ _ _ _ _ _ _ _ h; cases h) : OpR X (compareOp op) (rB X.K (cmpW op)) := by
  intro pins s σ H x y v u Q I rx ry h
  obtain ⟨w, a, c, rfl, ok, r1, r2, k⟩ := h
  cases a with
  | rf _ => exact k.elim
  | sc _ => exact k.elim
  | pv p =>
    cases c with
    | sc _ => exact k.elim
    | pv q =>
      have k : AfterV X.K (retP ((cmpP op p q).map .bool) w.S) w Q := k
      cases hb : cmpP op p q with
      | none => rw [hb] at k; exact k.elim
      | some b => rw [hb] at k; exact rule pins s σ w x y v u Q p q b I rx ry ok r1 r2 hb (k w _ rfl Ext.refl ok (.bl b))
    | rf n =>
      obtain ⟨a, h1, rfl⟩ := r2
      have k : AfterV X.K (match w.S[n]? with
        | some (.lst xs) => match asPs xs with
          | some ps => retP ((inR op p ps).map .bool) w.S
          | none => .stuck
        | _ => .stuck) w Q := k
      cases hs : w.S[n]? with
      | none => rw [hs] at k; exact k.elim
      | some ob =>
        rw [hs] at k
        cases ob with
        | dead => exact k.elim
        | dct _ => exact k.elim
        | lst ws =>
          dsimp only at k
          cases hp : asPs ws with
          | none => rw [hp] at k; exact k.elim
          | some ps =>
            rw [hp] at k
            dsimp only at k
            cases hb : inR op p ps with
            | none => rw [hb] at k; exact k.elim
            | some b =>
              rw [hb] at k
              obtain ⟨vs, e1, r3⟩ := ok.obj n a _ h1 hs
              exact rule2 pins s σ w x a v u Q p vs ps b I rx ry r1 e1 (Rvs.pure r3 hp) hb (k w _ rfl Ext.refl ok (.bl b))
theorem map_not {o : Option Bool} {b : Bool} (h : o.map (!·) = some b) : o = some (!b) := by
  cases o with
  | none => cases h
  | some c => cases h; simp
theorem scal_v {K : PySem.W.Frag} {H : Hp} {B : Addr → Prop} {x y : V} {p q : P} (r1 : Rp K H B x p) (r2 : Rp K H B y q) (h : scal p q = true) : L2.scal x y = true ∧ decide (x = y) = PyData.eqv p q := by
  cases r1 <;> cases r2 <;> first
    | (cases h; done)
    | (refine ⟨rfl, ?_⟩; simp [PyData.eqv]; done)
    | (refine ⟨rfl, ?_⟩; simp [PyData.eqv, Bool.beq_eq_decide_eq]; done)
    | skip
theorem o_eq (hu : X.A.units + 64 < cLine) : OpR X (compareOp .Eq) (rB X.K (cmpW .Eq)) := o_cmpK fun pins s σ w x y v u Q p q b I rx ry ok r1 r2 hb k => by
  obtain ⟨hc, rfl⟩ := some_if (show (if (scal p q || (SeqAt.shaped p && SeqAt.shaped q)) = true then some (PyData.eqv p q) else none) = some b from hb)
  rcases Bool.or_eq_true_iff.mp hc with hc | hc
  · obtain ⟨h1, h2⟩ := scal_v r1 r2 hc
    exact op_eq pins s σ w.H x y v u Q I rx ry ⟨h1, by rw [h2]; exact k⟩
  · obtain ⟨h1, h2⟩ := Bool.and_eq_true_iff.mp hc
    exact op_eqD hu pins s σ w.H x y v u Q I rx ry ⟨p, q, r1.dp (SeqAt.canLay_of_shaped h1), r2.dp (SeqAt.canLay_of_shaped h2), h1, h2, k⟩
theorem o_ne (hu : X.A.units + 64 < cLine) : OpR X (compareOp .NotEq) (rB X.K (cmpW .NotEq)) := o_cmpK fun pins s σ w x y v u Q p q b I rx ry ok r1 r2 hb k => by
  have hb := map_not (show (eqP p q).map (!·) = some b from hb)
  obtain ⟨hc, e⟩ := some_if (show (if (scal p q || (SeqAt.shaped p && SeqAt.shaped q)) = true then some (PyData.eqv p q) else none) = some (!b) from hb)
  have e : b = !PyData.eqv p q := by rw [← e]; simp
  subst e
  rcases Bool.or_eq_true_iff.mp hc with hc | hc
  · obtain ⟨h1, h2⟩ := scal_v r1 r2 hc
    exact op_ne pins s σ w.H x y v u Q I rx ry ⟨h1, by rw [h2]; exact k⟩
  · obtain ⟨h1, h2⟩ := Bool.and_eq_true_iff.mp hc
    exact op_neD hu pins s σ w.H x y v u Q I rx ry ⟨p, q, r1.dp (SeqAt.canLay_of_shaped h1), r2.dp (SeqAt.canLay_of_shaped h2), h1, h2, k⟩
theorem flat_v {K : PySem.W.Frag} {H : Hp} {B : Addr → Prop} {x : V} {p : P} (r : Rp K H B x p) (h : flat p = true) : flatV x = true := by
  cases r <;> first | rfl | cases h
theorem flat_eq {K : PySem.W.Frag} {H : Hp} {B : Addr → Prop} {x y : V} {p q : P} (r1 : Rp K H B x p) (r2 : Rp K H B y q) (h1 : flat p = true) (h2 : flat q = true) : eqV x y = PyData.eqv p q := by
  cases r1 <;> cases r2 <;> first | (cases h1; done) | (cases h2; done) | (simp [PyData.eqv, eqV]; done)
theorem flat_all {K : PySem.W.Frag} {H : Hp} {B : Addr → Prop} {x : V} {p : P} (r : Rp K H B x p) (h : flat p = true) : ∀ {ys : List V} {qs : List P}, RpAll K H B ys qs → qs.all flat = true → ys.all flatV = true ∧ inV x ys = qs.any fun z => PyData.eqv z p
  | _, _, .nil, _ => ⟨rfl, rfl⟩
  | y :: ys, q :: qs, .cons r1 t, e => by
    rw [List.all_cons, Bool.and_eq_true] at e
    obtain ⟨a1, a2⟩ := flat_all r h t e.2
    refine ⟨by rw [List.all_cons, flat_v r1 e.1, a1]; rfl, ?_⟩
    show (y :: ys).any _ = _
    rw [List.any_cons, List.any_cons, flat_eq r1 r e.1 h]
    exact congrArg _ a2
theorem in_list (hu : X.A.units + 65 < cLine) {pins : List (Addr × Obj)} {s : Shared} {σ : L2.St} {w : Wd} {x : V} {a : Addr} {xs : List V} {v u : Value} {Q : VK} {p : P} {ys : List P} {b : Bool} (I : Inv X pins σ w.H s) (rx : RelV x v) (ry : RelV (.ref a) u) (r1 : Rp X.K w.H w.Lv x p) (s1 : w.H a = some (.lst xs)) (a1 : RpAll X.K w.H w.Lv xs ys)
    (hb : inP p (.list ys) = some b) : (Q (.bl b) w.H → wpAny (model X.prog X.w) X.A (compareOp .In v u) (EP X pins σ Q) X.xe s) ∧ (Q (.bl (!b)) w.H → wpAny (model X.prog X.w) X.A (compareOp .NotIn v u) (EP X pins σ Q) X.xe s) := by
  obtain ⟨hc, rfl⟩ := some_if hb
  rcases Bool.or_eq_true_iff.mp hc with hc | hc
  · obtain ⟨h1, h2⟩ := Bool.and_eq_true_iff.mp hc
    obtain ⟨f1, f2⟩ := flat_all r1 h1 a1 h2
    refine ⟨fun k => op_in_seq pins s σ w.H _ _ v u Q I rx ry ⟨a, xs, rfl, .inl (SqL.of s1), flat_v r1 h1, f1, ?_⟩, fun k => op_notIn_seq pins s σ w.H _ _ v u Q I rx ry ⟨a, xs, rfl, .inl (SqL.of s1), flat_v r1 h1, f1, ?_⟩⟩
    · show Q (.bl (inV x xs)) w.H; rw [f2]; exact k
    · show Q (.bl (!inV x xs)) w.H; rw [f2]; exact k
  · obtain ⟨h1, h2⟩ := Bool.and_eq_true_iff.mp hc
    exact ⟨fun k => op_inD hu pins s σ w.H _ _ v u Q I rx ry ⟨p, ys, r1.dp (SeqAt.canLay_of_shaped h1), .lst (SqL.of s1) (a1.dp (by simpa [PyData.canLay0] using SeqAt.canLay_of_shaped h2)), h1, h2, k⟩, fun k => op_notInD hu pins s σ w.H _ _ v u Q I rx ry ⟨p, ys, r1.dp (SeqAt.canLay_of_shaped h1), .lst (SqL.of s1) (a1.dp (by simpa [PyData.canLay0] using SeqAt.canLay_of_shaped h2)), h1, h2, k⟩⟩
theorem in_rule (hu : X.A.units + 65 < cLine) {pins : List (Addr × Obj)} {s : Shared} {σ : L2.St} {w : Wd} {x y : V} {v u : Value} {Q : VK} {p q : P} {b : Bool} (I : Inv X pins σ w.H s) (rx : RelV x v) (ry : RelV y u) (r1 : Rp X.K w.H w.Lv x p) (r2 : Rp X.K w.H w.Lv y q)
    (hb : inP p q = some b) : (Q (.bl b) w.H → wpAny (model X.prog X.w) X.A (compareOp .In v u) (EP X pins σ Q) X.xe s) ∧ (Q (.bl (!b)) w.H → wpAny (model X.prog X.w) X.A (compareOp .NotIn v u) (EP X pins σ Q) X.xe s) := by
  unfold inP at hb
  split at hb
  · rename_i ys
    obtain ⟨hc, rfl⟩ := some_if hb
    cases r2 with
    | lst s1 n1 a1 =>
      rename_i a xs
      rcases Bool.or_eq_true_iff.mp hc with hc | hc
      · obtain ⟨h1, h2⟩ := Bool.and_eq_true_iff.mp hc
        obtain ⟨f1, f2⟩ := flat_all r1 h1 a1 h2
        refine ⟨fun k => op_in_seq pins s σ w.H _ _ v u Q I rx ry ⟨a, xs, rfl, .inl (SqL.of s1), flat_v r1 h1, f1, ?_⟩, fun k => op_notIn_seq pins s σ w.H _ _ v u Q I rx ry ⟨a, xs, rfl, .inl (SqL.of s1), flat_v r1 h1, f1, ?_⟩⟩
        · show Q (.bl (inV x xs)) w.H; rw [f2]; exact k
        · show Q (.bl (!inV x xs)) w.H; rw [f2]; exact k
      · obtain ⟨h1, h2⟩ := Bool.and_eq_true_iff.mp hc
        exact ⟨fun k => op_inD hu pins s σ w.H _ _ v u Q I rx ry ⟨p, ys, r1.dp (SeqAt.canLay_of_shaped h1), .lst (SqL.of s1) (a1.dp (by simpa [PyData.canLay0] using SeqAt.canLay_of_shaped h2)), h1, h2, k⟩, fun k => op_notInD hu pins s σ w.H _ _ v u Q I rx ry ⟨p, ys, r1.dp (SeqAt.canLay_of_shaped h1), .lst (SqL.of s1) (a1.dp (by simpa [PyData.canLay0] using SeqAt.canLay_of_shaped h2)), h1, h2, k⟩⟩
  · rename_i ys
    obtain ⟨hc, rfl⟩ := some_if hb
    cases r2 with
    | tup s1 n1 a1 =>
      rename_i a xs
      obtain ⟨h1, h2⟩ := Bool.and_eq_true_iff.mp hc
      obtain ⟨f1, f2⟩ := flat_all r1 h1 a1 h2
      refine ⟨fun k => op_in_seq pins s σ w.H _ _ v u Q I rx ry ⟨a, xs, rfl, .inr s1.sq, flat_v r1 h1, f1, ?_⟩, fun k => op_notIn_seq pins s σ w.H _ _ v u Q I rx ry ⟨a, xs, rfl, .inr s1.sq, flat_v r1 h1, f1, ?_⟩⟩
      · show Q (.bl (inV x xs)) w.H; rw [f2]; exact k
      · show Q (.bl (!inV x xs)) w.H; rw [f2]; exact k
  · rename_i kvs
    cases r2 with
    | dct s1 n1 a1 =>
      cases ry
      have key : ∀ kk : Int ⊕ Str, x = kV kk → (dgetP kvs kk).isSome = b → (Q (.bl b) w.H → wpAny (model X.prog X.w) X.A (compareOp .In v _) (EP X pins σ Q) X.xe s) ∧ (Q (.bl (!b)) w.H → wpAny (model X.prog X.w) X.A (compareOp .NotIn v _) (EP X pins σ Q) X.xe s) := fun kk hk hb => by
        subst hk
        have e : ∀ o, dgetP kvs kk = o → ∃ ov : Option V, DGet w.H _ (kV kk) ov ∧ ov.isSome = o.isSome := fun o ho => by
          obtain ⟨c1, c2⟩ := a1.val (k := kk)
          refine ⟨_, DGet.k s1, ?_⟩
          cases o with
          | none => rw [c2 ho]; rfl
          | some p => obtain ⟨z, hz, _⟩ := c1 p ho; rw [hz]; rfl
        obtain ⟨ov, g, eo⟩ := e _ rfl
        rw [hb] at eo
        exact ⟨fun k => d_in (by omega) I g rx fun s3 I3 => ⟨.bl b, w.H, I3, by rw [eo]; rfl, k⟩, fun k => d_notIn (by omega) I g rx fun s3 I3 => ⟨.bl (!b), w.H, I3, by rw [eo]; rfl, k⟩⟩
      split at hb
      · cases hb
        cases r1
        obtain rfl : v = Value.none := rx
        exact ⟨fun k => d_inNone I (.inl s1) fun s3 I3 => ⟨.bl false, w.H, I3, rfl, k⟩, fun k => d_notInNone I (.inl s1) fun s3 I3 => ⟨.bl true, w.H, I3, rfl, k⟩⟩
      · cases r1
        exact key (.inl _) rfl (Option.some.inj hb)
      · cases r1
        exact key (.inr _) rfl (Option.some.inj hb)
      · cases hb
  · cases hb
theorem o_in (hu : X.A.units + 65 < cLine) : OpR X (compareOp .In) (rB X.K (cmpW .In)) := o_cmpK (fun pins s σ w x y v u Q p q b I rx ry ok r1 r2 hb k => (in_rule hu I rx ry r1 r2 hb).1 k)
  fun pins s σ w x a v u Q p xs ps b I rx ry r1 s1 a1 hb k => (in_list hu I rx ry r1 s1 a1 hb).1 k
theorem o_notIn (hu : X.A.units + 65 < cLine) : OpR X (compareOp .NotIn) (rB X.K (cmpW .NotIn)) := o_cmpK (fun pins s σ w x y v u Q p q b I rx ry ok r1 r2 hb k => (in_rule hu I rx ry r1 r2 (map_not (show (inP p q).map (!·) = some b from hb))).2 (by simpa using k))
  fun pins s σ w x a v u Q p xs ps b I rx ry r1 s1 a1 hb k => (in_list hu I rx ry r1 s1 a1 (map_not (show (inP p (.list ps)).map (!·) = some b from hb))).2 (by simpa using k)
theorem is_rule {K : PySem.W.Frag} {H : Hp} {B : Addr → Prop} {x y : V} {v u : Value} {p q : P} {b : Bool} (rx : RelV x v) (ry : RelV y u) (r1 : Rp K H B x p) (r2 : Rp K H B y q) (h : isP p q = some b) : plainIs v u = true ∧ (v == u) = b := by
  unfold isP at h
  split at h <;> cases h <;> cases r1 <;> cases r2 <;> first
    | (cases rx; cases ry; exact ⟨rfl, rfl⟩)
    | (obtain ⟨t, rfl⟩ := rx; cases ry; exact ⟨rfl, rfl⟩)
    | (obtain ⟨t, rfl⟩ := ry; cases rx; exact ⟨rfl, rfl⟩)
    | (rename_i b c; cases rx; cases ry; refine ⟨rfl, ?_⟩; cases b <;> cases c <;> rfl)
theorem o_is : OpR X (compareOp .Is) (rB X.K (cmpW .Is)) := o_cmpK fun pins s σ w x y v u Q p q b I rx ry ok r1 r2 hb k => by
  obtain ⟨h1, h2⟩ := is_rule rx ry r1 r2 hb
  exact wpAny_is_plain h1 ⟨.bl b, w.H, I, by rw [h2]; rfl, k⟩
theorem o_isNot : OpR X (compareOp .IsNot) (rB X.K (cmpW .IsNot)) := o_cmpK fun pins s σ w x y v u Q p q b I rx ry ok r1 r2 hb k => by
  obtain ⟨h1, h2⟩ := is_rule rx ry r1 r2 (map_not (show (isP p q).map (!·) = some b from hb))
  exact wpAny_isNot_plain h1 ⟨.bl b, w.H, I, by rw [h2]; simp; rfl, k⟩
theorem o_catm : OpR X (binaryOp .Add) (rB X.K catW) := by
  intro pins s σ H x y v u Q I rx ry h
  obtain ⟨w, a, c, rfl, ok, r1, r2, k⟩ := h
  cases a with
  | pv _ => exact k.elim
  | sc _ => exact k.elim
  | rf n =>
    cases c with
    | sc _ => exact k.elim
    | rf _ => exact k.elim
    | pv q =>
      cases q with
      | list qs =>
        obtain ⟨a, h1, rfl⟩ := r1
        have k : AfterV X.K (match w.S[n]? with
          | some (.lst ws) => match asPs ws with
            | some ps => if ps.length + qs.length ≤ maxLen then .ok (.pv (.list (ps ++ qs))) w.S else .stuck
            | none => .stuck
          | _ => .stuck) w Q := k
        cases hs : w.S[n]? with
        | none => rw [hs] at k; exact k.elim
        | some ob =>
          rw [hs] at k
          cases ob with
          | dead => exact k.elim
          | dct _ => exact k.elim
          | lst ws =>
            dsimp only at k
            cases hp : asPs ws with
            | none => rw [hp] at k; exact k.elim
            | some ps =>
              rw [hp] at k
              dsimp only at k
              by_cases hc : ps.length + qs.length ≤ maxLen
              · rw [if_pos hc] at k
                obtain ⟨vs, e1, r3⟩ := ok.obj n a _ h1 hs
                have a1 := Rvs.pure r3 hp
                cases r2 with
                | lst s2 n2 a2 =>
                  rename_i b ys
                  refine op_cat pins s σ w.H _ _ v u Q I rx ry ⟨a, b, vs, ys, rfl, rfl, e1, s2, (by rw [a1.length, a2.length, sizeLine_eq]; exact hc), fun p hp => ?_⟩
                  obtain ⟨e2, ok2⟩ := laid ok hp (.lst (vs ++ ys))
                  exact k ⟨_, w.μ, w.S, w.F⟩ _ rfl e2 ok2 (.lst upd_same (fun z => ok.nlv hp z) (RpAll.ext e2 (a1.append a2)))
              · rw [if_neg hc] at k; exact k.elim
      | _ => exact k.elim
theorem noerr_catm (x y : W) (S : Sto) : NoErr (catW x y S) := by
  intro e S' h; unfold catW at h; split at h
  · split at h
    · split at h
      · split at h <;> cases h
      · cases h
    · cases h
  · cases h
theorem o_ltK (hu : X.A.units + 65 < cLine) : OpR X (compareOp .Lt) (rB X.K (cmpW .Lt)) :=
  o_cmpK (rule2 := fun _ _ _ _ _ _ _ _ _ _ _ _ _ _ _ _ _ _ _ h => by cases h) fun pins s σ w x y v u Q p q b I rx ry ok r1 r2 hb k => by
    have hb : ltP p q = some b := hb
    unfold ltP at hb
    split at hb
    · cases hb
      cases r1; cases r2
      exact op_lt pins s σ w.H _ _ v u Q I rx ry ⟨_, _, rfl, rfl, k⟩
    · rename_i xs ys _
      cases q1 : intsOf xs with
      | none => rw [q1] at hb; cases hb
      | some ns =>
        cases q2 : intsOf ys with
        | none => rw [q1, q2] at hb; cases hb
        | some ms =>
          rw [q1, q2] at hb
          cases hb
          cases r1 with
          | tup s1 n1 a1 =>
            cases r2 with
            | tup s2 n2 a2 =>
              have e1 := a1.toInts q1
              have e2 := a2.toInts q2
              subst e1 e2
              exact op_ltT (by omega) pins s σ w.H _ _ v u Q I rx ry ⟨_, _, ns, ms, rfl, rfl, s1.sq, s2.sq, k⟩
    · cases hb
theorem o_ord {op : CmpOp} {g : Int → Int → Bool} (ho : OpR X (compareOp op) (rI0 fun i j => .bl (g i j))) (hg : ∀ p q, cmpP op p q = (match p, q with | .int i, .int j => some (g i j) | _, _ => none)) (hr : ∀ p ps, inR op p ps = none) : OpR X (compareOp op) (rB X.K (cmpW op)) :=
  o_cmpK (rule2 := fun _ _ _ _ _ _ _ _ _ _ _ _ _ _ _ _ _ _ _ h => by rw [hr] at h; cases h) fun pins s σ w x y v u Q p q b I rx ry ok r1 r2 hb k => by
    rw [hg] at hb
    split at hb
    · cases hb
      cases r1; cases r2
      exact ho pins s σ w.H _ _ v u Q I rx ry ⟨_, _, rfl, rfl, k⟩
    · cases hb
theorem o_cmp (hu : X.A.units + 65 < cLine) : ∀ op : CmpOp, OpR X (compareOp op) (rB X.K (cmpW op))
  | .Eq => o_eq (by omega)
  | .NotEq => o_ne (by omega)
  | .In => o_in hu
  | .NotIn => o_notIn hu
  | .Is => o_is
  | .IsNot => o_isNot
  | .Lt => o_ltK hu
  | .LtE => o_ord op_le (fun _ _ => rfl) fun _ _ => rfl
  | .Gt => o_ord op_gt (fun _ _ => rfl) fun _ _ => rfl
  | .GtE => o_ord op_ge (fun _ _ => rfl) fun _ _ => rfl
theorem noerrC (op : CmpOp) (x y : W) (S : Sto) : NoErr (cmpW op x y S) := by
  intro e S' h
  unfold cmpW at h
  split at h
  · unfold retP at h; split at h <;> cases h
  · split at h
    · split at h
      · unfold retP at h; split at h <;> cases h
      · cases h
    · cases h
  · cases h
theorem un_pure {K : PySem.W.Frag} {f : P → Option P} {x : V} {H : Hp} {Q : VK} (h : rU1 K (pure1 f) x H Q) :
    ∃ (w : Wd) (p z : P), w.H = H ∧ Ok K w ∧ Rp K w.H w.Lv x p ∧ f p = some z ∧ ∀ (w' : Wd) (v : V), w'.S = w.S → Ext K w w' → Ok K w' → Rp K w'.H w'.Lv v z → Q v w'.H := by
  obtain ⟨w, a, e, ok, r1, k⟩ := h
  cases a with
  | pv p =>
    refine ⟨w, p, ?_⟩
    have k : AfterV K (retP (f p) w.S) w Q := k
    cases z : f p with
    | none => rw [z] at k; exact k.elim
    | some z' => rw [z] at k; exact ⟨z', e, ok, r1, rfl, k⟩
  | rf n => exact k.elim
  | sc n => exact k.elim
theorem o_neg : UnR X (unaryOp .USub) (rU1 X.K (pure1 (unop .USub))) := by
  intro pins s σ H x v Q I rx h
  obtain ⟨w, p, z, rfl, ok, r1, hz, k⟩ := un_pure h
  unfold unop at hz
  split at hz <;> (try rename_i e) <;> (try cases e) <;> (try cases hz)
  cases r1
  exact un_neg pins s σ w.H _ v Q I rx ⟨_, rfl, k w _ rfl Ext.refl ok (.int _)⟩
theorem o_inv : UnR X (unaryOp .Invert) (rU1 X.K (pure1 (unop .Invert))) := by
  intro pins s σ H x v Q I rx h
  obtain ⟨w, p, z, rfl, ok, r1, hz, k⟩ := un_pure h
  unfold unop at hz
  split at hz <;> (try rename_i e) <;> (try cases e) <;> (try cases hz)
  cases r1
  exact un_inv pins s σ w.H _ v Q I rx ⟨_, rfl, k w _ rfl Ext.refl ok (.int _)⟩
end
end Mi
set_option Elab.async false
set_option linter.all false
set_option maxRecDepth 100000
set_option autoImplicit false
/-! Mi: subscripts, slices, displays of lists, methods of lists. -/
namespace Mi
open PySem PySem.Spec L2
section
variable {K : PySem.W.Frag} {H : Hp} {B : Addr → Prop} {w : Wd}
theorem RpAll.at {vs : List V} {ps : List P} {i : Int} {p : P} (r : RpAll K H B vs ps) (h : L2.atI ps i = some p) : ∃ x, L2.atI vs i = some x ∧ Rp K H B x p := by
  unfold L2.atI at h ⊢
  rw [r.length]
  cases q : ixN ps.length i with
  | none => rw [q] at h; cases h
  | some j => rw [q] at h; exact r.get h
theorem Rvs.get {vs : List V} {ws : List W} {i : Nat} {p : W} (r : Rvs K w vs ws) (e : ws[i]? = some p) : ∃ x, vs[i]? = some x ∧ Rv K w x p := by
  induction r generalizing i with
  | nil => simp at e
  | cons r t ih =>
    cases i with
    | zero => simp at e; subst e; exact ⟨_, rfl, r⟩
    | succ i => obtain ⟨x, h1, h2⟩ := ih (i := i) (by simpa using e); exact ⟨x, by simpa using h1, h2⟩
theorem Rvs.at {vs : List V} {ws : List W} {i : Int} {p : W} (r : Rvs K w vs ws) (h : L2.atI ws i = some p) : ∃ x, L2.atI vs i = some x ∧ Rv K w x p := by
  unfold L2.atI at h ⊢
  rw [r.length]
  cases q : ixN ws.length i with
  | none => rw [q] at h; cases h
  | some j => rw [q] at h; exact r.get h
theorem Rvs.append {vs vs' : List V} {ws ws' : List W} (r : Rvs K w vs ws) (t : Rvs K w vs' ws') : Rvs K w (vs ++ vs') (ws ++ ws') := by
  induction r with
  | nil => exact t
  | cons r _ ih => exact .cons r ih
theorem Rvs.setAt {vs : List V} {ws : List W} {v : V} {x : W} (r : Rvs K w vs ws) (h : Rv K w v x) (i : Nat) : Rvs K w (vs.set i v) (ws.set i x) := by
  induction r generalizing i with
  | nil => exact .nil
  | cons r t ih =>
    cases i with
    | zero => exact .cons h t
    | succ i => exact .cons r (ih i)
theorem Rvs.erase {vs : List V} {ws : List W} (r : Rvs K w vs ws) (i : Nat) : Rvs K w (vs.eraseIdx i) (ws.eraseIdx i) := by
  induction r generalizing i with
  | nil => exact .nil
  | cons r t ih =>
    cases i with
    | zero => exact t
    | succ i => exact .cons r (ih i)
theorem RpAll.ints : ∀ ns : List Int, RpAll K H B (ns.map V.int) (ns.map PyData.int)
  | [] => .nil
  | n :: ns => .cons (.int n) (RpAll.ints ns)
theorem RpAll.cut {vs : List V} {ps : List P} (r : RpAll K H B vs ps) (lo hi : Option Int) : RpAll K H B (cutV vs lo hi) (Mi.cut ps lo hi) := by
  unfold cutV Mi.cut
  rw [r.length]
  exact (r.drop _).take _
end

section
variable {X : Cx} {E : WX} {a b d : Expr} {f g h : L → Sto → R W} {pos : Pos}
/-- what stands at a key -/
theorem dwk_get {K : PySem.W.Frag} {w : Wd} {ks : List (Key × V)} {kvs : List ((Int ⊕ Str) × W)} (r : Paired (fun p q => p.1 = q.1 ∧ Rv K w p.2 q.2) ks kvs) (k : Int ⊕ Str) : (∀ x, getW kvs k = some x → ∃ z, valV ks k = some z ∧ Rv K w z x) ∧ (getW kvs k = none → valV ks k = none) := by
  unfold getW valV
  induction r with
  | nil => exact ⟨fun x h => by (cases h), fun _ => rfl⟩
  | @cons a b _ _ e _ ih =>
    rw [List.find?_cons, List.find?_cons, e.1]
    cases q : decide (b.1 = k) with
    | true => exact ⟨fun x h => ⟨a.2, rfl, by cases h; exact e.2⟩, fun h => by cases h⟩
    | false => exact ih
theorem ix_dK (hu : X.A.units + 65 < cLine) : IxR X (fun x y H Q => ∃ (a : Addr) (v : V), x = .ref a ∧ DGet H a y (some v) ∧ Q v H) := by
  intro value slice pins s σ H x y v u Q I rx ry h hs
  obtain ⟨a, z, rfl, g, q⟩ := h
  obtain rfl : v = Value.ref a := rx
  exact PyProof.Rows.tail_any (dict_typeIs I g) PySem.F.slot_dict_getitem.lookup (d_getItem (by omega) I g ry fun w' s3 I3 rw' => ⟨z, H, I3, rw', q⟩) hs
/-- a subscript by values -/
theorem i_idx (hu : X.A.units + 65 < cLine) : IxR X (rB X.K idxW) := by
  intro value slice pins s σ H x y v u Q I rx ry h hs
  obtain ⟨w, p, q, rfl, ok, r1, r2, k⟩ := h
  cases p with
  | sc ns => exact k.elim
  | pv p =>
    cases q with
    | rf n => exact k.elim
    | sc ns => exact k.elim
    | pv q =>
      have k : AfterV X.K (retP (idxP p q) w.S) w Q := k
      cases hz : idxP p q with
      | none => rw [hz] at k; exact k.elim
      | some z =>
        rw [hz] at k
        have k2 : AfterV X.K (.ok (.pv z) w.S) w Q := k
        unfold idxP at hz
        split at hz
        · cases r1 with
          | lst s1 n1 a1 =>
            cases r2
            obtain ⟨z', e1, r3⟩ := a1.at hz
            exact ix_list value slice pins s σ w.H _ _ v u Q I rx ry ⟨_, _, _, z', rfl, rfl, SqL.of s1, e1, k2 w z' rfl Ext.refl ok r3⟩ hs
        · cases r1 with
          | tup s1 n1 a1 =>
            cases r2
            obtain ⟨z', e1, r3⟩ := a1.at hz
            exact ix_tup value slice pins s σ w.H _ _ v u Q I rx ry ⟨_, _, _, z', rfl, rfl, s1.sq, e1, k2 w z' rfl Ext.refl ok r3⟩ hs
        · cases r1 with
          | dct s1 n1 a1 =>
            cases r2
            obtain ⟨z', e1, r3⟩ := (a1.val).1 _ hz
            exact ix_dK hu value slice pins s σ w.H _ _ v u Q I rx ry ⟨_, z', rfl, (.inl ⟨_, .inl _, .inl s1, rfl, e1.symm⟩), k2 w z' rfl Ext.refl ok r3⟩ hs
        · cases r1 with
          | dct s1 n1 a1 =>
            cases r2
            obtain ⟨z', e1, r3⟩ := (a1.val).1 _ hz
            exact ix_dK hu value slice pins s σ w.H _ _ v u Q I rx ry ⟨_, z', rfl, (.inl ⟨_, .inr _, .inl s1, rfl, e1.symm⟩), k2 w z' rfl Ext.refl ok r3⟩ hs
        · cases hz
  | rf n =>
    cases q with
    | rf n => exact k.elim
    | sc ns => exact k.elim
    | pv q =>
      cases q with
      | int i =>
        obtain ⟨a, h1, rfl⟩ := r1
        cases r2
        have k : AfterV X.K (match w.S[n]? with
          | some (.lst xs) => ret (idxL xs i) w.S
          | some (.dct kvs) => ret (getW kvs (.inl i)) w.S
          | _ => .stuck) w Q := k
        cases hs' : w.S[n]? with
        | none => rw [hs'] at k; exact k.elim
        | some o =>
          rw [hs'] at k
          have z := ok.obj n a o h1 hs'
          cases o with
          | dead => exact k.elim
          | dct kvs =>
            obtain ⟨ks, e1, r3⟩ := z
            have k : AfterV X.K (ret (getW kvs (.inl i)) w.S) w Q := k
            cases hz : getW kvs (.inl i) with
            | none => rw [hz] at k; exact k.elim
            | some z =>
              rw [hz] at k
              obtain ⟨z', e2, r4⟩ := (dwk_get r3 (.inl i)).1 _ hz
              exact ix_dK hu value slice pins s σ w.H _ _ v u Q I rx ry ⟨_, z', rfl, (.inl ⟨_, .inl _, .inl e1, rfl, e2.symm⟩), k w z' rfl Ext.refl ok r4⟩ hs
          | lst ws =>
            obtain ⟨vs, e1, r3⟩ := z
            have k : AfterV X.K (ret (idxL ws i) w.S) w Q := k
            cases hz : idxL ws i with
            | none => rw [hz] at k; exact k.elim
            | some z =>
              rw [hz] at k
              obtain ⟨z', e2, r4⟩ := r3.at hz
              exact ix_list value slice pins s σ w.H _ _ v u Q I rx ry ⟨_, _, _, z', rfl, rfl, SqL.of e1, e2, k w z' rfl Ext.refl ok r4⟩ hs
      | str i =>
        obtain ⟨a, h1, rfl⟩ := r1
        cases r2
        have k : AfterV X.K (match w.S[n]? with
          | some (.dct kvs) => ret (getW kvs (.inr i)) w.S
          | _ => .stuck) w Q := k
        cases hs' : w.S[n]? with
        | none => rw [hs'] at k; exact k.elim
        | some o =>
          rw [hs'] at k
          have z := ok.obj n a o h1 hs'
          cases o with
          | dead => exact k.elim
          | lst _ => exact k.elim
          | dct kvs =>
            obtain ⟨ks, e1, r3⟩ := z
            have k : AfterV X.K (ret (getW kvs (.inr i)) w.S) w Q := k
            cases hz : getW kvs (.inr i) with
            | none => rw [hz] at k; exact k.elim
            | some z =>
              rw [hz] at k
              obtain ⟨z', e2, r4⟩ := (dwk_get r3 (.inr i)).1 _ hz
              exact ix_dK hu value slice pins s σ w.H _ _ v u Q I rx ry ⟨_, z', rfl, (.inl ⟨_, .inr _, .inl e1, rfl, e2.symm⟩), k w z' rfl Ext.refl ok r4⟩ hs
      | _ => exact k.elim
theorem noerr_idx (x y : W) (S : Sto) : NoErr (idxW x y S) := by
  intro e S' h
  unfold idxW at h
  split at h
  · unfold retP at h; split at h <;> cases h
  · split at h
    · unfold ret at h; split at h <;> cases h
    · unfold ret at h; split at h <;> cases h
    · cases h
  · split at h
    · unfold ret at h; split at h <;> cases h
    · cases h
  · cases h
theorem s_idx (hu : X.A.units + 65 < cLine) (ha : PE X a (tE X.K E f)) (hb : PE X b (tE X.K E g)) (hs : PlainIx b) : PE X (.Subscript a b pos) (tE X.K E fun l S => (f l S).bind fun x S => (g l S).bind fun y S => idxW x y S) := by
  refine PE.imp' (pe_ix (i_idx hu) ha hb hs) fun σ H Q ⟨w, l, eH, ok, lr, h⟩ => ?_
  refine tE.bind (g := fun x l S => (g l S).bind fun y S => idxW x y S) eH ok lr h fun w1 v x e1 ok1 lr1 r1 h1 => ?_
  refine tE.bind (g := fun y l S => idxW x y S) rfl ok1 lr1 h1 fun w2 u y e2 ok2 lr2 r2 h2 => ?_
  exact ⟨w2, x, y, rfl, ok2, r1.ext e2, r2, AfterV.of (noerr_idx _ _ _) h2⟩

/-! ### slices -/
def tO (K : PySem.W.Frag) (E : WX) (f : L → Sto → R (Option Int)) : TO := fun σ H Q => ∃ (w : Wd) (l : L), w.H = H ∧ Ok K w ∧ Lr K w σ l ∧ After K E (fun _ (o x : Option Int) => o = x) (f l w.S) w σ Q
theorem PO.imp' {e : Option Expr} {t t' : TO} (h : PO X e t) (i : ∀ σ H Q, t' σ H Q → t σ H Q) : PO X e t' := ⟨fun pins s σ H Q I q => h.run pins s σ H Q I (i σ H Q q)⟩
theorem s_ono : PO X none (tO X.K E fun _ S => .ok none S) := by
  refine PO.imp' po_none fun σ H Q ⟨w, l, eH, ok, lr, h⟩ => ?_
  have h' := h w none rfl Ext.refl ok rfl
  rw [eH] at h'
  exact h'
theorem s_osome (ha : PE X a (tE X.K E f)) : PO X (some a) (tO X.K E fun l S => (f l S).bind fun x S => intR x S) := by
  refine PO.imp' (po_some ha) fun σ H Q ⟨w, l, eH, ok, lr, h⟩ => ?_
  refine tE.bind (g := fun x l S => intR x S) eH ok lr h fun w1 v x e1 ok1 lr1 r1 h1 => ?_
  cases x with
  | rf n => exact h1.elim
  | sc n => exact h1.elim
  | pv p =>
    cases p with
    | int i =>
      cases r1
      exact ⟨i, rfl, h1 w1 (some i) rfl Ext.refl ok1 rfl⟩
    | _ => exact h1.elim
theorem s_slc {lo hi : Option Expr} {p2 : Pos} {g h : L → Sto → R (Option Int)} (ha : PE X a (tE X.K E f)) (hl : PO X lo (tO X.K E g)) (hh : PO X hi (tO X.K E h)) :
    PE X (.Subscript a (.Slice lo hi none p2) pos) (tE X.K E fun l S => (f l S).bind fun x S => (g l S).bind fun y S => (h l S).bind fun z S => slcW x y z S) := by
  refine PE.imp' (pe_slice (SlR.or sl_list sl_tupA) ha hl hh) fun σ H Q ⟨w, l, eH, ok, lr, h0⟩ => ?_
  refine tE.bind (g := fun x l S => (g l S).bind fun y S => (h l S).bind fun z S => slcW x y z S) eH ok lr h0 fun w1 v x e1 ok1 lr1 r1 h1 => ?_
  refine ⟨w1, l, rfl, ok1, lr1, (After.bind (fun _ (o x : Option Int) => o = x) h1).imp fun w' y _ S _ _ _ _ _ q => ?_⟩
  obtain ⟨w2, y', e2, x2, ok2, ey, h2⟩ := q
  subst ey
  rw [← e2]
  refine ⟨w2, l, rfl, ok2, lr1.ext x2, (After.bind (fun _ (o x : Option Int) => o = x) h2).imp fun w' v _ S _ _ _ _ _ q => ?_⟩
  obtain ⟨w3, v', e3, x3, ok3, ev, h3⟩ := q
  subst ev
  rw [← e3]
  have r3 := (r1.ext x2).ext x3
  have newL : ∀ (a : Addr) (xs : List V) (ps : List P), SqL X.K w3.H a xs → RpAll X.K w3.H w3.Lv xs ps → After X.K E (Rv X.K) (.ok (.pv (.list (cut ps y v))) w3.S) w3 σ Q → ∀ p, w3.H p = none → Q (.ref p) (upd w3.H p (.lst (cutV xs y v))) := fun a xs ps s1 a1 hk p hp => by
    obtain ⟨e4, ok4⟩ := laid ok3 hp (.lst (cutV xs y v))
    exact hk ⟨_, w3.μ, w3.S, w3.F⟩ (.ref p) rfl e4 ok4 (Rp.lst upd_same (fun z => ok3.nlv hp z) (RpAll.ext e4 (a1.cut _ _)))
  cases x with
  | rf n => exact h3.elim
  | sc ns =>
    obtain ⟨a, rfl, s1⟩ := r3
    exact .inl ⟨a, _, rfl, s1.sq, newL a _ (ns.map .int) s1.sq (RpAll.ints _) h3⟩
  | pv p =>
    have h3 : After X.K E (Rv X.K) (retP (slcP p y v) w3.S) w3 σ Q := h3
    cases p with
    | list ps =>
      cases r3 with
      | lst s1 n1 a1 => exact .inl ⟨_, _, rfl, SqL.of s1, newL _ _ ps (SqL.of s1) a1 h3⟩
    | tuple ps =>
      cases r3 with
      | tup s1 n1 a1 =>
        rename_i a xs
        have h3 : After X.K E (Rv X.K) (.ok (.pv (.tuple (cut ps y v))) w3.S) w3 σ Q := h3
        refine .inr ⟨a, xs, rfl, s1.sq, fun hw => ?_, fun _ p hp => ?_⟩
        · refine h3 w3 (.ref a) rfl Ext.refl ok3 ?_
          have e : cut ps y v = ps := by
            unfold cut
            rw [← a1.length, show sIx xs.length 0 y = 0 from hw.1, show sIx xs.length xs.length v = xs.length from hw.2]
            simp [a1.length]
          rw [e]
          exact Rp.tup s1 n1 a1
        · obtain ⟨e4, ok4⟩ := laid ok3 hp (.tup (cutV xs y v))
          exact h3 ⟨_, w3.μ, w3.S, w3.F⟩ (.ref p) rfl e4 ok4 (Rp.mkTup (SqT.of upd_same) (fun z => ok3.nlv hp z) (RpAll.ext e4 (a1.cut _ _)))
    | _ => exact h3.elim
end
end Mi
set_option Elab.async false
set_option linter.all false
set_option maxRecDepth 100000
set_option autoImplicit false
/-! Mi: built-in functions and types. -/
namespace Mi
open PySem PySem.Spec L2
/-! ### plain facts -/
theorem minL_spec : ∀ (r : List Int) (m : Int), (minL m r = m ∨ minL m r ∈ r) ∧ minL m r ≤ m ∧ ∀ y ∈ r, minL m r ≤ y
  | [], m => ⟨.inl rfl, Int.le_refl _, fun y h => by cases h⟩
  | x :: r, m => by
    unfold minL
    by_cases h : x < m
    · rw [if_pos h]
      obtain ⟨h1, h2, h3⟩ := minL_spec r x
      refine ⟨.inr ?_, by omega, fun y hy => ?_⟩
      · rcases h1 with h1 | h1
        · rw [h1]; exact List.mem_cons_self
        · exact List.mem_cons_of_mem _ h1
      · rcases List.mem_cons.mp hy with rfl | hy
        · exact h2
        · exact h3 y hy
    · rw [if_neg h]
      obtain ⟨h1, h2, h3⟩ := minL_spec r m
      refine ⟨?_, h2, fun y hy => ?_⟩
      · rcases h1 with h1 | h1
        · exact .inl h1
        · exact .inr (List.mem_cons_of_mem _ h1)
      · rcases List.mem_cons.mp hy with rfl | hy
        · omega
        · exact h3 y hy
theorem minL_eq {m n : Int} {r : List Int} (h1 : m ∈ n :: r) (h2 : ∀ y ∈ n :: r, m ≤ y) : m = minL n r := by
  obtain ⟨a, b, c⟩ := minL_spec r n
  have l1 : m ≤ minL n r := by
    rcases a with a | a
    · rw [a]; exact h2 n List.mem_cons_self
    · exact h2 _ (List.mem_cons_of_mem _ a)
  have l2 : minL n r ≤ m := by
    rcases List.mem_cons.mp h1 with rfl | h
    · exact b
    · exact c m h
  omega
theorem maxL_spec : ∀ (r : List Int) (m : Int), (maxL m r = m ∨ maxL m r ∈ r) ∧ m ≤ maxL m r ∧ ∀ y ∈ r, y ≤ maxL m r
  | [], m => ⟨.inl rfl, Int.le_refl _, fun y h => by cases h⟩
  | x :: r, m => by
    unfold maxL
    by_cases h : m < x
    · rw [if_pos h]
      obtain ⟨h1, h2, h3⟩ := maxL_spec r x
      refine ⟨.inr ?_, by omega, fun y hy => ?_⟩
      · rcases h1 with h1 | h1
        · rw [h1]; exact List.mem_cons_self
        · exact List.mem_cons_of_mem _ h1
      · rcases List.mem_cons.mp hy with rfl | hy
        · exact h2
        · exact h3 y hy
    · rw [if_neg h]
      obtain ⟨h1, h2, h3⟩ := maxL_spec r m
      refine ⟨?_, h2, fun y hy => ?_⟩
      · rcases h1 with h1 | h1
        · exact .inl h1
        · exact .inr (List.mem_cons_of_mem _ h1)
      · rcases List.mem_cons.mp hy with rfl | hy
        · omega
        · exact h3 y hy
theorem maxL_eq {m n : Int} {r : List Int} (h1 : m ∈ n :: r) (h2 : ∀ y ∈ n :: r, y ≤ m) : m = maxL n r := by
  obtain ⟨a, b, c⟩ := maxL_spec r n
  have l1 : maxL n r ≤ m := by
    rcases a with a | a
    · rw [a]; exact h2 n List.mem_cons_self
    · exact h2 _ (List.mem_cons_of_mem _ a)
  have l2 : m ≤ maxL n r := by
    rcases List.mem_cons.mp h1 with rfl | h
    · exact b
    · exact c m h
  omega
theorem ins_perm (x : Int) : ∀ l : List Int, (ins x l).Perm (x :: l)
  | [] => .refl _
  | y :: r => by
    unfold ins
    by_cases h : x ≤ y
    · rw [if_pos h]
    · rw [if_neg h]
      exact ((ins_perm x r).cons y).trans (.swap x y r)
theorem isort_perm : ∀ l : List Int, (isort l).Perm l
  | [] => .refl _
  | x :: r => (ins_perm x _).trans ((isort_perm r).cons x)
theorem ins_sorted {x : Int} : ∀ {l : List Int}, l.Pairwise (· ≤ ·) → (ins x l).Pairwise (· ≤ ·)
  | [], _ => List.pairwise_singleton _ _
  | y :: r, h => by
    unfold ins
    obtain ⟨h1, h2⟩ := List.pairwise_cons.mp h
    by_cases q : x ≤ y
    · rw [if_pos q]
      refine List.pairwise_cons.mpr ⟨fun z hz => ?_, h⟩
      rcases List.mem_cons.mp hz with rfl | hz
      · exact q
      · exact Int.le_trans q (h1 z hz)
    · rw [if_neg q]
      refine List.pairwise_cons.mpr ⟨fun z hz => ?_, ins_sorted h2⟩
      rcases List.mem_cons.mp ((ins_perm x r).mem_iff.mp hz) with rfl | hz
      · omega
      · exact h1 z hz
theorem isort_sorted : ∀ l : List Int, (isort l).Pairwise (· ≤ ·)
  | [] => .nil
  | x :: r => ins_sorted (isort_sorted r)
theorem sorted_one : ∀ {a b : List Int}, a.Perm b → a.Pairwise (· ≤ ·) → b.Pairwise (· ≤ ·) → a = b
  | [], b, h, _, _ => (List.perm_nil.mp h.symm).symm
  | x :: a, b, h, h1, h2 => by
    cases b with
    | nil => exact absurd (List.perm_nil.mp h) (by simp)
    | cons y b =>
      obtain ⟨p1, p2⟩ := List.pairwise_cons.mp h1
      obtain ⟨q1, q2⟩ := List.pairwise_cons.mp h2
      have e : x = y := by
        have m1 : x ∈ y :: b := h.mem_iff.mp List.mem_cons_self
        have m2 : y ∈ x :: a := h.mem_iff.mpr List.mem_cons_self
        rcases List.mem_cons.mp m1 with e | m1
        · exact e
        · rcases List.mem_cons.mp m2 with e | m2
          · exact e.symm
          · exact Int.le_antisymm (p1 y m2) (q1 x m1)
      subst e
      rw [sorted_one (List.Perm.cons_inv h) p2 q2]
theorem isort_eq {a ns : List Int} (h : a.Perm ns) (s : a.Pairwise (· ≤ ·)) : a = isort ns := sorted_one (h.trans (isort_perm ns).symm) s (isort_sorted ns)
section
variable {K : PySem.W.Frag} {H : Hp} {B : Addr → Prop} {w : Wd}
theorem RpAll.toBools : ∀ {vs : List V} {ps : List P} {ns : List Bool}, RpAll K H B vs ps → boolsOf ps = some ns → vs = ns.map V.bl
  | _, _, _, .nil, e => by cases e; rfl
  | _, .bool i :: ps, ns, .cons r t, e => by
    unfold boolsOf at e
    cases q : boolsOf ps with
    | none => rw [q] at e; cases e
    | some ms => rw [q] at e; cases e; cases r; rw [RpAll.toBools t q]; rfl
  | _, .none :: _, _, _, e => by cases e
  | _, .int _ :: _, _, _, e => by cases e
  | _, .str _ :: _, _, _, e => by cases e
  | _, .list _ :: _, _, _, e => by cases e
  | _, .tuple _ :: _, _, _, e => by cases e
  | _, .dict _ :: _, _, _, e => by cases e
end
theorem RpAll.one {K : PySem.W.Frag} {H : Hp} {B : Addr → Prop} {xs : List V} {p : P} (r : RpAll K H B xs [p]) : ∃ v, xs = [v] ∧ Rp K H B v p := by
  cases r with
  | cons r1 r2 => cases r2; exact ⟨_, rfl, r1⟩
theorem RpAll.two {K : PySem.W.Frag} {H : Hp} {B : Addr → Prop} {xs : List V} {p q : P} (r : RpAll K H B xs [p, q]) : ∃ v u, xs = [v, u] ∧ Rp K H B v p ∧ Rp K H B u q := by
  cases r with
  | cons r1 r2 =>
    obtain ⟨u, rfl, r3⟩ := r2.one
    exact ⟨_, _, rfl, r1, r3⟩
def bname : B → Str
  | .len => "len" | .int => "int" | .abs => "abs" | .min => "min" | .max => "max" | .minD => "min" | .sum => "sum" | .all => "all" | .any => "any" | .sorted => "sorted"
  | .tuple => "tuple" | .list => "list" | .range => "range" | .sortedset => "sorted" | .lenset => "len" | .str => "str"
section
variable {X : Cx}
/-- the world behind a built-in upon pure values, by what it answers -/
theorem rL_pure {K : PySem.W.Frag} {b : B} {xs : List V} {H : Hp} {Q : VK} (h : rL K (biW b) xs H Q) :
    (∃ (w : Wd) (ps : List P) (z : P), w.H = H ∧ Ok K w ∧ RpAll K w.H w.Lv xs ps ∧ biP b ps = some z ∧ ∀ (w' : Wd) (v : V), w'.S = w.S → Ext K w w' → Ok K w' → Rp K w'.H w'.Lv v z → Q v w'.H) ∨
    (∃ (w : Wd) (n : Nat) (a : Addr) (ws : List W) (vs : List V), w.H = H ∧ Ok K w ∧ xs = [.ref a] ∧ w.H a = some (.lst vs) ∧ Rvs K w vs ws ∧
      ((b = .len ∧ Q (.int ws.length) H) ∨ ∃ ps, RpAll K w.H w.Lv vs ps ∧ ((b = .tuple ∧ ∀ (w' : Wd) (v : V), w'.S = w.S → Ext K w w' → Ok K w' → Rp K w'.H w'.Lv v (.tuple ps) → Q v w'.H) ∨ (b = .list ∧ ∀ (w' : Wd) (v : V), w'.S = w.S → Ext K w w' → Ok K w' → Rp K w'.H w'.Lv v (.list ps) → Q v w'.H)))) := by
  obtain ⟨w, as, e, ok, r, k⟩ := h
  unfold biW at k
  cases q : asPs as with
  | some ps =>
    rw [q] at k
    have k : AfterV K (retP (biP b ps) w.S) w Q := k
    cases z : biP b ps with
    | none => rw [z] at k; exact k.elim
    | some z' => rw [z] at k; exact .inl ⟨w, ps, z', e, ok, Rvs.pure r q, z, k⟩
  | none =>
    rw [q] at k
    dsimp only at k
    have one : ∀ w0 : W, as = [w0] → ∃ n, w0 = .rf n ∨ ∃ ns, w0 = .sc ns := fun w0 e0 => by
      subst e0
      cases w0 with
      | pv p => cases q
      | rf n => exact ⟨n, .inl rfl⟩
      | sc ns => exact ⟨0, .inr ⟨ns, rfl⟩⟩
    have seq : ∀ w0 ws, as = [w0] → seqOf w0 w.S = some ws → ∃ (n : Nat) (a : Addr) (vs : List V), xs = [.ref a] ∧ w.H a = some (.lst vs) ∧ Rvs K w vs ws := fun w0 ws e0 hs => by
      obtain ⟨n, rfl | ⟨ns, rfl⟩⟩ := one w0 e0
      · subst e0
        cases r with
        | cons r1 r2 =>
          cases r2
          obtain ⟨a, h1, rfl⟩ := r1
          have hs : (match w.S[n]? with
            | some (.lst xs) => some xs
            | _ => none) = some ws := hs
          cases q2 : w.S[n]? with
          | none => rw [q2] at hs; cases hs
          | some o =>
            rw [q2] at hs
            cases o with
            | lst ws' =>
              cases hs
              obtain ⟨vs, e1, r3⟩ := ok.obj n a _ h1 q2
              exact ⟨n, a, vs, rfl, e1, r3⟩
            | dct _ => cases hs
            | dead => cases hs
      · cases hs
    split at k
    · rename_i w0
      cases hs : seqOf w0 w.S with
      | none => rw [hs] at k; exact k.elim
      | some ws =>
        rw [hs] at k
        obtain ⟨n, a, vs, e1, e2, r3⟩ := seq w0 ws rfl hs
        refine .inr ⟨w, n, a, ws, vs, e, ok, e1, e2, r3, .inl ⟨rfl, ?_⟩⟩
        rw [← e]
        exact k w _ rfl Ext.refl ok (Rp.int _)
    · rename_i w0
      cases hs : seqOf w0 w.S with
      | none => rw [hs] at k; exact k.elim
      | some ws =>
        rw [hs] at k
        obtain ⟨n, a, vs, e1, e2, r3⟩ := seq w0 ws rfl hs
        cases hp : asPs ws with
        | none => have k : AfterV K (match asPs ws with | some xs => R.ok (W.pv (.tuple xs)) w.S | none => .stuck) w Q := k; rw [hp] at k; exact k.elim
        | some ps =>
          have k : AfterV K (match asPs ws with | some xs => R.ok (W.pv (.tuple xs)) w.S | none => .stuck) w Q := k
          rw [hp] at k
          exact .inr ⟨w, n, a, ws, vs, e, ok, e1, e2, r3, .inr ⟨ps, Rvs.pure r3 hp, .inl ⟨rfl, k⟩⟩⟩
    · rename_i w0
      cases hs : seqOf w0 w.S with
      | none => rw [hs] at k; exact k.elim
      | some ws =>
        rw [hs] at k
        obtain ⟨n, a, vs, e1, e2, r3⟩ := seq w0 ws rfl hs
        cases hp : asPs ws with
        | none => have k : AfterV K (match asPs ws with | some xs => R.ok (W.pv (.list xs)) w.S | none => .stuck) w Q := k; rw [hp] at k; exact k.elim
        | some ps =>
          have k : AfterV K (match asPs ws with | some xs => R.ok (W.pv (.list xs)) w.S | none => .stuck) w Q := k
          rw [hp] at k
          exact .inr ⟨w, n, a, ws, vs, e, ok, e1, e2, r3, .inr ⟨ps, Rvs.pure r3 hp, .inr ⟨rfl, k⟩⟩⟩
    · exact k.elim
theorem c_len : CallR X (.builtin "len") (rL X.K (biW .len)) := by
  intro pins s σ H xs us Q I r h
  rcases rL_pure h with ⟨w, ps, z, rfl, ok, ra, hz, k⟩ | ⟨w, n, a, ws, vs, rfl, ok, rfl, e1, r3, ⟨_, k⟩ | ⟨ps, _, ⟨hb, _⟩ | ⟨hb, _⟩⟩⟩
  · unfold biP at hz
    split at hz <;> rename_i e <;> (try cases e) <;> (try (cases hz; done))
    · cases hz
      obtain ⟨v1, rfl, r1⟩ := ra.one
      cases r1 with
        | lst s1 n1 a1 =>
          refine call_len_seq pins s σ w.H _ us Q I r ⟨_, _, rfl, .inl (SqL.of s1), ?_⟩
          exact k w _ rfl Ext.refl ok (by rw [a1.length]; exact .int _)
    · cases hz
      obtain ⟨v1, rfl, r1⟩ := ra.one
      cases r1 with
        | tup s1 n1 a1 =>
          refine call_len_seq pins s σ w.H _ us Q I r ⟨_, _, rfl, .inr s1.sq, ?_⟩
          exact k w _ rfl Ext.refl ok (by rw [a1.length]; exact .int _)
    · cases hz
      obtain ⟨v1, rfl, r1⟩ := ra.one
      cases r1 with
        | dct s1 n1 a1 =>
          refine call_lenD pins s σ w.H _ us Q I r ⟨_, _, rfl, s1, ?_⟩
          exact k w _ rfl Ext.refl ok (by rw [a1.length]; exact .int _)
    · obtain ⟨hl, rfl⟩ := some_if hz
      obtain ⟨v1, rfl, r1⟩ := ra.one; cases r1
      exact call_len_str pins s σ w.H _ us Q I r ⟨_, rfl, (by rw [sizeLine_eq]; exact hl), k w _ rfl Ext.refl ok (.int _)⟩
  · refine call_len_seq pins s σ w.H _ us Q I r ⟨_, _, rfl, .inl (SqL.of e1), ?_⟩
    rw [Rvs.length r3]; exact k
  · cases hb
  · cases hb
theorem c_int : CallR X (.type "int") (rL X.K (biW .int)) := by
  intro pins s σ H xs us Q I r h
  rcases rL_pure h with ⟨w, ps, z, rfl, ok, ra, hz, k⟩ | ⟨w, n, a, ws, vs, rfl, ok, rfl, e1, r3, ⟨hb, k⟩ | ⟨ps, _, ⟨hb, _⟩ | ⟨hb, _⟩⟩⟩
  · unfold biP at hz
    split at hz <;> rename_i e <;> (try cases e) <;> (try (cases hz; done))
    cases hz
    obtain ⟨v1, rfl, r1⟩ := ra.one; cases r1
    exact call_int1 pins s σ w.H _ us Q I r (.inl ⟨_, rfl, k w _ rfl Ext.refl ok (.int _)⟩)
  all_goals cases hb
theorem c_str : CallR X (.type "str") (rL X.K (biW .str)) := by
  intro pins s σ H xs us Q I r h
  rcases rL_pure h with ⟨w, ps, z, rfl, ok, ra, hz, k⟩ | ⟨w, n, a, ws, vs, rfl, ok, rfl, e1, r3, ⟨hb, k⟩ | ⟨ps, _, ⟨hb, _⟩ | ⟨hb, _⟩⟩⟩
  · unfold biP at hz
    split at hz <;> rename_i e <;> (try cases e) <;> (try (cases hz; done))
    obtain ⟨hl, rfl⟩ := some_if hz
    obtain ⟨v1, rfl, r1⟩ := ra.one; cases r1
    exact call_str_int pins s σ w.H _ us Q I r ⟨_, rfl, hl, k w _ rfl Ext.refl ok (.str _)⟩
  all_goals cases hb
theorem c_abs : CallR X (.builtin "abs") (rL X.K (biW .abs)) := by
  intro pins s σ H xs us Q I r h
  rcases rL_pure h with ⟨w, ps, z, rfl, ok, ra, hz, k⟩ | ⟨w, n, a, ws, vs, rfl, ok, rfl, e1, r3, ⟨hb, k⟩ | ⟨ps, _, ⟨hb, _⟩ | ⟨hb, _⟩⟩⟩
  · unfold biP at hz
    split at hz <;> rename_i e <;> (try cases e) <;> (try (cases hz; done))
    cases hz
    obtain ⟨v1, rfl, r1⟩ := ra.one; cases r1
    exact call_abs pins s σ w.H _ us Q I r ⟨_, rfl, k w _ rfl Ext.refl ok (.int _)⟩
  all_goals cases hb
/-! min, max of tuples; min of a list, with a default -/
theorem reads_ints {h : Heap} {us : List Value} {ns : List Int} (r : PyProof.Rows.IntsAre us ns) : ReadsAll h us (ns.map .int) [] := by
  induction r with
  | nil => exact .nil
  | cons n t r ih => exact .cons (.int n t) ih
theorem alike_ints (ns : List Int) : PySem.W.AlikeAll (ns.map .int) := by
  refine ⟨fun x hx y hy => ?_, fun x hx => ?_⟩
  · obtain ⟨i, _, rfl⟩ := List.mem_map.mp hx
    obtain ⟨j, _, rfl⟩ := List.mem_map.mp hy
    rfl
  · obtain ⟨i, _, rfl⟩ := List.mem_map.mp hx
    intro z; cases z
theorem minL_fold (n : Int) (r : List Int) : r.foldl min n = minL n r := by
  induction r generalizing n with
  | nil => rfl
  | cons x r ih =>
    show r.foldl min (min n x) = minL (if x < n then x else n) r
    rw [ih]
    congr 1
    rw [Int.min_def]
    split <;> split <;> omega
theorem maxL_fold (n : Int) (r : List Int) : r.foldl max n = maxL n r := by
  induction r generalizing n with
  | nil => rfl
  | cons x r ih =>
    show r.foldl max (max n x) = maxL (if n < x then x else n) r
    rw [ih]
    congr 1
    rw [Int.max_def]
    split <;> split <;> omega
theorem reads_int {h : Heap} {v : Value} {i : Int} {bs : List Addr} (r : Reads h v (.int i) bs) : ∃ t, v = .int i t := by
  cases r; exact ⟨_, rfl⟩
theorem room_ints {n : Nat} (ns : List Int) (h : n + 65 < cLine) : n + 1 + PyData.depthAll (ns.map .int) < cLine := by
  rw [PyProof.Rows.depthAll_ints]
  omega
theorem min_tup_raw (hc : X.calm = true) (hu : X.A.units + 65 < cLine) {pins : List (Addr × Obj)} {s : Shared} {σ : St} {H : Hp} {a : Addr} {n : Int} {r : List Int} {Q : VK} (I : Inv X pins σ H s) (hs : SqT X.K H a ((n :: r).map V.int)) (q : Q (.int (minL n r)) H) :
    wpAny (model X.prog X.w) X.A (call (.builtin "min") [.ref a]) (EP X pins σ Q) X.xe s := by
  obtain ⟨its, rv, hl, _⟩ := I.tuple hs
  have ri := reads_ints (h := s.heap) (intsAre_of rv)
  refine PySem.W.min_tuple_data (I.ok.hd hc) hl (by simpa using ri) (alike_ints (n :: r)) (room_ints (n :: r) hu) fun i v h' tk bs hv rd hk => ?_
  rw [PySem.W.minD_ints, minL_fold] at rd
  obtain ⟨t, rfl⟩ := reads_int rd
  exact ⟨.int _, H, I.kept hk, ⟨_, rfl⟩, q⟩
theorem max_tup_raw (hc : X.calm = true) (hu : X.A.units + 65 < cLine) {pins : List (Addr × Obj)} {s : Shared} {σ : St} {H : Hp} {a : Addr} {n : Int} {r : List Int} {Q : VK} (I : Inv X pins σ H s) (hs : SqT X.K H a ((n :: r).map V.int)) (q : Q (.int (maxL n r)) H) :
    wpAny (model X.prog X.w) X.A (call (.builtin "max") [.ref a]) (EP X pins σ Q) X.xe s := by
  obtain ⟨its, rv, hl, _⟩ := I.tuple hs
  have ri := reads_ints (h := s.heap) (intsAre_of rv)
  refine PySem.W.max_tuple_data (I.ok.hd hc) hl (by simpa using ri) (alike_ints (n :: r)) (room_ints (n :: r) hu) fun i v h' tk bs hv rd hk => ?_
  rw [PySem.W.maxD_ints, maxL_fold] at rd
  obtain ⟨t, rfl⟩ := reads_int rd
  exact ⟨.int _, H, I.kept hk, ⟨_, rfl⟩, q⟩
theorem min_def_raw (hc : X.calm = true) (hu : X.A.units + 65 < cLine) {pins : List (Addr × Obj)} {s : Shared} {σ : St} {H : Hp} {a : Addr} {ns : List Int} {Q : VK} (I : Inv X pins σ H s) (hs : SqL X.K H a (ns.map V.int)) (q0 : ns = [] → Q .non H) (q : ∀ n r, ns = n :: r → Q (.int (minL n r)) H) :
    wpAny (model X.prog X.w) X.A (call (.builtin "min") [.ref a] [(Str.ofString "default", .none)]) (EP X pins σ Q) X.xe s := by
  obtain ⟨its, rv, hl, _⟩ := I.list hs
  have ri := reads_ints (h := s.heap) (intsAre_of rv)
  refine PySem.W.min_list_default (I.ok.hd hc) hl.isList (by simpa using ri) (alike_ints ns) (room_ints ns hu) (fun h0 h' tk hk => ?_) fun y ys i v h' tk bs he hv rd hk => ?_
  · have : ns = [] := List.map_eq_nil_iff.mp h0
    exact ⟨.non, H, I.kept hk, rfl, q0 this⟩
  · cases ns with
    | nil => cases he
    | cons n r =>
      rw [List.map_cons] at he
      injection he with e1 e2
      subst e1; subst e2
      rw [PySem.W.minD_ints, minL_fold] at rd
      obtain ⟨t, rfl⟩ := reads_int rd
      exact ⟨.int _, H, I.kept hk, ⟨_, rfl⟩, q n r rfl⟩
theorem c_min (hc : X.calm = true) (hu : X.A.units + 65 < cLine) : CallR X (.builtin "min") (rL X.K (biW .min)) := by
  intro pins s σ H xs us Q I r h
  rcases rL_pure h with ⟨w, ps, z, rfl, ok, ra, hz, k⟩ | ⟨w, n, a, ws, vs, rfl, ok, rfl, e1, r3, ⟨hb, k⟩ | ⟨ps, _, ⟨hb, _⟩ | ⟨hb, _⟩⟩⟩
  · unfold biP at hz
    split at hz <;> rename_i e <;> (try cases e) <;> (try (cases hz; done))
    · cases hz
      obtain ⟨v1, v2, rfl, r1, r2⟩ := ra.two; cases r1; cases r2
      exact call_min2 hc pins s σ w.H _ us Q I r ⟨_, _, rfl, k w _ rfl Ext.refl ok (.int _)⟩
    · rename_i ys
      obtain ⟨v1, rfl, r1⟩ := ra.one
      cases r1 with
        | lst s1 n1 a1 =>
          cases q : intsOf ys with
          | none => rw [q] at hz; cases hz
          | some ns =>
            rw [q] at hz
            have e2 := a1.toInts q
            subst e2
            cases ns with
            | nil => cases hz
            | cons n rr =>
              cases hz
              exact cr_min hc pins s σ w.H _ us Q I r ⟨_, n :: rr, rfl, SqL.of s1, by simp, fun m h1 h2 => by
                have e3 := minL_eq h1 h2
                subst e3
                exact k w _ rfl Ext.refl ok (.int _)⟩
    · rename_i ys
      obtain ⟨v1, rfl, r1⟩ := ra.one
      cases r1 with
        | tup s1 n1 a1 =>
          cases q : intsOf ys with
          | none => rw [q] at hz; cases hz
          | some ns =>
            rw [q] at hz
            have e2 := a1.toInts q
            subst e2
            cases ns with
            | nil => cases hz
            | cons n rr =>
              cases hz
              rw [Vals.ref1 r]
              exact min_tup_raw hc hu I s1.sq (k w _ rfl Ext.refl ok (.int _))
  all_goals cases hb
theorem c_max (hc : X.calm = true) (hu : X.A.units + 65 < cLine) : CallR X (.builtin "max") (rL X.K (biW .max)) := by
  intro pins s σ H xs us Q I r h
  rcases rL_pure h with ⟨w, ps, z, rfl, ok, ra, hz, k⟩ | ⟨w, n, a, ws, vs, rfl, ok, rfl, e1, r3, ⟨hb, k⟩ | ⟨ps, _, ⟨hb, _⟩ | ⟨hb, _⟩⟩⟩
  · unfold biP at hz
    split at hz <;> rename_i e <;> (try cases e) <;> (try (cases hz; done))
    · cases hz
      obtain ⟨v1, v2, rfl, r1, r2⟩ := ra.two; cases r1; cases r2
      exact call_max2 hc pins s σ w.H _ us Q I r ⟨_, _, rfl, k w _ rfl Ext.refl ok (.int _)⟩
    · rename_i ys
      obtain ⟨v1, rfl, r1⟩ := ra.one
      cases r1 with
        | lst s1 n1 a1 =>
          cases q : intsOf ys with
          | none => rw [q] at hz; cases hz
          | some ns =>
            rw [q] at hz
            have e2 := a1.toInts q
            subst e2
            cases ns with
            | nil => cases hz
            | cons n rr =>
              cases hz
              exact cr_max hc pins s σ w.H _ us Q I r ⟨_, n :: rr, rfl, SqL.of s1, by simp, fun m h1 h2 => by
                have e3 := maxL_eq h1 h2
                subst e3
                exact k w _ rfl Ext.refl ok (.int _)⟩
    · rename_i ys
      obtain ⟨v1, rfl, r1⟩ := ra.one
      cases r1 with
        | tup s1 n1 a1 =>
          cases q : intsOf ys with
          | none => rw [q] at hz; cases hz
          | some ns =>
            rw [q] at hz
            have e2 := a1.toInts q
            subst e2
            cases ns with
            | nil => cases hz
            | cons n rr =>
              cases hz
              rw [Vals.ref1 r]
              exact max_tup_raw hc hu I s1.sq (k w _ rfl Ext.refl ok (.int _))
  all_goals cases hb
theorem c_sum (hc : X.calm = true) : CallR X (.builtin "sum") (rL X.K (biW .sum)) := by
  intro pins s σ H xs us Q I r h
  rcases rL_pure h with ⟨w, ps, z, rfl, ok, ra, hz, k⟩ | ⟨w, n, a, ws, vs, rfl, ok, rfl, e1, r3, ⟨hb, k⟩ | ⟨ps, _, ⟨hb, _⟩ | ⟨hb, _⟩⟩⟩
  · unfold biP at hz
    split at hz <;> rename_i e <;> (try cases e) <;> (try (cases hz; done))
    rename_i ys
    obtain ⟨v1, rfl, r1⟩ := ra.one
    cases r1 with
      | lst s1 n1 a1 =>
        cases q : intsOf ys with
        | none => rw [q] at hz; cases hz
        | some ns =>
          rw [q] at hz
          have e2 := a1.toInts q
          subst e2
          cases hz
          exact cr_sum hc pins s σ w.H _ us Q I r ⟨_, ns, rfl, SqL.of s1, k w _ rfl Ext.refl ok (.int _)⟩
  all_goals cases hb
theorem c_all (hc : X.calm = true) : CallR X (.builtin "all") (rL X.K (biW .all)) := by
  intro pins s σ H xs us Q I r h
  rcases rL_pure h with ⟨w, ps, z, rfl, ok, ra, hz, k⟩ | ⟨w, n, a, ws, vs, rfl, ok, rfl, e1, r3, ⟨hb, k⟩ | ⟨ps, _, ⟨hb, _⟩ | ⟨hb, _⟩⟩⟩
  · unfold biP at hz
    split at hz <;> rename_i e <;> (try cases e) <;> (try (cases hz; done))
    rename_i ys
    obtain ⟨v1, rfl, r1⟩ := ra.one
    cases r1 with
      | lst s1 n1 a1 =>
        cases q : boolsOf ys with
        | none => rw [q] at hz; cases hz
        | some ns =>
          rw [q] at hz
          have e2 := a1.toBools q
          subst e2
          cases hz
          exact cr_all hc pins s σ w.H _ us Q I r ⟨_, ns, rfl, SqL.of s1, k w _ rfl Ext.refl ok (.bl _)⟩
  all_goals cases hb
theorem c_any (hc : X.calm = true) : CallR X (.builtin "any") (rL X.K (biW .any)) := by
  intro pins s σ H xs us Q I r h
  rcases rL_pure h with ⟨w, ps, z, rfl, ok, ra, hz, k⟩ | ⟨w, n, a, ws, vs, rfl, ok, rfl, e1, r3, ⟨hb, k⟩ | ⟨ps, _, ⟨hb, _⟩ | ⟨hb, _⟩⟩⟩
  · unfold biP at hz
    split at hz <;> rename_i e <;> (try cases e) <;> (try (cases hz; done))
    rename_i ys
    obtain ⟨v1, rfl, r1⟩ := ra.one
    cases r1 with
      | lst s1 n1 a1 =>
        cases q : boolsOf ys with
        | none => rw [q] at hz; cases hz
        | some ns =>
          rw [q] at hz
          have e2 := a1.toBools q
          subst e2
          cases hz
          exact cr_any hc pins s σ w.H _ us Q I r ⟨_, ns, rfl, SqL.of s1, k w _ rfl Ext.refl ok (.bl _)⟩
  all_goals cases hb
theorem ints_rp {K : PySem.W.Frag} {H : Hp} {B : Addr → Prop} : ∀ ns : List Int, RpAll K H B (ns.map V.int) (ns.map PyData.int) := RpAll.ints
theorem c_sorted : CallR X (.builtin "sorted") (rL X.K (biW .sorted)) := by
  intro pins s σ H xs us Q I r h
  rcases rL_pure h with ⟨w, ps, z, rfl, ok, ra, hz, k⟩ | ⟨w, n, a, ws, vs, rfl, ok, rfl, e1, r3, ⟨hb, k⟩ | ⟨ps, _, ⟨hb, _⟩ | ⟨hb, _⟩⟩⟩
  · unfold biP at hz
    split at hz <;> rename_i e <;> (try cases e) <;> (try (cases hz; done))
    rename_i ys
    obtain ⟨v1, rfl, r1⟩ := ra.one
    cases r1 with
      | lst s1 n1 a1 =>
        cases q : intsOf ys with
        | none => rw [q] at hz; cases hz
        | some ns =>
          rw [q] at hz
          have e2 := a1.toInts q
          subst e2
          cases hz
          refine cr_sortedI pins s σ w.H _ us Q I r ⟨_, ns, rfl, SqL.of s1, fun ns' p h1 h2 hp => ?_⟩
          obtain ⟨e4, ok4⟩ := laid ok hp (.lst (ns'.map V.int))
          have e3 := isort_eq h1 h2
          subst e3
          exact k ⟨_, w.μ, w.S, w.F⟩ (.ref p) rfl e4 ok4 (Rp.lst upd_same (fun z => ok.nlv hp z) (ints_rp _))
  all_goals cases hb
theorem c_tuple : CallR X (.type "tuple") (rL X.K (biW .tuple)) := by
  intro pins s σ H xs us Q I r h
  have new : ∀ (w : Wd) (vs : List V) (ps : List P), Ok X.K w → RpAll X.K w.H w.Lv vs ps → (∀ (w' : Wd) (v : V), w'.S = w.S → Ext X.K w w' → Ok X.K w' → Rp X.K w'.H w'.Lv v (.tuple ps) → Q v w'.H) → ∀ p, w.H p = none → Q (.ref p) (upd w.H p (.tup vs)) := fun w vs ps ok a1 k p hp => by
    obtain ⟨e4, ok4⟩ := laid ok hp (.tup vs)
    exact k ⟨_, w.μ, w.S, w.F⟩ (.ref p) rfl e4 ok4 (Rp.mkTup (SqT.of upd_same) (fun z => ok.nlv hp z) (RpAll.ext e4 a1))
  rcases rL_pure h with ⟨w, ps, z, rfl, ok, ra, hz, k⟩ | ⟨w, n, a, ws, vs, rfl, ok, rfl, e1, r3, ⟨hb, k⟩ | ⟨ps, rp, ⟨hb, k⟩ | ⟨hb, _⟩⟩⟩
  · unfold biP at hz
    split at hz <;> rename_i e <;> (try cases e) <;> (try (cases hz; done))
    · cases hz
      obtain ⟨v1, rfl, r1⟩ := ra.one
      cases r1 with
        | lst s1 n1 a1 => exact call_tuple_of pins s σ w.H _ us Q I r ⟨_, _, rfl, .inl ⟨SqL.of s1, new w _ _ ok a1 k⟩⟩
    · cases hz
      obtain ⟨v1, rfl, r1⟩ := ra.one
      cases r1 with
        | tup s1 n1 a1 => exact call_tuple_of pins s σ w.H _ us Q I r ⟨_, _, rfl, .inr ⟨s1.sq, k w _ rfl Ext.refl ok (.tup s1 n1 a1)⟩⟩
  · cases hb
  · exact call_tuple_of pins s σ w.H _ us Q I r ⟨_, _, rfl, .inl ⟨SqL.of e1, new w _ _ ok rp k⟩⟩
  · cases hb
theorem c_list : CallR X (.type "list") (rL X.K (biW .list)) := by
  intro pins s σ H xs us Q I r h
  have new : ∀ (w : Wd) (vs : List V) (ps : List P), Ok X.K w → RpAll X.K w.H w.Lv vs ps → (∀ (w' : Wd) (v : V), w'.S = w.S → Ext X.K w w' → Ok X.K w' → Rp X.K w'.H w'.Lv v (.list ps) → Q v w'.H) → ∀ p, w.H p = none → Q (.ref p) (upd w.H p (.lst vs)) := fun w vs ps ok a1 k p hp => by
    obtain ⟨e4, ok4⟩ := laid ok hp (.lst vs)
    exact k ⟨_, w.μ, w.S, w.F⟩ (.ref p) rfl e4 ok4 (Rp.lst upd_same (fun z => ok.nlv hp z) (RpAll.ext e4 a1))
  rcases rL_pure h with ⟨w, ps, z, rfl, ok, ra, hz, k⟩ | ⟨w, n, a, ws, vs, rfl, ok, rfl, e1, r3, ⟨hb, k⟩ | ⟨ps, rp, ⟨hb, k⟩ | ⟨hb, k⟩⟩⟩
  · unfold biP at hz
    split at hz <;> rename_i e <;> (try cases e) <;> (try (cases hz; done))
    · cases hz
      obtain ⟨v1, rfl, r1⟩ := ra.one
      cases r1 with
        | lst s1 n1 a1 => exact call_list_of pins s σ w.H _ us Q I r ⟨_, _, rfl, .inl (SqL.of s1), new w _ _ ok a1 k⟩
    · cases hz
      obtain ⟨v1, rfl, r1⟩ := ra.one
      cases r1 with
        | tup s1 n1 a1 => exact call_list_of pins s σ w.H _ us Q I r ⟨_, _, rfl, .inr s1.sq, new w _ _ ok a1 k⟩
  · cases hb
  · cases hb
  · exact call_list_of pins s σ w.H _ us Q I r ⟨_, _, rfl, .inl (SqL.of e1), new w _ _ ok rp k⟩
end
end Mi
set_option Elab.async false
set_option linter.all false
set_option maxRecDepth 100000
set_option autoImplicit false
/-! Mi: displays of lists, methods of lists, isinstance. -/
namespace Mi
open PySem PySem.Spec L2
section
variable {X : Cx} {E : WX} {a b d : Expr} {f g h : L → Sto → R W} {pos : Pos}
theorem s_lstv {es : List Expr} {g : L → Sto → R (List W)} (hlen : ∀ l S xs S', g l S = .ok xs S' → xs.length ≤ maxLen) (hb : PA X es (tA X.K E g)) :
    PE X (.List es pos) (tE X.K E fun l S => (g l S).bind fun ws S => retP ((asPs ws).map .list) S) := by
  refine PE.imp' (pe_lst hb) fun σ H Q ⟨w, l, eH, ok, lr, h0⟩ => ?_
  refine ⟨w, l, eH, ok, lr, (h0.bind (Rvs X.K)).imp fun w' v x S hx hS e1 ok1 r1 q => ?_⟩
  obtain ⟨w1, ws, eH1, e1, ok1, r1, h1⟩ := q
  rw [← eH1]
  refine ⟨by have q1 := hlen _ _ _ _ hx; have q2 := Rvs.length r1; have q3 := Rvs.length (K := X.K) (w := w') ‹_›; have := sizeLine_eq; unfold maxLen at q1; omega, fun p hp => ?_⟩
  obtain ⟨e2, ok2⟩ := laid ok1 hp (.lst v)
  cases q : asPs ws with
  | none => rw [q] at h1; exact h1.elim
  | some ps =>
    rw [q] at h1
    refine h1 ⟨upd w1.H p (.lst v), w1.μ, w1.S, w1.F⟩ (.ref p) rfl e2 ok2 ?_
    exact Rp.lst upd_same (fun z => ok1.nlv hp z) (RpAll.ext e2 (Rvs.pure r1 q))
theorem s_lstm {es : List Expr} {g : L → Sto → R (List W)} (hlen : ∀ l S xs S', g l S = .ok xs S' → xs.length ≤ maxLen) (hb : PA X es (tA X.K E g)) :
    PE X (.List es pos) (tE X.K E fun l S => (g l S).bind fun ws S => .ok (.rf S.length) (S ++ [.lst ws])) := by
  refine PE.imp' (pe_lst hb) fun σ H Q ⟨w, l, eH, ok, lr, h0⟩ => ?_
  refine ⟨w, l, eH, ok, lr, (h0.bind (Rvs X.K)).imp fun w' v x S hx hS e1 ok1 r1 q => ?_⟩
  obtain ⟨w1, ws, eH1, e1, ok1, r1, h1⟩ := q
  rw [← eH1]
  refine ⟨by have q1 := hlen _ _ _ _ hx; have q2 := Rvs.length r1; have q3 := Rvs.length (K := X.K) (w := w') ‹_›; have := sizeLine_eq; unfold maxLen at q1; omega, fun p hp => ?_⟩
  obtain ⟨e2, ok2⟩ := made ok1 hp (u := .lst v) (x := .lst ws) fun w2 x2 q2 => ⟨v, q2, Rvs.ext x2 r1⟩
  refine h1 ⟨upd w1.H p (.lst v), w1.μ ++ [p], w1.S ++ [.lst ws], w1.F⟩ (.ref p) rfl e2 ok2 ?_
  exact ⟨p, by rw [← ok1.len]; exact snoc_get, rfl⟩
theorem seq_at {K : PySem.W.Frag} {w : Wd} {x : V} {a : W} {ws : List W} (ok : Ok K w) (r : Rv K w x a) (h : seqOf a w.S = some ws) : ∃ (p : Addr) (vs : List V), x = .ref p ∧ Rvs K w vs ws ∧ (SqL K w.H p vs ∨ SqT K w.H p vs) := by
  cases a with
  | sc ns => cases h
  | pv p =>
    cases p with
    | list ps => cases h; cases r with | lst s1 n1 a1 => exact ⟨_, _, rfl, a1.rvs, .inl (SqL.of s1)⟩
    | tuple ps => cases h; cases r with | tup s1 n1 a1 => exact ⟨_, _, rfl, a1.rvs, .inr s1.sq⟩
    | _ => cases h
  | rf n =>
    obtain ⟨p, h1, rfl⟩ := r
    have h : (match w.S[n]? with
      | some (.lst xs) => some xs
      | _ => none) = some ws := h
    cases q : w.S[n]? with
    | none => rw [q] at h; cases h
    | some o =>
      rw [q] at h
      cases o with
      | lst ws' =>
        cases h
        obtain ⟨vs, e1, r3⟩ := ok.obj n p _ h1 q
        exact ⟨p, vs, rfl, r3, .inl (SqL.of e1)⟩
      | dct _ => cases h
      | dead => cases h
theorem c_lmk : CallR X (.type "list") (rL X.K fun ws S => match ws with
    | [x] => lmkW x S
    | _ => .stuck) := by
  intro pins s σ H xs us Q I r h
  obtain ⟨w, as, rfl, ok, ra, k⟩ := h
  dsimp only at k
  split at k
  · rename_i x
    cases ra with
    | cons r1 r2 =>
      cases r2
      unfold lmkW at k
      cases hs : seqOf x w.S with
      | none => rw [hs] at k; exact k.elim
      | some ws =>
        rw [hs] at k
        obtain ⟨p, ys, rfl, rr, hq⟩ := seq_at ok r1 hs
        refine call_list_of pins s σ w.H _ us Q I r ⟨p, ys, rfl, hq, fun q hq => ?_⟩
        obtain ⟨e2, ok2⟩ := made ok hq (u := .lst ys) (x := .lst ws) fun w2 x2 q2 => ⟨ys, q2, Rvs.ext x2 rr⟩
        exact k ⟨upd w.H q (.lst ys), w.μ ++ [q], w.S ++ [.lst ws], w.F⟩ (.ref q) rfl e2 ok2 ⟨q, by rw [← ok.len]; exact snoc_get, rfl⟩
  · exact k.elim
theorem kvs_pure {K : PySem.W.Frag} {w : Wd} : ∀ {ks : List (Key × V)} {ws : List ((Int ⊕ Str) × W)} {ps : List (P × P)}, Paired (fun p q => p.1 = q.1 ∧ Rv K w p.2 q.2) ks ws → asKs ws = some ps → RpKv K w.H w.Lv ks ps
  | _, _, _, .nil, e => by cases e; exact .nil
  | (a, b) :: _, (k, .pv p) :: ws, ps, .cons r t, e => by
    unfold asKs at e
    cases q : asKs ws with
    | none => rw [q] at e; cases e
    | some qs =>
      rw [q] at e; cases e
      have e1 : a = k := r.1
      subst e1
      exact .cons r.2 (kvs_pure t q)
  | _, (_, .rf _) :: _, _, .cons _ _, e => by cases e
  | _, (_, .sc _) :: _, _, .cons _ _, e => by cases e
/-- an object of the store gives its items away -/
theorem s_frz (ha : PE X a (tE X.K E f)) : PE X a (tE X.K E fun l S => (f l S).bind fun x S => frzW x S) := by
  refine PE.imp' ha fun σ H Q ⟨w, l, eH, ok, lr, h⟩ => ?_
  refine tE.bind (g := fun x l S => frzW x S) eH ok lr h fun w1 v x e1 ok1 lr1 r1 h1 => ?_
  cases x with
  | pv p => exact h1 w1 v rfl Ext.refl ok1 r1
  | sc ns => exact h1 w1 v rfl Ext.refl ok1 r1
  | rf n =>
    obtain ⟨p, hp, rfl⟩ := r1
    have h1 : After X.K E (Rv X.K) (match w1.S[n]? with
      | some (.lst xs) => match asPs xs with
        | some ps => .ok (.pv (.list ps)) (w1.S.set n .dead)
        | none => .stuck
      | some (.dct kvs) => match asKs kvs with
        | some ps => .ok (.pv (.dict ps)) (w1.S.set n .dead)
        | none => .stuck
      | _ => .stuck) w1 σ Q := h1
    cases q : w1.S[n]? with
    | none => rw [q] at h1; exact h1.elim
    | some o =>
      rw [q] at h1
      cases o with
      | dct ws =>
        obtain ⟨vs, e2, r3⟩ := ok1.obj n p _ hp q
        have h1 : After X.K E (Rv X.K) (match asKs ws with
          | some ps => .ok (.pv (.dict ps)) (w1.S.set n .dead)
          | none => .stuck) w1 σ Q := h1
        cases q2 : asKs ws with
        | none => rw [q2] at h1; exact h1.elim
        | some ps =>
          rw [q2] at h1
          obtain ⟨e3, ok3⟩ := freed ok1 (n := n)
          refine h1 ⟨w1.H, w1.μ, w1.S.set n .dead, w1.F⟩ (.ref p) rfl e3 ok3 (Rp.dct e2 (fun hz => hz.elim (fun ⟨m, z, g1, g2, g3⟩ => ?_) fun z => ok1.dis p ⟨n, .dct ws, hp, q, (by intro z; cases z)⟩ z) (RpKv.ext e3 (kvs_pure r3 q2)))
          have g1 : w1.μ[m]? = some p := g1
          have g2 : (w1.S.set n .dead)[m]? = some z := g2
          have hn : n < w1.S.length := by rcases List.getElem?_eq_some_iff.mp q with ⟨z, _⟩; exact z
          by_cases hm : n = m
          · subst hm
            rw [List.getElem?_set_self hn] at g2; cases g2; exact g3 rfl
          · rw [List.getElem?_set_ne hm] at g2
            exact hm (ok1.inj n m p (.dct ws) z hp g1 q (fun z => by cases z) g2 g3)
      | dead => exact h1.elim
      | lst ws =>
        obtain ⟨vs, e2, r3⟩ := ok1.obj n p _ hp q
        have h1 : After X.K E (Rv X.K) (match asPs ws with
          | some ps => .ok (.pv (.list ps)) (w1.S.set n .dead)
          | none => .stuck) w1 σ Q := h1
        cases q2 : asPs ws with
        | none => rw [q2] at h1; exact h1.elim
        | some ps =>
          rw [q2] at h1
          obtain ⟨e3, ok3⟩ := freed ok1 (n := n)
          refine h1 ⟨w1.H, w1.μ, w1.S.set n .dead, w1.F⟩ (.ref p) rfl e3 ok3 (Rp.lst e2 (fun hz => hz.elim (fun ⟨m, z, g1, g2, g3⟩ => ?_) fun z => ok1.dis p ⟨n, .lst ws, hp, q, (by intro z; cases z)⟩ z) (RpAll.ext e3 (Rvs.pure r3 q2)))
          have g1 : w1.μ[m]? = some p := g1
          have g2 : (w1.S.set n .dead)[m]? = some z := g2
          have hn : n < w1.S.length := by rcases List.getElem?_eq_some_iff.mp q with ⟨z, _⟩; exact z
          by_cases hm : n = m
          · subst hm
            rw [List.getElem?_set_self hn] at g2; cases g2; exact g3 rfl
          · rw [List.getElem?_set_ne hm] at g2
            exact hm (ok1.inj n m p (.lst ws) z hp g1 q (fun z => by cases z) g2 g3)

/-! ### methods of lists -/
/-- a method by values -/
def rM (K : PySem.W.Frag) (h : W → List W → Sto → R W) : V → List V → Hp → VK → Prop := fun x xs H Q => ∃ (w : Wd) (a : W) (as : List W), w.H = H ∧ Ok K w ∧ Rv K w x a ∧ Rvs K w xs as ∧ AfterV K (h a as w.S) w Q
theorem lst_ty {K : PySem.W.Frag} {w : Wd} {x : V} {a : W} (ok : Ok K w) (r : Rv K w x a) (h : isLst a w.S = true) : tyV K "list" x w.H := by
  unfold isLst at h
  split at h
  · rename_i n
    obtain ⟨p, h1, rfl⟩ := r
    split at h
    · rename_i ws q
      obtain ⟨vs, e, _⟩ := ok.obj n p _ h1 q
      exact .inl ⟨rfl, vs, SqL.of e⟩
    · cases h
  · cases h
theorem s_meth1 {o e : Expr} {name : Str} {apos cpos : Pos} {id : String} {k : W → W → Sto → R W} (slot : Slot "list" name id) (hty : typeOf (.builtin id) = pure (.type "method_descriptor")) (hm : MtR X id (rM X.K fun x ys S => match ys with
      | [y] => k x y S
      | _ => .stuck)) (hn : ∀ x y S, NoErr (k x y S)) (ho : PE X o (tE X.K E f)) (he : PE X e (tE X.K E g))
    (hbase : attributeBase o name X.env (eval o X.env) = eval o X.env) (hs : starEach [e] X.env = (false, eval e X.env) :: starEach [] X.env) (hline : (apos.endLine == cpos.line) = true) :
    PE X (.Call (.Attribute o name apos) [e] [] cpos) (tE X.K E fun l S => (f l S).bind fun x S => if isLst x S then (g l S).bind fun y S => k x y S else .stuck) := by
  have hfew : ((backTo cpos (starEach [e] X.env)).all (fun x => !x.1) && (backToKw cpos (keywordEach [] X.env)).all (fun x => x.1.isSome)
      && decide ([e].length + ([] : List Keyword).length + (if ([] : List Keyword).isEmpty then 0 else 1) < 30)) = true := by rw [hs]; rfl
  refine PE.imp' (pe_bm PySem.F.plainAttrs_list slot hty hm ho (s_cons he s_nil hs) hbase hfew hline hs rfl) fun σ H Q ⟨w, l, eH, ok, lr, h⟩ => ?_
  refine tE.bind (g := fun x l S => if isLst x S then (g l S).bind fun y S => k x y S else .stuck) eH ok lr h fun w1 v x e1 ok1 lr1 r1 h1 => ?_
  by_cases hx : isLst x w1.S = true
  · rw [if_pos hx] at h1
    refine ⟨lst_ty ok1 r1 hx, w1, l, rfl, ok1, lr1, ?_⟩
    have h2 := After.bind (Rv X.K) h1
    show After X.K E (Rvs X.K) ((g l w1.S).bind fun x S => (R.ok [] S).bind fun xs S => R.ok (x :: xs) S) w1 σ _
    cases q : g l w1.S with
    | stuck => rw [q] at h2; exact h2
    | err z S => rw [q] at h2; exact h2
    | ok y S =>
      rw [q] at h2
      intro w2 vs h3 h4 h5 h6
      cases h6 with
      | cons r2 r3 =>
        cases r3
        obtain ⟨w3, y', eH3, e3, ok3, r4, h7⟩ := h2 w2 _ h3 h4 h5 r2
        rw [← eH3]
        exact ⟨w3, x, [y'], rfl, ok3, r1.ext e3, .cons r4 .nil, AfterV.of (hn _ _ _) h7⟩
  · rw [if_neg hx] at h1; exact h1.elim
theorem rf_lst {K : PySem.W.Frag} {w : Wd} {x : V} {n : Nat} {ws : List W} (ok : Ok K w) (r : Rv K w x (.rf n)) (q : w.S[n]? = some (.lst ws)) : ∃ p vs, x = .ref p ∧ w.μ[n]? = some p ∧ w.H p = some (.lst vs) ∧ Rvs K w vs ws := by
  obtain ⟨p, h1, rfl⟩ := r
  obtain ⟨vs, e, r3⟩ := ok.obj n p _ h1 q
  exact ⟨p, vs, rfl, h1, e, r3⟩
theorem m_app : MtR X "list.append" (rM X.K fun x ys S => match ys with
      | [y] => appW x y S
      | _ => .stuck) := by
  intro pins s σ H x xs v us Q I rx rxs h
  obtain ⟨w, a, as, rfl, ok, r1, r2, k⟩ := h
  dsimp only at k
  split at k
  · rename_i y
    cases r2 with
    | cons r2 r3 =>
      cases r3
      unfold appW at k
      split at k
      · rename_i n
        split at k
        · rename_i ws q
          obtain ⟨p, vs, rfl, h1, e, r4⟩ := rf_lst ok r1 q
          split at k
          · rename_i hl
            have hvl := Rvs.length r4
            refine mt_append pins s σ w.H _ _ v us Q I rx rxs ⟨p, vs, _, rfl, rfl, e, (by rw [sizeLine_eq, hvl]; exact hl), ?_⟩
            obtain ⟨e2, ok2⟩ := wrote ok h1 q (by intro z; cases z) (u := .lst (vs ++ [_])) (y := .lst (ws ++ [y])) fun w2 x2 q2 => ⟨_, q2, Rvs.append (Rvs.ext x2 r4) (.cons (r2.ext x2) .nil)⟩
            exact k ⟨upd w.H p (.lst _), w.μ, w.S.set n (.lst (ws ++ [y])), w.F⟩ .non rfl e2 ok2 .non
          · exact k.elim
        · exact k.elim
      · exact k.elim
  · exact k.elim
theorem list_extend_tupleA (l : Addr) (items : Array Value) (n : Nat) (b : Addr) (items2 : Array Value) (n2 : Nat) (dd : Option Addr) (sl : Array (Option Value)) (hs0 : ¬(!items.isEmpty && Builtin.List.listTooLong (items.size + items2.size)) = true) (hs1 : items.size ≤ sizeLine) (hs2 : items.size + items2.size ≤ sizeLine + 1) :
    Meets (Builtin.«list.extend» ⟨[.ref l, .ref b], []⟩) (fun _ R s => s.heap.get? l = some { cls := .type "list", dict := none, data := .seq items n, slots := #[] } ∧ s.heap.get? b = some { cls := .type "tuple", dict := dd, data := .seq items2 n2, slots := sl } ∧ R (.ok (.ret Value.none)) { s with heap := s.heap.update l (Obj.mapSeq fun x => x ++ items2), toks := s.toks }) :=
  .of_wp fun prog w A R s h => by
    obtain ⟨hp, g, d, tk, os⟩ := s; obtain ⟨hl, hb, h⟩ := h; have f1 := AutoSeq1.idx_int; have f2 := AutoSeq1.sub_tuple_tuple; have f3 := AutoSeq1.sub_list_list; have f4 := AutoSeq1.sub_tuple_list; have f5 := AutoSeq1.sub_list_tuple;
    have hz' : (items ++ items2).size ≤ sizeLine + 1 := by rw [Array.size_append]; exact hs2
    wp_walk using (wpAny_updateSeq hl rfl (hz := hs1) (_hz' := hz')), AutoSeq1.wpAny_loadPart' hl, AutoSeq1.wpAny_loadPart' hb; exact ⟨_, rfl, h⟩
theorem mt_extendT : MtM X "list.extend" fun x vs H Q => ∃ l b xs zs, x = .ref l ∧ vs = [.ref b] ∧ H l = some (.lst xs) ∧ SqT X.K H b zs ∧ xs.length + zs.length ≤ sizeLine ∧ Q .non (upd H l (.lst (xs ++ zs))) := by
  intro pins s σ H x vs v us Q I rx rv h
  obtain ⟨l, b, xs, zs, rfl, rfl, hH, hB, hz, q⟩ := h
  cases rx
  obtain ⟨u, rfl, ru⟩ := rv.one
  cases ru
  obtain ⟨z, its, n, r, hl, e⟩ := I.lstM hH
  obtain ⟨its2, r2, ⟨⟨cls, dd, data, sl⟩, ho2, hc2, n2, hd2⟩, hl2⟩ := I.tuple hB
  simp only at hc2 hd2
  subst hc2 hd2
  have hll := r2.length
  have hsz : its.toArray.size + its2.toArray.size ≤ sizeLine := by rw [List.size_toArray, List.size_toArray]; omega
  have hlong : ¬ (!its.toArray.isEmpty && Builtin.List.listTooLong (its.toArray.size + its2.toArray.size)) = true := by
    rw [notLongL hsz, Bool.and_false]
    exact Bool.false_ne_true
  refine call_meets PySem.F.slot_list_extend ⟨_, e, rfl⟩ PySem.F.entry_list_extend (PySem.F.args_list_extend_2 _ _)
    (list_extend_tupleA l its.toArray n b its2.toArray n2 dd sl hlong (by rw [List.size_toArray]; omega) (by omega)) ⟨e, ho2, ?_⟩
  refine ⟨.non, _, I.lset (its' := its ++ its2) hH e (by simp) (r.append r2) ?_, rfl, q⟩
  rw [List.length_append]
  omega
theorem m_ext : MtR X "list.extend" (rM X.K fun x ys S => match ys with
      | [y] => extW x y S
      | _ => .stuck) := by
  intro pins s σ H x xs v us Q I rx rxs h
  obtain ⟨w, a, as, rfl, ok, r1, r2, k⟩ := h
  dsimp only at k
  split at k
  · rename_i y
    cases r2 with
    | cons r2 r3 =>
      cases r3
      revert k
      have go : ∀ (n : Nat) (ys : List P) (b : Addr) (zs : List V), a = .rf n → RpAll X.K w.H w.Lv zs ys → AfterV X.K (extP n ys w.S) w Q → (∀ p vs, w.H p = some (.lst vs) → vs.length + zs.length ≤ sizeLine → (Q .non (upd w.H p (.lst (vs ++ zs)))) → x = .ref p →
          wpAny (model X.prog X.w) X.A (call (.builtin "list.extend") (v :: us)) (EP X pins σ Q) X.xe s) → wpAny (model X.prog X.w) X.A (call (.builtin "list.extend") (v :: us)) (EP X pins σ Q) X.xe s := fun n ys b zs ea rp k fin => by
        subst ea
        unfold extP at k
        split at k
        · rename_i ws q
          obtain ⟨p, vs, rfl, h1, e, r4⟩ := rf_lst ok r1 q
          split at k
          · rename_i hl
            refine fin p vs e (by rw [sizeLine_eq, Rvs.length r4, rp.length]; exact hl) ?_ rfl
            obtain ⟨e2, ok2⟩ := wrote ok h1 q (by intro z; cases z) (u := .lst (vs ++ zs)) (y := .lst (ws ++ ys.map .pv)) fun w2 x2 q2 => ⟨_, q2, Rvs.append (Rvs.ext x2 r4) (RpAll.rvs (RpAll.ext x2 rp))⟩
            exact k ⟨upd w.H p (.lst _), w.μ, w.S.set n (.lst (ws ++ ys.map .pv)), w.F⟩ .non rfl e2 ok2 .non
          · exact k.elim
        · exact k.elim
      intro k
      unfold extW at k
      split at k
      · cases r2 with
        | lst s1 n1 a1 =>
          refine go _ _ 0 _ rfl a1 k fun p vs h1 h2 h3 ex => ?_
          subst ex
          exact mt_extend pins s σ w.H _ _ v us Q I rx rxs ⟨p, _, vs, _, rfl, rfl, h1, s1, h2, h3⟩
      · cases r2 with
        | tup s1 n1 a1 =>
          refine go _ _ 0 _ rfl a1 k fun p vs h1 h2 h3 ex => ?_
          subst ex
          exact mt_extendT pins s σ w.H _ _ v us Q I rx rxs ⟨p, _, vs, _, rfl, rfl, h1, s1.sq, h2, h3⟩
      · exact k.elim
  · exact k.elim
theorem m_popi : MtR X "list.pop" (rM X.K fun x ys S => match ys with
      | [y] => popiW x y S
      | _ => .stuck) := by
  intro pins s σ H x xs v us Q I rx rxs h
  obtain ⟨w, a, as, rfl, ok, r1, r2, k⟩ := h
  dsimp only at k
  split at k
  · rename_i y
    cases r2 with
    | cons r2 r3 =>
      cases r3
      unfold popiW at k
      split at k
      · rename_i i
        cases r2
        unfold popW at k
        split at k
        · rename_i n
          split at k
          · rename_i ws q
            obtain ⟨p, vs, rfl, h1, e, r4⟩ := rf_lst ok r1 q
            split at k
            · rename_i j hj
              split at k
              · rename_i z hz
                obtain ⟨g1, g2, g3, g4⟩ := ixN_seq hj
                obtain ⟨z', e3, r5⟩ := Rvs.get r4 hz
                have hvl := Rvs.length r4
                have hsl := (I.lstM e).1
                have := sizeLine_eq
                refine mt_popAt pins s σ w.H _ _ v us Q I rx rxs ⟨p, vs, i, j, z', rfl, rfl, e, (by omega), (by omega), (by rw [hvl]; exact g1), e3, ?_⟩
                obtain ⟨e2, ok2⟩ := wrote ok h1 q (by intro z; cases z) (u := .lst (vs.eraseIdx j)) (y := .lst (ws.eraseIdx j)) fun w2 x2 q2 => ⟨_, q2, Rvs.erase (Rvs.ext x2 r4) j⟩
                exact k ⟨upd w.H p (.lst _), w.μ, w.S.set n (.lst (ws.eraseIdx j)), w.F⟩ z' rfl e2 ok2 (r5.ext e2)
              · exact k.elim
            · exact k.elim
          · exact k.elim
        · exact k.elim
      · exact k.elim
  · exact k.elim
theorem m_pop : MtR X "list.pop" (rM X.K fun x ys S => match ys with
      | [] => popW x (-1) S
      | _ => .stuck) := by
  intro pins s σ H x xs v us Q I rx rxs h
  obtain ⟨w, a, as, rfl, ok, r1, r2, k⟩ := h
  dsimp only at k
  split at k
  · cases r2
    unfold popW at k
    split at k
    · rename_i n
      split at k
      · rename_i ws q
        obtain ⟨p, vs, rfl, h1, e, r4⟩ := rf_lst ok r1 q
        split at k
        · rename_i j hj
          split at k
          · rename_i z hz
            have hvl := Rvs.length r4
            have ej : j = ws.length - 1 := by
              unfold idxN ixN at hj
              rw [if_neg (by decide)] at hj
              split at hj
              · cases hj; omega
              · cases hj
            have hlt : j < ws.length := by rcases List.getElem?_eq_some_iff.mp hz with ⟨z, _⟩; exact z
            obtain ⟨z', e3, r5⟩ := Rvs.get r4 hz
            have ed : vs.eraseIdx j = vs.dropLast := by
              have := List.eraseIdx_eq_take_drop_succ vs j
              rw [this, List.dropLast_eq_take, List.drop_eq_nil_of_le (by omega), List.append_nil]
              congr 1; omega
            refine mt_pop pins s σ w.H _ _ v us Q I rx rxs ⟨p, vs, z', rfl, rfl, e, (by rw [hvl, ← ej]; exact e3), ?_⟩
            obtain ⟨e2, ok2⟩ := wrote ok h1 q (by intro z; cases z) (u := .lst (vs.eraseIdx j)) (y := .lst (ws.eraseIdx j)) fun w2 x2 q2 => ⟨_, q2, Rvs.erase (Rvs.ext x2 r4) j⟩
            rw [← ed]
            exact k ⟨upd w.H p (.lst _), w.μ, w.S.set n (.lst (ws.eraseIdx j)), w.F⟩ z' rfl e2 ok2 (r5.ext e2)
          · exact k.elim
        · exact k.elim
      · exact k.elim
    · exact k.elim
  · exact k.elim
end
end Mi
set_option Elab.async false
set_option linter.all false
set_option maxRecDepth 100000
set_option autoImplicit false
/-! Mi: calls. -/
namespace Mi
open PySem PySem.Spec L2
section
variable {X : Cx} {E : WX} {a b d : Expr} {f g h : L → Sto → R W} {pos : Pos}
/-! ### built-in functions and types by name -/
theorem s_callB {x : Str} {id : String} {e : Expr} {es : List Expr} {p : Pos} {g : L → Sto → R (List W)} {k : List W → Sto → R W} (hc : CallR X (.builtin id) (rL X.K k)) (hn : ∀ x S, NoErr (k x S)) (hg : Gl X x) (hm : X.mg x = none) (hv : bootBuiltins x = some (.builtin id))
    (ha : PA X (e :: es) (tA X.K E g)) (hx : x ≠ "__name__") (hdb : (x == ("__debug__" : Str)) = false) (he : starEach (e :: es) X.env = (false, eval e X.env) :: starEach es X.env) (hpl : (backTo pos (starEach es X.env)).any (·.1) = false) :
    PE X (.Call (.Name x p) (e :: es) [] pos) (tE X.K E fun l S => (g l S).bind fun ws S => k ws S) := by
  refine PE.imp' (pe_callB hc hg hm hv ha hx hdb he hpl) fun σ H Q ⟨w, l, eH, ok, lr, h⟩ => ?_
  refine tA.bind (g := fun ws l S => k ws S) eH ok lr h fun w1 vs ws e1 ok1 lr1 r1 h1 => ?_
  exact ⟨w1, ws, rfl, ok1, r1, AfterV.of (hn _ _) h1⟩
theorem s_callTy {x : Str} {T : String} {e : Expr} {es : List Expr} {p : Pos} {g : L → Sto → R (List W)} {k : List W → Sto → R W} (hc : CallR X (.type T) (rL X.K k)) (hn : ∀ x S, NoErr (k x S)) (hg : Gl X x) (hm : X.mg x = none) (hv : bootBuiltins x = some (.type T))
    (ha : PA X (e :: es) (tA X.K E g)) (hx : x ≠ "__name__") (hdb : (x == ("__debug__" : Str)) = false) (he : starEach (e :: es) X.env = (false, eval e X.env) :: starEach es X.env) (hpl : (backTo pos (starEach es X.env)).any (·.1) = false) :
    PE X (.Call (.Name x p) (e :: es) [] pos) (tE X.K E fun l S => (g l S).bind fun ws S => k ws S) := by
  refine PE.imp' (pe_callTy hc hg hm hv ha hx hdb he hpl) fun σ H Q ⟨w, l, eH, ok, lr, h⟩ => ?_
  refine tA.bind (g := fun ws l S => k ws S) eH ok lr h fun w1 vs ws e1 ok1 lr1 r1 h1 => ?_
  exact ⟨w1, ws, rfl, ok1, r1, AfterV.of (hn _ _) h1⟩
theorem noerr_retP (o : Option P) (S : Sto) : NoErr (retP o S) := by
  intro e S' h; unfold retP at h; split at h <;> cases h
theorem noerr_bi (b : B) (ws : List W) (S : Sto) : NoErr (biW b ws S) := by
  intro e S' h
  unfold biW at h
  split at h
  · exact noerr_retP _ _ _ _ h
  · split at h
    · split at h <;> cases h
    · split at h <;> cases h
    · split at h <;> cases h
    · cases h
theorem noerr_lmk (x : W) (S : Sto) : NoErr (lmkW x S) := by
  intro e S' h; unfold lmkW at h; split at h <;> cases h

/-! ### isinstance -/
def tyName : Ty → String
  | .tint => "int" | .tbool => "bool" | .tstr => "str" | .ttuple => "tuple" | .tlist => "list" | .tdict => "dict"
theorem rp_ty {K : PySem.W.Frag} {w : Wd} {x : V} {p : P} (r : Rp K w.H w.Lv x p) : ∃ n : String, TyX K w.H x (.type n) ∧ ∀ t b, isiP p t = some b → PySem.W.kitOne K (.type n) (.type (tyName t)) = some b := by
  cases r with
  | non => exact ⟨_, .base .non, fun t b h => by cases t <;> cases h <;> rfl⟩
  | bl k => exact ⟨_, .base (.bl k), fun t b h => by cases t <;> cases h <;> rfl⟩
  | int k => exact ⟨_, .base (.int k), fun t b h => by cases t <;> cases h <;> rfl⟩
  | str k => exact ⟨_, .base (.str k), fun t b h => by cases t <;> cases h <;> rfl⟩
  | lst s n r => exact ⟨_, .base (.lst s), fun t b h => by cases t <;> cases h <;> rfl⟩
  | dct s n r => exact ⟨_, .base (.dK s), fun t b h => by cases t <;> cases h⟩
  | tup s n r =>
    refine ⟨"tuple", ?_, fun t b h => by cases t <;> cases h <;> rfl⟩
    rcases s with ⟨s | ⟨o, s⟩, _⟩ | ⟨o, its, n, hk, hc, _⟩
    · exact .base (.tup s)
    · exact .fTuple s
    · exact .kTuple hk hc
theorem s_isi {x2 : Str} {t : Ty} {p p2 : Pos} (ha : PE X a (tE X.K E f)) (hg : Gl X "isinstance") (hm : X.mg "isinstance" = none) (hg2 : Gl X x2) (hm2 : X.mg x2 = none) (hv2 : bootBuiltins x2 = some (.type (tyName t)))
    (hn2 : x2 ≠ "__name__") (hd2 : (x2 == ("__debug__" : Str)) = false) (he : starEach [a, .Name x2 p2] X.env = (false, eval a X.env) :: starEach [.Name x2 p2] X.env) :
    PE X (.Call (.Name "isinstance" p) [a, .Name x2 p2] [] pos) (tE X.K E fun l S => (f l S).bind fun x S => pure1 (fun p => (isiP p t).map .bool) x S) := by
  refine PE.imp' (pe_callB (id := "isinstance") call_isi hg hm (by decide +kernel) (pa_cons ha (pa_cons (pe_bltn (v := .ty (tyName t)) hg2 hm2 hv2 rfl hn2 hd2) pa_nil) he) (by decide) (by decide) he rfl) fun σ H Q ⟨w, l, eH, ok, lr, h⟩ => ?_
  refine tE.bind (g := fun x l S => pure1 (fun p => (isiP p t).map .bool) x S) eH ok lr h fun w1 v x e1 ok1 lr1 r1 h1 => ?_
  cases x with
  | rf n => exact h1.elim
  | sc n => exact h1.elim
  | pv q =>
    have h1 : After X.K E (Rv X.K) (retP ((isiP q t).map .bool) w1.S) w1 σ Q := h1
    cases e : isiP q t with
    | none => rw [e] at h1; exact h1.elim
    | some b =>
      rw [e] at h1
      obtain ⟨n, t1, t2⟩ := rp_ty r1
      exact ⟨v, .ty (tyName t), .type n, .type (tyName t), b, rfl, .ty _, t1, t2 t b e, h1 w1 (.bl b) rfl Ext.refl ok1 (rv_bl b)⟩

/-! ### defs -/
/-- what a def promises, by its meaning -/
def spMi (K : PySem.W.Frag) (r : List W → Sto → R W) (n : Nat) : Sp := fun vs H Q E => ∃ (w : Wd) (ws : List W), w.H = H ∧ Ok K w ∧ Rvs K w vs ws ∧ vs.length = n ∧ After K (fun cls d _ H => E cls d H) (Rv K) (r ws w.S) w [] Q
/-- a call upon pure values: the callee's world is empty -/
def inner (w : Wd) : Wd := ⟨w.H, [], [], w.Lv⟩
theorem inner_ok {K : PySem.W.Frag} {w : Wd} (ok : Ok K w) : Ok K (inner w) := by
  refine ⟨rfl, fun i j a o o' h => (nomatch h), fun n a o h => (nomatch h), fun a h => ok.some h, fun a ⟨n, o, h, _⟩ => (nomatch h)⟩
theorem inner_lv {w : Wd} (a : Addr) : (inner w).Lv a ↔ w.Lv a := ⟨fun h => h.elim (fun ⟨n, o, h, _⟩ => by cases h) fun z => z, fun h => .inr h⟩
theorem inner_rp {K : PySem.W.Frag} {w : Wd} {v : V} {p : P} (r : Rp K w.H w.Lv v p) : Rp K (inner w).H (inner w).Lv v p := r.keep (fun _ _ h _ => h) fun a _ n z => n ((inner_lv a).mp z)
/-- .. and back -/
theorem outer_ok {K : PySem.W.Frag} {w w' : Wd} (ok : Ok K w) (e : Ext K (inner w) w') (ok' : Ok K w') : Ext K w ⟨w'.H, w.μ, w.S, w.F⟩ ∧ Ok K ⟨w'.H, w.μ, w.S, w.F⟩ := by
  have all : ∀ a o, w.H a = some o → w'.H a = some o := fun a o h => e.keep a o h fun ⟨n, o, h, _⟩ => by cases h
  have x : Ext K w ⟨w'.H, w.μ, w.S, w.F⟩ := ⟨fun a o h _ => all a o h, fun a h => .inl h, rfl, fun _ _ h => h⟩
  refine ⟨x, ok.len, ok.inj, fun n a o h1 h2 => ?_, fun a h => ?_, ok.dis⟩
  · have q := ok.obj n a o h1 h2
    cases o with
    | lst ws => obtain ⟨vs, e1, r⟩ := q; exact ⟨vs, all _ _ e1, Rvs.ext x r⟩
    | dct kvs => obtain ⟨vs, e1, r⟩ := q; exact ⟨vs, all _ _ e1, Paired.imp (fun _ _ z => ⟨z.1, Rv.ext x z.2⟩) r⟩
    | dead => trivial
  · obtain ⟨o, h⟩ := ok.frm a h; exact ⟨o, all a o h⟩
theorem outer_rp {K : PySem.W.Frag} {w w' : Wd} {v : V} {p : P} (e : Ext K (inner w) w') (r : Rp K w'.H w'.Lv v p) : Rp K w'.H (⟨w'.H, w.μ, w.S, w.F⟩ : Wd).Lv v p :=
  r.keep (fun _ _ h _ => h) fun a _ n z => n (.inr (by rw [e.frm]; exact z))
theorem pvs_of {ws : List W} (h : (asPs ws).isSome = true) : ∃ ps, asPs ws = some ps := Option.isSome_iff_exists.mp h
theorem rvs_inner {K : PySem.W.Frag} {w : Wd} : ∀ {vs : List V} {ws : List W} {ps : List P}, Rvs K w vs ws → asPs ws = some ps → Rvs K (inner w) vs ws
  | _, _, _, .nil, _ => .nil
  | _, .pv p :: ws, ps, .cons r t, e => by
    unfold asPs at e
    cases q : asPs ws with
    | none => rw [q] at e; cases e
    | some qs => exact .cons (inner_rp r) (rvs_inner t q)
  | _, .rf _ :: _, _, .cons _ _, e => by cases e
  | _, .sc _ :: _, _, .cons _ _, e => by cases e
theorem p_call {K : PySem.W.Frag} {E : WX} {w : Wd} {ws : List W} {vs : List V} {σ : L2.St} {Q : VK} {r : List W → Sto → R W} {n : Nat} (ok : Ok K w) (rv : Rvs K w vs ws) (hl : vs.length = n) (hp : (asPs ws).isSome = true) (h : After K E (Rv K) (pcallR (r ws []) w.S) w σ Q) : spMi K r n vs w.H Q (WE E σ) := by
  obtain ⟨ps, hps⟩ := pvs_of hp
  refine ⟨inner w, ws, rfl, inner_ok ok, rvs_inner rv hps, hl, ?_⟩
  show After K _ (Rv K) (r ws []) (inner w) [] Q
  cases q : r ws [] with
  | stuck => rw [q] at h; exact h
  | err x S =>
    rw [q] at h
    intro w' cls d h1 h2 h3 h4
    obtain ⟨x1, o1⟩ := outer_ok ok h2 h3
    exact h ⟨w'.H, w.μ, w.S, w.F⟩ cls d rfl x1 o1 h4
  | ok x S =>
    rw [q] at h
    cases x with
    | rf m => exact h.elim
    | sc m => exact h.elim
    | pv p =>
      intro w' v h1 h2 h3 h4
      obtain ⟨x1, o1⟩ := outer_ok ok h2 h3
      exact h ⟨w'.H, w.μ, w.S, w.F⟩ v rfl x1 o1 (outer_rp (w' := w') h2 h4)
theorem s_pcall {k n : Nat} {fa : Addr} {fd : FuncData} {ps : List Str} {r : List W → Sto → R W} {x : Str} {p : Pos} {e : Expr} {es : List Expr} {g : L → Sto → R (List W)} (F : FnOk X.prog X.w X.K X.mg X.base (L2.CX X.prog X.w) k fa fd ps (spMi X.K r n)) (hr : Room k X.A) (hg : Gl X x) (hm : X.mg x = some (.ref fa)) (hk : PySem.W.keepIn X.K (.ref fa) = true) (hb : Binds X.K fd ps []) (tk : Takes X E)
    (hlen : ∀ l S xs S', g l S = .ok xs S' → xs.length = n)
    (ha : PA X (e :: es) (tA X.K E g)) (hdb : (x == ("__debug__" : Str)) = false) (he : starEach (e :: es) X.env = (false, eval e X.env) :: starEach es X.env) (hpl : (backTo pos (starEach es X.env)).any (·.1) = false) :
    PE X (.Call (.Name x p) (e :: es) [] pos) (tE X.K E fun l S => (g l S).bind fun ws S => if (asPs ws).isSome then pcallR (r ws []) S else .stuck) := by
  refine PE.imp' (pe_callS F hr hg hm hk hb (fun σ => passAt tk σ) ha hdb he hpl) fun σ H Q ⟨w, l, eH, ok, lr, h⟩ => ?_
  refine ⟨w, l, eH, ok, lr, (h.bind (Rvs X.K)).imp fun w' v x S hx hS e1 ok1 r1 q => ?_⟩
  obtain ⟨w1, ws, eH1, e1, ok1, r2, h1⟩ := q
  rw [← eH1]
  by_cases hp : (asPs ws).isSome = true
  · rw [if_pos hp] at h1
    exact p_call ok1 r2 ((Rvs.length r1).trans (hlen _ _ _ _ hx)) hp h1
  · rw [if_neg hp] at h1; exact h1.elim

/-! ### calls upon one mutable list -/
def innerH (w : Wd) (p : Addr) (o : O) : Wd := ⟨w.H, [p], [o], fun a => w.Lv a ∧ a ≠ p⟩
theorem asPs_map : ∀ {ws : List W} {ps : List P}, asPs ws = some ps → ws = ps.map .pv
  | [], _, e => by cases e; rfl
  | .pv p :: ws, ps, e => by
    unfold asPs at e
    cases q : asPs ws with
    | none => rw [q] at e; cases e
    | some qs => rw [q] at e; cases e; rw [asPs_map q]; rfl
  | .rf _ :: _, _, e => by cases e
  | .sc _ :: _, _, e => by cases e
theorem flat_ro {K : PySem.W.Frag} {w w' : Wd} {p : Addr} {o : O} (hf : flatO o = true) (h : Ro K w p o) (eH : w'.H = w.H) (hl : ∀ a, w'.Lv a → w.Lv a) : Ro K w' p o := by
  cases o with
  | dead => trivial
  | dct _ => cases hf
  | lst ws =>
    obtain ⟨vs, e, r⟩ := h
    refine ⟨vs, by rw [eH]; exact e, ?_⟩
    obtain ⟨ps, hp⟩ := pvs_of hf
    have q := Rvs.pure r hp
    have q2 : RpAll K w'.H w'.Lv vs ps := by rw [eH]; exact q.keep (fun _ _ h _ => h) fun a _ n z => n (hl a z)
    have : ws = ps.map .pv := asPs_map hp
    rw [this]
    exact q2.rvs
theorem innerH_lv {w : Wd} {p : Addr} {o : O} (hp : w.Ld p) (a : Addr) : (innerH w p o).Lv a → w.Lv a := fun h => h.elim (fun ⟨n, o', h1, _⟩ => by
  cases n with
  | zero => cases h1; exact .inl hp
  | succ n => cases h1) fun z => z.1
theorem innerH_ok {K : PySem.W.Frag} {w : Wd} {p : Addr} {n : Nat} {o : O} (ok : Ok K w) (h1 : w.μ[n]? = some p) (h2 : w.S[n]? = some o) (hf : flatO o = true) (hd : o ≠ O.dead) : Ok K (innerH w p o) := by
  have lp : w.Ld p := ⟨n, o, h1, h2, hd⟩
  refine ⟨rfl, fun i j a x y a1 a2 a3 _ a5 _ => ?_, fun m a x a1 a2 => ?_, fun a h => ok.some h.1, fun a ⟨m, x, a1, _⟩ h => ?_⟩
  · cases i with
    | succ i => cases a1
    | zero =>
      cases j with
      | succ j => cases a2
      | zero => rfl
  · cases m with
    | succ m => cases a1
    | zero =>
      cases a1; cases a2
      exact flat_ro hf (ok.obj n p o h1 h2) rfl (innerH_lv lp)
  · cases m with
    | succ m => cases a1
    | zero => cases a1; exact h.2 rfl
theorem outerH_ok {K : PySem.W.Frag} {w w' : Wd} {p : Addr} {n : Nat} {o o' : O} {r : Sto} (ok : Ok K w) (h1 : w.μ[n]? = some p) (h2 : w.S[n]? = some o) (hd : o ≠ O.dead) (e : Ext K (innerH w p o) w') (ok' : Ok K w') (hS : w'.S = o' :: r) (hf : flatO o' = true) :
    Ext K w ⟨w'.H, w.μ, w.S.set n o', w.F⟩ ∧ Ok K ⟨w'.H, w.μ, w.S.set n o', w.F⟩ := by
  have lp : w.Ld p := ⟨n, o, h1, h2, hd⟩
  have hn : n < w.S.length := by rcases List.getElem?_eq_some_iff.mp h2 with ⟨z, _⟩; exact z
  have hd' : o' ≠ O.dead := fun z => by subst z; cases hf
  have all : ∀ a x, w.H a = some x → a ≠ p → w'.H a = some x := fun a x h np => e.keep a x h fun ⟨m, y, a1, _⟩ => by
    cases m with
    | zero => cases a1; exact np rfl
    | succ m => cases a1
  have ld : ∀ a, (⟨w'.H, w.μ, w.S.set n o', w.F⟩ : Wd).Ld a → w.Ld a := fun a ⟨m, z, e1, e2, e3⟩ => by
    by_cases q : n = m
    · subst q
      have e1 : w.μ[n]? = some a := e1
      rw [h1] at e1; cases e1; exact lp
    · have e2 : (w.S.set n o')[m]? = some z := e2
      rw [List.getElem?_set_ne q] at e2
      exact ⟨m, z, e1, e2, e3⟩
  have lv : ∀ a, (⟨w'.H, w.μ, w.S.set n o', w.F⟩ : Wd).Lv a → w.Lv a := fun a h => h.imp (ld a) fun z => z
  have x : Ext K w ⟨w'.H, w.μ, w.S.set n o', w.F⟩ := ⟨fun a y h hl => all a y h fun z => hl (z ▸ lp), fun a h => .inl (ld a h), rfl, fun _ _ h => h⟩
  have wl : ∀ a, w.Lv a → w'.Lv a := fun a h => by
    by_cases q : a = p
    · subst q
      exact .inl ⟨0, o', e.pre 0 a rfl, by rw [hS]; rfl, hd'⟩
    · refine .inr ?_
      rw [e.frm]
      exact ⟨h, q⟩
  have back : ∀ (m : Nat) (z : O), (w.S.set n o')[m]? = some z → z ≠ O.dead → ∃ z', w.S[m]? = some z' ∧ z' ≠ O.dead := fun m z e2 e3 => by
    by_cases q : n = m
    · subst q; exact ⟨o, h2, hd⟩
    · rw [List.getElem?_set_ne q] at e2; exact ⟨z, e2, e3⟩
  refine ⟨x, by simpa using ok.len, fun i j a z z' a1 a2 a3 a4 a5 a6 => ?_, fun m a z a1 a2 => ?_, fun a h => ?_, fun a h => ok.dis a (ld a h)⟩
  · obtain ⟨q1, b1, b2⟩ := back i z a3 a4
    obtain ⟨q2, b3, b4⟩ := back j z' a5 a6
    exact ok.inj i j a q1 q2 a1 a2 b1 b2 b3 b4
  · have a1 : w.μ[m]? = some a := a1
    have a2 : (w.S.set n o')[m]? = some z := a2
    by_cases q : n = m
    · subst q
      rw [h1] at a1; cases a1
      rw [List.getElem?_set_self hn] at a2; cases a2
      have ro := ok'.obj 0 p o' (e.pre 0 p rfl) (by rw [hS]; rfl)
      exact flat_ro (w := w') hf ro rfl fun a h => wl a (lv a h)
    · rw [List.getElem?_set_ne q] at a2
      have q' := ok.obj m a z a1 a2
      cases z with
      | dead => trivial
      | lst ws =>
        have ne : a ≠ p := fun z => q (ok.inj n m p o (.lst ws) h1 (z ▸ a1) h2 hd a2 (by intro z; cases z))
        obtain ⟨vs, e1, r⟩ := q'
        exact ⟨vs, all _ _ e1 ne, Rvs.ext x r⟩
      | dct ws =>
        have ne : a ≠ p := fun z => q (ok.inj n m p o (.dct ws) h1 (z ▸ a1) h2 hd a2 (by intro z; cases z))
        obtain ⟨vs, e1, r⟩ := q'
        exact ⟨vs, all _ _ e1 ne, Paired.imp (fun _ _ z => ⟨z.1, Rv.ext x z.2⟩) r⟩
  · obtain ⟨y, hy⟩ := ok.frm a h
    refine ⟨y, all a y hy fun z => ?_⟩
    subst z
    exact ok.dis a lp h
theorem outerH_rp {K : PySem.W.Frag} {w w' : Wd} {p : Addr} {n : Nat} {o o' : O} {r : Sto} {v : V} {q : P} (h1 : w.μ[n]? = some p) (h2 : w.S[n]? = some o) (hd : o ≠ O.dead) (e : Ext K (innerH w p o) w') (hS : w'.S = o' :: r) (hf : flatO o' = true) (rp : Rp K w'.H w'.Lv v q) :
    Rp K w'.H (⟨w'.H, w.μ, w.S.set n o', w.F⟩ : Wd).Lv v q := by
  have hd' : o' ≠ O.dead := fun z => by subst z; cases hf
  refine rp.keep (fun _ _ h _ => h) fun a _ nl z => nl ?_
  have wl : ∀ a, w.Lv a → w'.Lv a := fun a h => by
    by_cases q : a = p
    · subst q
      exact .inl ⟨0, o', e.pre 0 a rfl, by rw [hS]; rfl, hd'⟩
    · refine .inr ?_
      rw [e.frm]
      exact ⟨h, q⟩
  refine wl a (z.imp (fun ⟨m, z, e1, e2, e3⟩ => ?_) fun z => z)
  by_cases q : n = m
  · subst q
    have e1 : w.μ[n]? = some a := e1
    rw [h1] at e1; cases e1; exact ⟨n, o, h1, h2, hd⟩
  · have e2 : (w.S.set n o')[m]? = some z := e2
    rw [List.getElem?_set_ne q] at e2
    exact ⟨m, z, e1, e2, e3⟩
theorem s_hcall {k n : Nat} {fa : Addr} {fd : FuncData} {ps : List Str} {r : List W → Sto → R W} {x : Str} {p : Pos} {e : Expr} {es : List Expr} {g : L → Sto → R (List W)} (F : FnOk X.prog X.w X.K X.mg X.base (L2.CX X.prog X.w) k fa fd ps (spMi X.K r n)) (hr : Room k X.A) (hg : Gl X x) (hm : X.mg x = some (.ref fa)) (hk : PySem.W.keepIn X.K (.ref fa) = true) (hb : Binds X.K fd ps []) (tk : Takes X E)
    (hlen : ∀ l S xs S', g l S = .ok xs S' → xs.length = n)
    (ha : PA X (e :: es) (tA X.K E g)) (hdb : (x == ("__debug__" : Str)) = false) (he : starEach (e :: es) X.env = (false, eval e X.env) :: starEach es X.env) (hpl : (backTo pos (starEach es X.env)).any (·.1) = false) :
    PE X (.Call (.Name x p) (e :: es) [] pos) (tE X.K E fun l S => (g l S).bind fun ws S => match toRf0 ws with
      | some (m, ws') => match S[m]? with
        | some o => if flatO o then hcallR m (r ws' [o]) S else .stuck
        | none => .stuck
      | none => .stuck) := by
  refine PE.imp' (pe_callS F hr hg hm hk hb (fun σ => passAt tk σ) ha hdb he hpl) fun σ H Q ⟨w, l, eH, ok, lr, h⟩ => ?_
  refine ⟨w, l, eH, ok, lr, (h.bind (Rvs X.K)).imp fun w' v x S hx hS e1 ok1 r1 q => ?_⟩
  obtain ⟨w1, ws, eH1, e1, ok1, r2, h1⟩ := q
  rw [← eH1]
  have hlv : v.length = n := (Rvs.length r1).trans (hlen _ _ _ _ hx)
  cases q0 : toRf0 ws with
  | none => rw [q0] at h1; exact h1.elim
  | some mw =>
    obtain ⟨m, ws'⟩ := mw
    rw [q0] at h1
    dsimp only at h1
    cases q1 : w1.S[m]? with
    | none => rw [q1] at h1; exact h1.elim
    | some o =>
      rw [q1] at h1
      dsimp only at h1
      by_cases hf : flatO o = true
      · rw [if_pos hf] at h1
        have hd : o ≠ O.dead := fun z => by subst z; cases hf
        unfold toRf0 at q0
        split at q0
        · rename_i m' rest
          by_cases hps : (asPs rest).isSome = true
          · rw [if_pos hps] at q0
            cases q0
            cases r2 with
            | cons ra rb =>
              obtain ⟨pa, hμ, rfl⟩ := ra
              obtain ⟨ps', hps'⟩ := pvs_of hps
              have lp : w1.Ld pa := ⟨m, o, hμ, q1, hd⟩
              have rb' := by
                have go : ∀ {vs : List V} {ws : List W} {ps : List P}, Rvs X.K w1 vs ws → asPs ws = some ps → Rvs X.K (innerH w1 pa o) vs ws := by
                  intro vs ws ps rr
                  induction rr generalizing ps with
                  | nil => intro _; exact .nil
                  | @cons v0 w0 vs ws r t ih =>
                    intro e
                    cases w0 with
                    | rf _ => cases e
                    | sc _ => cases e
                    | pv y =>
                      unfold asPs at e
                      cases q : asPs ws with
                      | none => rw [q] at e; cases e
                      | some qs => exact .cons (show Rv X.K (innerH w1 pa o) v0 (.pv y) from Rp.keep (H := w1.H) (fun _ _ h _ => h) (fun a _ nn z => nn (innerH_lv lp a z)) r) (ih q)
                exact go rb hps'
              refine ⟨innerH w1 pa o, .rf 0 :: rest, rfl, innerH_ok ok1 hμ q1 hf hd, .cons ⟨pa, rfl, rfl⟩ rb', hlv, ?_⟩
              show After X.K _ (Rv X.K) (r (.rf 0 :: rest) [o]) (innerH w1 pa o) [] Q
              cases q : r (.rf 0 :: rest) [o] with
              | stuck => rw [q] at h1; exact h1
              | err x S =>
                rw [q] at h1
                cases S with
                | nil => exact h1.elim
                | cons o' S =>
                  intro w' cls d g1 g2 g3 g4
                  have h1 : After X.K E (Rv X.K) (if flatO o' then R.err x (w1.S.set m o') else .stuck) w1 σ Q := h1
                  by_cases hf' : flatO o' = true
                  · rw [if_pos hf'] at h1
                    obtain ⟨x1, o1⟩ := outerH_ok ok1 hμ q1 hd g2 g3 g1 hf'
                    exact h1 ⟨w'.H, w1.μ, w1.S.set m o', w1.F⟩ cls d rfl x1 o1 g4
                  · rw [if_neg hf'] at h1; exact h1.elim
              | ok x S =>
                rw [q] at h1
                cases x with
                | rf m => cases S <;> exact h1.elim
                | sc m => cases S <;> exact h1.elim
                | pv y =>
                  cases S with
                  | nil => exact h1.elim
                  | cons o' S =>
                    intro w' v g1 g2 g3 g4
                    have h1 : After X.K E (Rv X.K) (if flatO o' then R.ok (W.pv y) (w1.S.set m o') else .stuck) w1 σ Q := h1
                    by_cases hf' : flatO o' = true
                    · rw [if_pos hf'] at h1
                      obtain ⟨x1, o1⟩ := outerH_ok ok1 hμ q1 hd g2 g3 g1 hf'
                      exact h1 ⟨w'.H, w1.μ, w1.S.set m o', w1.F⟩ v rfl x1 o1 (outerH_rp (w' := w') hμ q1 hd g2 g1 hf' g4)
                    · rw [if_neg hf'] at h1; exact h1.elim
          · rw [if_neg hps] at q0; cases q0
        · cases q0
      · rw [if_neg hf] at h1; exact h1.elim
end
end Mi
set_option Elab.async false
set_option linter.all false
set_option maxRecDepth 100000
set_option autoImplicit false
/-! Mi: statements without loops. -/
namespace Mi
open PySem PySem.Spec L2
def AfterS (K : PySem.W.Frag) (E : WX) (r : SR) (w : Wd) (D : Ends) : Prop := match r with
  | .nx l S => ∀ (w' : Wd) (σ' : L2.St), w'.S = S → Ext K w w' → Ok K w' → Lr K w' σ' l → D.nx σ' w'.H
  | .rt x S => ∀ (w' : Wd) (v : V), w'.S = S → Ext K w w' → Ok K w' → Rv K w' v x → D.rt v w'.H
  | .bk l S => ∀ (w' : Wd) (σ' : L2.St), w'.S = S → Ext K w w' → Ok K w' → Lr K w' σ' l → D.bk σ' w'.H
  | .ct l S => ∀ (w' : Wd) (σ' : L2.St), w'.S = S → Ext K w w' → Ok K w' → Lr K w' σ' l → D.ct σ' w'.H
  | .err x l S => ∀ (w' : Wd) (σ' : L2.St) (cls : Value) (d : Option Addr), w'.S = S → Ext K w w' → Ok K w' → Lr K w' σ' l → Xr K w' cls d x → E cls d σ' w'.H
  | .stuck => False
/-- a statement's reading by its meaning -/
def tS (K : PySem.W.Frag) (E : WX) (f : L → Sto → SR) : TS := fun D σ H => ∃ (w : Wd) (l : L), w.H = H ∧ Ok K w ∧ Lr K w σ l ∧ AfterS K E (f l w.S) w D
section
variable {K : PySem.W.Frag} {E : WX} {r : SR} {w w1 : Wd} {D D' : Ends}
theorem AfterS.mono (e : Ext K w w1) (h : AfterS K E r w D) : AfterS K E r w1 D := by
  cases r with
  | nx l S => exact fun w' σ' a b c d => h w' σ' a (e.trans b) c d
  | rt x S => exact fun w' σ' a b c d => h w' σ' a (e.trans b) c d
  | bk l S => exact fun w' σ' a b c d => h w' σ' a (e.trans b) c d
  | ct l S => exact fun w' σ' a b c d => h w' σ' a (e.trans b) c d
  | err x l S => exact fun w' σ' cl dd a b c d => h w' σ' cl dd a (e.trans b) c d
  | stuck => exact h
theorem AfterS.ends (h : AfterS K E r w D) (h1 : ∀ σ H, D.nx σ H → D'.nx σ H) (h2 : ∀ v H, D.rt v H → D'.rt v H) (h3 : ∀ σ H, D.bk σ H → D'.bk σ H) (h4 : ∀ σ H, D.ct σ H → D'.ct σ H) : AfterS K E r w D' := by
  cases r with
  | nx l S => exact fun w' σ' a b c d => h1 _ _ (h w' σ' a b c d)
  | rt x S => exact fun w' σ' a b c d => h2 _ _ (h w' σ' a b c d)
  | bk l S => exact fun w' σ' a b c d => h3 _ _ (h w' σ' a b c d)
  | ct l S => exact fun w' σ' a b c d => h4 _ _ (h w' σ' a b c d)
  | err x l S => exact h
  | stuck => exact h
theorem AfterS.thenR {α β : Type} {RV : Wd → β → α → Prop} {q : R α} {l : L} {g : α → Sto → SR} {σ : L2.St} (lr : Lr K w σ l) (h : AfterS K E (SR.thenR q l g) w D) :
    After K E RV q w σ fun v H1 => ∃ (w1 : Wd) (x : α), w1.H = H1 ∧ Ext K w w1 ∧ Ok K w1 ∧ RV w1 v x ∧ AfterS K E (g x w1.S) w1 D := by
  cases q with
  | ok a S =>
    intro w' v h1 h2 h3 h4
    have h' : AfterS K E (g a S) w D := h
    refine ⟨w', a, rfl, h2, h3, h4, ?_⟩
    rw [h1]
    exact h'.mono h2
  | err x S => exact fun w' c d h1 h2 h3 h4 => h w' σ c d h1 h2 h3 (lr.ext h2) h4
  | stuck => exact h
end
/-- an expression, then the rest of a statement -/
theorem tE.thn {K : PySem.W.Frag} {E : WX} {f : L → Sto → R W} {g : W → Sto → SR} {w : Wd} {l : L} {σ : L2.St} {H : Hp} {D : Ends} {Q1 : VK} (eH : w.H = H) (ok : Ok K w) (lr : Lr K w σ l) (h : AfterS K E (SR.thenR (f l w.S) l g) w D)
    (i : ∀ (w1 : Wd) (v : V) (x : W), Ext K w w1 → Ok K w1 → Lr K w1 σ l → Rv K w1 v x → AfterS K E (g x w1.S) w1 D → Q1 v w1.H) : tE K E f σ H Q1 := by
  refine ⟨w, l, eH, ok, lr, (h.thenR (RV := Rv K) lr).imp fun w' v x S _ _ _ _ _ q => ?_⟩
  obtain ⟨w1, y, e1, e, o, r, a⟩ := q
  rw [← e1]
  exact i w1 v y e o (lr.ext e) r a
theorem tT.thn {K : PySem.W.Frag} {E : WX} {f : L → Sto → R Bool} {g : Bool → Sto → SR} {w : Wd} {l : L} {σ : L2.St} {H : Hp} {D : Ends} {Q1 : Bool → Hp → Prop} (eH : w.H = H) (ok : Ok K w) (lr : Lr K w σ l) (h : AfterS K E (SR.thenR (f l w.S) l g) w D)
    (i : ∀ (w1 : Wd) (k : Bool), Ext K w w1 → Ok K w1 → Lr K w1 σ l → AfterS K E (g k w1.S) w1 D → Q1 k w1.H) : tT K E f σ H Q1 := by
  refine ⟨w, l, eH, ok, lr, (h.thenR (RV := RvB) lr).imp fun w' v x S _ _ _ _ _ q => ?_⟩
  obtain ⟨w1, y, e1, e, o, r, a⟩ := q
  rw [← e1]
  cases r
  exact i w1 _ e o (lr.ext e) a
/-! ### targets -/
def AfterG (K : PySem.W.Frag) (r : R L) (w : Wd) (Q : L2.St → Hp → Prop) : Prop := match r with
  | .ok l S => ∀ (w' : Wd) (σ' : L2.St), w'.S = S → Ext K w w' → Ok K w' → Lr K w' σ' l → Q σ' w'.H
  | _ => False
def tG (K : PySem.W.Frag) (f : W → L → Sto → R L) : TG := fun v σ H Q => ∃ (w : Wd) (l : L) (x : W), w.H = H ∧ Ok K w ∧ Lr K w σ l ∧ Rv K w v x ∧ AfterG K (f x l w.S) w Q
def tGs (K : PySem.W.Frag) (f : List W → L → Sto → R L) : TGs := fun vs σ H Q => ∃ (w : Wd) (l : L) (xs : List W), w.H = H ∧ Ok K w ∧ Lr K w σ l ∧ Rvs K w vs xs ∧ AfterG K (f xs l w.S) w Q
theorem AfterG.mono {K : PySem.W.Frag} {r : R L} {w w1 : Wd} {Q : L2.St → Hp → Prop} (e : Ext K w w1) (h : AfterG K r w Q) : AfterG K r w1 Q := by
  cases r with
  | ok l S => exact fun w' σ' a b c d => h w' σ' a (e.trans b) c d
  | err x S => exact h
  | stuck => exact h
/-- no error on the way of a target -/
theorem AfterG.bindE {K : PySem.W.Frag} {E : WX} {α β : Type} (RV : Wd → β → α → Prop) {r : R α} {g : α → Sto → R L} {w : Wd} {σ : L2.St} {Q : L2.St → Hp → Prop} (h : AfterG K (r.bind g) w Q) :
    After K E RV r w σ fun v H1 => ∃ (w1 : Wd) (x : α), w1.H = H1 ∧ Ext K w w1 ∧ Ok K w1 ∧ RV w1 v x ∧ AfterG K (g x w1.S) w1 Q := by
  cases r with
  | ok a S =>
    intro w' v h1 h2 h3 h4
    have h' : AfterG K (g a S) w Q := h
    refine ⟨w', a, rfl, h2, h3, h4, ?_⟩
    rw [h1]; exact h'.mono h2
  | err x S => exact h.elim
  | stuck => exact h
theorem Rvs.uncons {K : PySem.W.Frag} {w : Wd} {vs : List V} {x : W} {xs : List W} (h : Rvs K w vs (x :: xs)) : ∃ v r, vs = v :: r ∧ Rv K w v x ∧ Rvs K w r xs := by
  cases h with
  | cons a b => exact ⟨_, _, rfl, a, b⟩
theorem PG.imp' {X : Cx} {tg : Expr} {t t' : TG} (h : PG X tg t) (i : ∀ v σ H Q, t' v σ H Q → t v σ H Q) : PG X tg t' := ⟨fun pins s σ H v u Q I r q => h.run pins s σ H v u Q I r (i v σ H Q q)⟩
theorem PGs.imp' {X : Cx} {tg : List Expr} {t t' : TGs} (h : PGs X tg t) (i : ∀ v σ H Q, t' v σ H Q → t v σ H Q) : PGs X tg t' := ⟨fun pins s σ H v u Q I r q => h.run pins s σ H v u Q I r (i v σ H Q q)⟩
section
variable {X : Cx} {E : WX} {pos : Pos}
theorem g_name {i : Nat} {x : Str} (hN : X.N.Nodup) (hi : X.N[i]? = some x) (hx : Loc X.env.scope x) (hf : X.fn x = true ∨ X.env.scope.names.lookup x = some .local) : PG X (.Name x pos) (tG X.K fun w l S => .ok (l.set i (some w)) S) := by
  refine PG.imp' (pg_name hN hi hx hf) fun v σ H Q ⟨w, l, x, eH, ok, lr, r, h⟩ => ?_
  have := h w (σ.set i (some v)) rfl Ext.refl ok (lr.set r i)
  rw [eH] at this
  exact this
theorem g_nil : PGs X [] (tGs X.K fun ws l S => match ws with
    | [] => .ok l S
    | _ => .stuck) := by
  refine PGs.imp' pgs_nil fun v σ H Q ⟨w, l, xs, eH, ok, lr, r, h⟩ => ?_
  cases r with
  | nil =>
    have := h w σ rfl Ext.refl ok lr
    rw [eH] at this
    exact ⟨rfl, this⟩
  | cons _ _ => exact h.elim
theorem g_cons {e : Expr} {es : List Expr} {f : W → L → Sto → R L} {g : List W → L → Sto → R L} (h1 : PG X e (tG X.K f)) (h2 : PGs X es (tGs X.K g)) (hs : (assignEach (e :: es) X.env).map (·.2) = assign e X.env :: (assignEach es X.env).map (·.2)) :
    PGs X (e :: es) (tGs X.K fun ws l S => match ws with
      | w :: ws => (f w l S).bind fun l1 S => g ws l1 S
      | [] => .stuck) := by
  refine PGs.imp' (pgs_cons h1 h2 hs) fun v σ H Q ⟨w, l, xs, eH, ok, lr, r, h⟩ => ?_
  cases xs with
  | nil => exact h.elim
  | cons x1 ws =>
    obtain ⟨v1, vs, rfl, r1, r2⟩ := Rvs.uncons r
    refine ⟨v1, vs, rfl, w, l, x1, eH, ok, lr, r1, ?_⟩
    have h : AfterG X.K ((f x1 l w.S).bind fun l1 S => g ws l1 S) w Q := h
    cases q : f x1 l w.S with
    | ok l1 S =>
      rw [q] at h
      intro w' σ' a b c d
      refine ⟨w', l1, ws, rfl, c, d, Rvs.ext b r2, ?_⟩
      rw [a]
      exact AfterG.mono b h
    | err x S => rw [q] at h; exact h.elim
    | stuck => rw [q] at h; exact h.elim
theorem g_tup {es : List Expr} {k n : Nat} {g : List W → L → Sto → R L} (hc : X.calm = true) (h : PGs X es (tGs X.K g)) (hn : (assignEach es X.env).length = n) (hst : (assignEach es X.env).findIdx? (·.1) = none) :
    PG X (.Tuple es k pos) (tG X.K fun w l S => match Mi.unpack n w with
      | some ws => g ws l S
      | none => .stuck) := by
  refine PG.imp' (pg_tup hc h hn hst) fun v σ H Q ⟨w, l, x, eH, ok, lr, r, h⟩ => ?_
  dsimp only at h
  cases q : Mi.unpack n x with
  | none => rw [q] at h; exact h.elim
  | some ws =>
    rw [q] at h
    unfold Mi.unpack at q
    split at q
    · rename_i ps
      split at q
      · rename_i hl
        cases q
        cases r with
        | tup s1 n1 a1 =>
          exact ⟨_, _, rfl, by rw [← eH]; exact s1.sq, a1.length.trans hl, w, l, _, eH, ok, lr, a1.rvs, h⟩
      · cases q
    · cases q
def rSet3 (K : PySem.W.Frag) (k : W → W → W → Sto → R Unit) : TSet := fun o i v H Q => ∃ (w : Wd) (a b c : W), w.H = H ∧ Ok K w ∧ Rv K w o a ∧ Rv K w i b ∧ Rv K w v c ∧ (match k a b c w.S with
  | .ok _ S => ∀ w' : Wd, w'.S = S → Ext K w w' → Ok K w' → Q w'.H
  | _ => False)
theorem put_rel {K : PySem.W.Frag} {w : Wd} {v : V} {c : W} (r : Rv K w v c) (k : Int ⊕ Str) : ∀ {ks : List (Key × V)} {kvs : List ((Int ⊕ Str) × W)}, Paired (fun p q => p.1 = q.1 ∧ Rv K w p.2 q.2) ks kvs → Paired (fun p q => p.1 = q.1 ∧ Rv K w p.2 q.2) (putK ks k v) (putW kvs k c) := by
  intro ks kvs h
  have any : ∀ {ks : List (Key × V)} {kvs : List ((Int ⊕ Str) × W)}, Paired (fun p q => p.1 = q.1 ∧ Rv K w p.2 q.2) ks kvs → (ks.any fun kv => decide (kv.1 = k)) = (kvs.any fun kv => decide (kv.1 = k)) := by
    intro ks kvs h
    induction h with
    | nil => rfl
    | cons a b ih => rw [List.any_cons, List.any_cons, ih, a.1]
  have m1 : ∀ {ks : List (Key × V)} {kvs : List ((Int ⊕ Str) × W)}, Paired (fun p q => p.1 = q.1 ∧ Rv K w p.2 q.2) ks kvs → Paired (fun p q => p.1 = q.1 ∧ Rv K w p.2 q.2) (ks.map fun kv => if kv.1 = k then (kv.1, v) else kv) (kvs.map fun kv => if kv.1 = k then (kv.1, c) else kv) := by
    intro ks kvs h
    induction h with
    | nil => exact .nil
    | cons a b ih =>
      rw [List.map_cons, List.map_cons]
      refine .cons ?_ ih
      rw [a.1]
      split
      · exact ⟨rfl, r⟩
      · exact a
  have m2 : ∀ {ks : List (Key × V)} {kvs : List ((Int ⊕ Str) × W)}, Paired (fun p q => p.1 = q.1 ∧ Rv K w p.2 q.2) ks kvs → Paired (fun p q => p.1 = q.1 ∧ Rv K w p.2 q.2) (ks ++ [(k, v)]) (kvs ++ [(k, c)]) := by
    intro ks kvs h
    induction h with
    | nil => exact .cons ⟨rfl, r⟩ .nil
    | cons a b ih => exact .cons a ih
  unfold putK putW
  rw [any h]
  split
  · exact m1 h
  · exact m2 h
theorem set_mi (hu : X.A.units + 1 < cLine) : PSet X (rSet3 X.K setW) := by
  intro pins s σ H o i v ov iv u Q I ro ri rv h
  obtain ⟨w, a, b, c, rfl, ok, r1, r2, r3, k⟩ := h
  cases a with
  | pv p => exact k.elim
  | sc ns => exact k.elim
  | rf n =>
    have dict : ∀ (kvs : List ((Int ⊕ Str) × W)) (p : P) (kk : Int ⊕ Str), b = .pv p → keyP p = some kk → i = kV kk → w.S[n]? = some (.dct kvs) → (match setD n kvs p c w.S with
        | .ok _ S => ∀ w' : Wd, w'.S = S → Ext X.K w w' → Ok X.K w' → Q w'.H
        | _ => False) → wpAny (model X.prog X.w) X.A (setItem ov iv u) (fun _ s' => ∃ H', Inv X pins σ H' s' ∧ Q H') X.xe s := by
      intro kvs p kk _ hk hi q k
      unfold setD at k
      rw [hk] at k
      dsimp only at k
      split at k
      · rename_i hl
        split at hl
        · rename_i hl2
          cases hl
          obtain ⟨a, h1, rfl⟩ := r1
          obtain ⟨ks, e, r4⟩ := ok.obj n a _ h1 q
          have hlen : ks.length = kvs.length := Paired.length r4
          obtain ⟨e2, ok2⟩ := wrote ok h1 q (by intro z; cases z) (u := .dK (putK ks kk v)) (y := .dct (putW kvs kk c)) fun w2 x2 q2 => ⟨_, q2, put_rel (r3.ext x2) kk (Paired.imp (fun _ _ z => ⟨z.1, Rv.ext x2 z.2⟩) r4)⟩
          refine set_dict hu pins s σ w.H _ _ v ov iv u Q I ro ri rv ⟨a, _, rfl, ?_, k ⟨_, w.μ, w.S.set n (.dct (putW kvs kk c)), w.F⟩ rfl e2 ok2⟩
          rw [hi]
          exact DPut.k e (by rw [hlen, sizeLine_eq]; exact hl2)
        · cases hl
      · exact k.elim
    cases b with
    | rf _ => exact k.elim
    | sc _ => exact k.elim
    | pv p =>
      cases p with
      | int j =>
        cases r2
        have es : setW (.rf n) (.pv (.int j)) c w.S = (match w.S[n]? with
          | some (.lst xs) => match idxN xs.length j with
            | some j => .ok () (w.S.set n (.lst (xs.set j c)))
            | none => .stuck
          | some (.dct kvs) => setD n kvs (.int j) c w.S
          | _ => .stuck) := rfl
        rw [es] at k
        cases q : w.S[n]? with
        | none => rw [q] at k; exact k.elim
        | some ob =>
          rw [q] at k
          cases ob with
          | dead => exact k.elim
          | dct kvs => exact dict kvs (.int j) (.inl j) rfl rfl rfl q k
          | lst ws =>
            dsimp only at k
            cases q2 : idxN ws.length j with
            | none => rw [q2] at k; exact k.elim
            | some m =>
              rw [q2] at k
              obtain ⟨p, vs, rfl, h1, e, r4⟩ := rf_lst ok r1 q
              refine set_list pins s σ w.H _ _ v ov iv u Q I ro ri rv ⟨p, vs, j, m, rfl, rfl, e, (by rw [Rvs.length r4]; exact q2), ?_⟩
              obtain ⟨e2, ok2⟩ := wrote ok h1 q (by intro z; cases z) (u := .lst (vs.set m v)) (y := .lst (ws.set m c)) fun w2 x2 q2 => ⟨_, q2, Rvs.setAt (Rvs.ext x2 r4) (r3.ext x2) m⟩
              exact k ⟨upd w.H p (.lst (vs.set m v)), w.μ, w.S.set n (.lst (ws.set m c)), w.F⟩ rfl e2 ok2
      | str x =>
        cases r2
        have es : setW (.rf n) (.pv (.str x)) c w.S = (match w.S[n]? with
          | some (.dct kvs) => setD n kvs (.str x) c w.S
          | _ => .stuck) := rfl
        rw [es] at k
        cases q : w.S[n]? with
        | none => rw [q] at k; exact k.elim
        | some ob =>
          rw [q] at k
          cases ob with
          | dead => exact k.elim
          | lst _ => exact k.elim
          | dct kvs => exact dict kvs (.str x) (.inr x) rfl rfl rfl q k
      | none => exact k.elim
      | bool _ => exact k.elim
      | list _ => exact k.elim
      | tuple _ => exact k.elim
      | dict _ => exact k.elim
theorem g_sub {o i : Expr} {f g : L → Sto → R W} (hu : X.A.units + 1 < cLine) (ho : PE X o (tE X.K E f)) (hi : PE X i (tE X.K E g))
    (ha : ∀ v, assign (.Subscript o i pos) X.env v = (do
      let ov ← holding [v] (eval o X.env)
      let iv ← holding [v, ov] (eval i X.env)
      standAt pos
      holding [v, ov, iv] (setItem ov iv v)
      release [v, ov, iv] [])) : PG X (.Subscript o i pos) (tG X.K fun w l S => (f l S).bind fun x S => (g l S).bind fun y S => (setW x y w S).bind fun _ S => .ok l S) := by
  refine PG.imp' (pg_sub ho hi (set_mi hu) ha) fun v σ H Q ⟨w, l, z, eH, ok, lr, r, h⟩ => ?_
  refine ⟨w, l, eH, ok, lr, (h.bindE (E := E) (σ := σ) (Rv X.K)).imp fun w' u x S _ _ _ _ _ q => ?_⟩
  obtain ⟨w1, x1, eH1, e1, ok1, r1, h1⟩ := q
  rw [← eH1]
  refine ⟨w1, l, rfl, ok1, lr.ext e1, (h1.bindE (E := E) (σ := σ) (Rv X.K)).imp fun w' u2 x S _ _ _ _ _ q => ?_⟩
  obtain ⟨w2, x2, eH2, e2, ok2, r2, h2⟩ := q
  rw [← eH2]
  refine ⟨w2, x1, x2, z, rfl, ok2, r1.ext e2, r2, (r.ext e1).ext e2, ?_⟩
  cases q : setW x1 x2 z w2.S with
  | err x S => rw [q] at h2; exact h2.elim
  | stuck => rw [q] at h2; exact h2.elim
  | ok x S =>
    rw [q] at h2
    intro w' a b c
    exact h2 w' σ a b c (((lr.ext e1).ext e2).ext b)

/-! ### statements -/
theorem s_pass : PS X (.Pass pos) (tS X.K E fun l S => .nx l S) := by
  refine PS.imp' ps_pass fun D σ H ⟨w, l, eH, ok, lr, h⟩ => ?_
  have := h w σ rfl Ext.refl ok lr
  rw [eH] at this; exact this
theorem s_brk : PS X (.Break pos) (tS X.K E fun l S => .bk l S) := by
  refine PS.imp' ps_break fun D σ H ⟨w, l, eH, ok, lr, h⟩ => ?_
  have := h w σ rfl Ext.refl ok lr
  rw [eH] at this; exact this
theorem s_cont : PS X (.Continue pos) (tS X.K E fun l S => .ct l S) := by
  refine PS.imp' ps_continue fun D σ H ⟨w, l, eH, ok, lr, h⟩ => ?_
  have := h w σ rfl Ext.refl ok lr
  rw [eH] at this; exact this
theorem s_retn : PS X (.Return none pos) (tS X.K E fun _ S => .rt (.pv .none) S) := by
  refine PS.imp' ps_retN fun D σ H ⟨w, l, eH, ok, lr, h⟩ => ?_
  have := h w .non rfl Ext.refl ok Rp.non
  rw [eH] at this; exact this
theorem s_ret {e : Expr} {f : L → Sto → R W} (he : PE X e (tE X.K E f)) : PS X (.Return (some e) pos) (tS X.K E fun l S => SR.thenR (f l S) l fun w S => .rt w S) := by
  refine PS.imp' (ps_ret he) fun D σ H ⟨w, l, eH, ok, lr, h⟩ => ?_
  exact tE.thn (g := fun w S => .rt w S) eH ok lr h fun w1 v x e1 ok1 lr1 r1 h1 => h1 w1 v rfl Ext.refl ok1 r1
theorem s_if {c : Expr} {a b : List Stmt} {f : L → Sto → R Bool} {g h : L → Sto → SR} (hc : PT X c (tT X.K E f)) (ha : PSs X a (tS X.K E g)) (hb : PSs X b (tS X.K E h)) :
    PS X (.If c a b pos) (tS X.K E fun l S => SR.thenR (f l S) l fun k S => if k then g l S else h l S) := by
  refine PS.imp' (ps_if hc ha hb) fun D σ H ⟨w, l, eH, ok, lr, h0⟩ => ?_
  refine tT.thn (g := fun k S => if k then g l S else h l S) eH ok lr h0 fun w1 k e1 ok1 lr1 h1 => ?_
  cases k with
  | true => exact ⟨w1, l, rfl, ok1, lr1, h1⟩
  | false => exact ⟨w1, l, rfl, ok1, lr1, h1⟩
theorem s_asg {tg e : Expr} {f : L → Sto → R W} {g : W → L → Sto → R L} (he : PE X e (tE X.K E f)) (hg : PG X tg (tG X.K g)) (hs : swapsWithSole [tg] e pos.line X.env = pure false) (hw : swappedStores [tg] e X.env = pure none) (h1 : (assignEach [tg] X.env).map (·.2) = [assign tg X.env]) :
    PS X (.Assign [tg] e pos) (tS X.K E fun l S => SR.thenR (f l S) l fun w S => SR.thenR (g w l S).calm l fun l1 S => .nx l1 S) := by
  refine PS.imp' (ps_asg he hg hs hw h1) fun D σ H ⟨w, l, eH, ok, lr, h⟩ => ?_
  refine tE.thn (g := fun w S => SR.thenR (g w l S).calm l fun l1 S => .nx l1 S) eH ok lr h fun w1 v x e1 ok1 lr1 r1 h2 => ?_
  refine ⟨w1, l, x, rfl, ok1, lr1, r1, ?_⟩
  cases q : g x l w1.S with
  | ok l1 S => rw [q] at h2; exact h2
  | err x S => rw [q] at h2; exact h2.elim
  | stuck => rw [q] at h2; exact h2.elim
theorem s_setT {e : Expr} {py : Pos} {i : Nat} {te : TE} {f : L → Sto → R W} {x : Str} (h : PS X (.Assign [.Name x py] e pos) (tAsg te (gName i))) (hi : ∀ σ H Q, tE X.K E f σ H Q → te σ H Q) :
    PS X (.Assign [.Name x py] e pos) (tS X.K E fun l S => SR.thenR (f l S) l fun w S => SR.thenR (R.calm (.ok (l.set i (some w)) S)) l fun l1 S => .nx l1 S) := by
  refine PS.imp' h fun D σ H ⟨w, l, eH, ok, lr, h⟩ => ?_
  refine hi _ _ _ (tE.thn (g := fun w S => SR.thenR (R.calm (.ok (l.set i (some w)) S)) l fun l1 S => .nx l1 S) eH ok lr h fun w1 v x e1 ok1 lr1 r1 h2 => ?_)
  exact h2 w1 (σ.set i (some v)) rfl Ext.refl ok1 (lr1.set r1 i)
theorem s_expr {e : Expr} {f : L → Sto → R W} {te : TE} (h : PS X (.Expr e pos) (tDrop te)) (hi : ∀ σ H Q, tE X.K E f σ H Q → te σ H Q) : PS X (.Expr e pos) (tS X.K E fun l S => SR.thenR (f l S) l fun _ S => .nx l S) := by
  refine PS.imp' h fun D σ H ⟨w, l, eH, ok, lr, h⟩ => ?_
  refine hi _ _ _ (tE.thn (g := fun _ S => .nx l S) eH ok lr h fun w1 v x e1 ok1 lr1 r1 h2 => ?_)
  exact h2 w1 σ rfl Ext.refl ok1 lr1
theorem s_par2 {i j : Nat} {x y : Str} {a b : Expr} {f g : L → Sto → R W} {px py pt : Pos} {kt k2 : Nat} {pt2 : Pos} (hc : X.calm = true) (hN : X.N.Nodup) (hi : X.N[i]? = some x) (hj : X.N[j]? = some y) (hij : i ≠ j)
    (hx : X.env.scope.names.lookup x = some .local) (hy : X.env.scope.names.lookup y = some .local) (ha : PE X a (tE X.K E f)) (hb : PE X b (tE X.K E g))
    (hs1 : starEach [a, b] X.env = (false, eval a X.env) :: starEach [b] X.env) (hs2 : starEach [b] X.env = (false, eval b X.env) :: starEach [] X.env)
    (hw : swappedStores [.Tuple [.Name x px, .Name y py] kt pt] (.Tuple [a, b] k2 pt2) X.env = pure (some [x, y]))
    (hs : swapsWithSole [.Tuple [.Name x px, .Name y py] kt pt] (.Tuple [a, b] k2 pt2) pos.line X.env = pure false) :
    PS X (.Assign [.Tuple [.Name x px, .Name y py] kt pt] (.Tuple [a, b] k2 pt2) pos) (tS X.K E fun l S => SR.thenR (f l S) l fun x S => SR.thenR (g l S) l fun y S => .nx ((l.set i (some x)).set j (some y)) S) := by
  refine PS.imp' (ps_par hc hN hi hj hij hx hy (pa_cons ha (pa_cons hb pa_nil hs2) hs1) hw hs) fun D σ H ⟨w, l, eH, ok, lr, h⟩ => ?_
  refine tE.thn (g := fun x S => SR.thenR (g l S) l fun y S => .nx ((l.set i (some x)).set j (some y)) S) eH ok lr h fun w1 v x1 e1 ok1 lr1 r1 h1 => ?_
  refine tE.thn (g := fun y S => .nx ((l.set i (some x1)).set j (some y)) S) rfl ok1 lr1 h1 fun w2 u y1 e2 ok2 lr2 r2 h2 => ?_
  exact ⟨v, u, rfl, h2 w2 _ rfl Ext.refl ok2 ((lr2.set (r1.ext e2) i).set r2 j)⟩
/-- a, b = x, y where not both are kept as locals alone: through a tuple -/
theorem s_par2c {i j : Nat} {x y : Str} {a b : Expr} {f g : L → Sto → R W} {px py pt : Pos} {kt k2 : Nat} {pt2 : Pos} (hc : X.calm = true) (hN : X.N.Nodup) (hi : X.N[i]? = some x) (hj : X.N[j]? = some y)
    (hx : Loc X.env.scope x) (hy : Loc X.env.scope y) (fx : X.fn x = true ∨ X.env.scope.names.lookup x = some .local) (fy : X.fn y = true ∨ X.env.scope.names.lookup y = some .local) (ha : PE X a (tE X.K E f)) (hb : PE X b (tE X.K E g))
    (hs1 : starEach [a, b] X.env = (false, eval a X.env) :: starEach [b] X.env) (hs2 : starEach [b] X.env = (false, eval b X.env) :: starEach [] X.env)
    (hw : swappedStores [.Tuple [.Name x px, .Name y py] kt pt] (.Tuple [a, b] k2 pt2) X.env = pure none)
    (hs : swapsWithSole [.Tuple [.Name x px, .Name y py] kt pt] (.Tuple [a, b] k2 pt2) pos.line X.env = pure false) :
    PS X (.Assign [.Tuple [.Name x px, .Name y py] kt pt] (.Tuple [a, b] k2 pt2) pos) (tS X.K E fun l S => SR.thenR (f l S) l fun x S => SR.thenR (g l S) l fun y S => .nx ((l.set i (some x)).set j (some y)) S) := by
  refine PS.imp' (ps_asg (pe_tup (pa_cons ha (pa_cons hb pa_nil hs2) hs1)) (pg_tup (n := 2) hc (pgs_cons (pg_name hN hi hx fx) (pgs_cons (pg_name hN hj hy fy) pgs_nil))) hs hw) fun D σ H ⟨w, l, eH, ok, lr, h⟩ => ?_
  refine tE.thn (g := fun x S => SR.thenR (g l S) l fun y S => .nx ((l.set i (some x)).set j (some y)) S) eH ok lr h fun w1 v x1 e1 ok1 lr1 r1 h1 => ?_
  refine tE.thn (g := fun y S => .nx ((l.set i (some x1)).set j (some y)) S) rfl ok1 lr1 h1 fun w2 u y1 e2 ok2 lr2 r2 h2 => ?_
  refine ⟨by rw [sizeLine_eq]; show 2 ≤ _; decide, fun p hp => ?_⟩
  obtain ⟨e3, ok3⟩ := laid ok2 hp (.tup [v, u])
  refine ⟨p, [v, u], rfl, SqT.of upd_same, rfl, v, [u], rfl, u, [], rfl, rfl, ?_⟩
  exact h2 ⟨upd w2.H p (.tup [v, u]), w2.μ, w2.S, w2.F⟩ _ rfl e3 ok3 (((lr2.set (r1.ext e2) i).set r2 j).ext e3)
/-- an augmented operator by values -/
def rAug (K : PySem.W.Frag) (h : W → W → Sto → R W) : TIp := rB K h
theorem s_aug {i : Nat} {x : Str} {e : Expr} {op : Operator} {py : Pos} {f : L → Sto → R W} (hN : X.N.Nodup) (hi : X.N[i]? = some x) (hx : Loc X.env.scope x) (he : PE X e (tE X.K E f)) (ho : PIp X op (rB X.K (pure2 (augop op)))) (hf : X.fn x = true ∨ X.env.scope.names.lookup x = some .local) :
    PS X (.AugAssign (.Name x py) op e pos) (tS X.K E fun l S => match l[i]? with
      | some (some x) => SR.thenR (f l S) l fun y S => SR.thenR (pure2 (augop op) x y S) l fun z S => .nx (l.set i (some z)) S
      | _ => .stuck) := by
  refine PS.imp' (ps_aug hN hi hx he ho hf) fun D σ H ⟨w, l, eH, ok, lr, h⟩ => ?_
  dsimp only at h
  cases q : l[i]? with
  | none => rw [q] at h; exact h.elim
  | some o =>
    cases o with
    | none => rw [q] at h; exact h.elim
    | some x0 =>
      rw [q] at h
      obtain ⟨v0, g1, g2⟩ := lr.get i x0 q
      refine ⟨v0, g1, ?_⟩
      refine tE.thn (g := fun y S => SR.thenR (pure2 (augop op) x0 y S) l fun z S => .nx (l.set i (some z)) S) eH ok lr h fun w1 v x1 e1 ok1 lr1 r1 h1 => ?_
      refine ⟨w1, x0, x1, rfl, ok1, g2.ext e1, r1, AfterV.of (σ := σ) (E := E) (noerr2 _ _ _) ((h1.thenR (RV := Rv X.K) lr1).imp fun w' v x S _ _ _ _ _ q => ?_)⟩
      obtain ⟨w2, z, eH2, e2, ok2, r2, h2⟩ := q
      rw [← eH2]
      exact h2 w2 _ rfl Ext.refl ok2 ((lr1.ext e2).set r2 i)
theorem ss_nil : PSs X [] (tS X.K E fun l S => .nx l S) := by
  refine PSs.imp' pss_nil fun D σ H ⟨w, l, eH, ok, lr, h⟩ => ?_
  have := h w σ rfl Ext.refl ok lr
  rw [eH] at this; exact this
theorem ss_cons {st : Stmt} {sts : List Stmt} {f g : L → Sto → SR} (h1 : PS X st (tS X.K E f)) (h2 : PSs X sts (tS X.K E g)) : PSs X (st :: sts) (tS X.K E fun l S => (f l S).seq fun l1 S1 => g l1 S1) := by
  refine PSs.imp' (pss_cons h1 h2) fun D σ H ⟨w, l, eH, ok, lr, h⟩ => ?_
  refine ⟨w, l, eH, ok, lr, ?_⟩
  have h : AfterS X.K E ((f l w.S).seq fun l1 S1 => g l1 S1) w D := h
  cases q : f l w.S with
  | nx l1 S =>
    rw [q] at h
    intro w' σ' a b c d
    refine ⟨w', l1, rfl, c, d, ?_⟩
    rw [a]
    exact AfterS.mono b h
  | rt x S => rw [q] at h; exact h
  | bk x S => rw [q] at h; exact h
  | ct x S => rw [q] at h; exact h
  | err x y S => rw [q] at h; exact h
  | stuck => rw [q] at h; exact h
end
end Mi
set_option Elab.async false
set_option linter.all false
set_option maxRecDepth 100000
set_option autoImplicit false
/-! Mi: what a for walks. -/
namespace Mi
open PySem PySem.Spec L2
/-! ### enumerate of a tuple -/
set_option maxHeartbeats 1000000 in
theorem meets_enumerate_newB1 {v : Value} {o : Obj} {H : Heap → Prop} (B : Begins v o H) :
    Meets (Builtin.«enumerate.__new__» ⟨[.type "enumerate", v], []⟩) (fun _ R s => H s.heap ∧
      R (.ok (.ret (.ref (s.heap.push o).objs.size))) { s with heap := (s.heap.push o).push { cls := .type "enumerate", data := .fields #[.none, .bool false, .ref s.heap.objs.size, rawInt 0, .none, .none] } }) :=
  .of_wp fun prog w A R s h => by
    obtain ⟨hp, g, d, tk, os⟩ := s; obtain ⟨h1, h⟩ := h
    have hsub := sub_enumerate
    have q1 : ∀ {A' : Around} {E : Value → Shared → Prop} {Q : Value → Shared → Prop}, Q (.ref hp.objs.size) ⟨hp.push o, g, d, tk, os⟩ → wpAny (model prog w) A' (pyIter v) Q E ⟨hp, g, d, tk, os⟩ :=
      fun q => B.iter prog w _ _ ⟨hp, g, d, tk, os⟩ _ h1 q
    wp_walk using q1
    refine wpAny_stack_any fun st => wpAny_pure ?_
    split
    · rename_i c _ _ _ _ _
      cases (c == Value.type "enumerate")
      · wp_walk using q1
        exact ⟨_, rfl, h⟩
      · wp_walk using q1
        exact ⟨_, rfl, h⟩
    · wp_walk using q1
      exact ⟨_, rfl, h⟩
theorem enum_begins1 {prog : Program} {w : World} {A : Around} {E : Value → Shared → Prop} {s : Shared} {v : Value} {o : Obj} {H : Heap → Prop} {Q : Value → Shared → Prop} (B : Begins v o H) (h1 : H s.heap)
    (h : ∀ h', IsEnum h' (s.heap.objs.size + 1) s.heap.objs.size 0 .none → h'.get? s.heap.objs.size = some o → h'.objs.size = s.heap.objs.size + 2 →
      (∀ b o, s.heap.get? b = some o → h'.get? b = some o) → Q (.ref (s.heap.objs.size + 1)) { s with heap := h' }) :
    wpAny (model prog w) A (call (.type "enumerate") [v]) Q E s := by
  refine callType_new F.called_enumerate (by decide) (F.typeCall_enumerate_1 _) (F.newCall_enumerate_1 _) (fun obj => F.args_object_init_2 obj _) F.entry_enumerate_new
    (meets_enumerate_newB1 B) ⟨h1, ?_⟩
  have hz : (s.heap.push o).objs.size = s.heap.objs.size + 1 := Heap.size_push ..
  show _ ∧ _
  rw [hz]
  have he : IsEnum ((s.heap.push o).push { cls := .type "enumerate", data := .fields #[.none, .bool false, .ref s.heap.objs.size, rawInt 0, .none, .none] }) (s.heap.objs.size + 1) s.heap.objs.size 0 .none := by
    have := Heap.get?_push_size (s.heap.push o) (o := { cls := .type "enumerate", data := .fields #[.none, .bool false, .ref s.heap.objs.size, rawInt 0, .none, .none] }) rfl
    rw [hz] at this; exact this
  refine ⟨⟨_, he, rfl⟩, h _ he (Heap.get?_push_of_some _ (Heap.get?_push_size _ B.free)) (by rw [Heap.size_push, hz]) fun b o x => Heap.get?_push_of_some _ (Heap.get?_push_of_some _ x)⟩
def IteT (K : PySem.W.Frag) (a : Addr) : It :=
  ⟨fun i H => ∃ (xs : List V) (x : V), SqT K H a xs ∧ xs[i]? = some x, fun i H v H' => ∃ T x, v = .ref T ∧ H T = none ∧ H' = upd H T (.tup [.int (i : Nat), x]) ∧ ∀ xs, SqT K H a xs → xs[i]? = some x, fun i H => ∃ xs : List V, SqT K H a xs ∧ xs.length ≤ i⟩
theorem turn_enumT {P : Program} {w : World} {K : PySem.W.Frag} {elts : List Expr} {kk : Nat} {tpos : Pos} (a e it : Addr) (items : Array Value) :
    Turn P w K (.Tuple elts kk tpos) (IteT K a) [e, it] e (fun i h => (∃ old, IsEnum h e it ((i : Nat) : Int) old) ∧ h.IsTupleIter it a i ∧ e ≠ it) where
  mem := by simp
  obj := fun i h st b hb => by
    obtain ⟨⟨old, he⟩, ⟨o1, e1, _, d1⟩, _⟩ := st
    have e' : b = e ∨ b = it := by simpa using hb
    rcases e' with z | z
    · rw [z]; exact ⟨_, he, fun v q => nomatch q⟩
    · rw [z]; exact ⟨o1, e1, fun v q => by rw [d1] at q; cases q⟩
  keep := fun i h h' st k => by
    obtain ⟨⟨old, he⟩, hit, hne⟩ := st
    exact ⟨⟨old, k e (by simp) _ he⟩, hit.at fun o q => k it (by simp) o q, hne⟩
  item := by
    intro X hP hw hK hc i pins s σ H E I hf st hg
    subst hP hw hK
    obtain ⟨⟨old, he⟩, hit, hne⟩ := st
    obtain ⟨xs, x, hq, hx⟩ := hg
    obtain ⟨its, rv, p, hz⟩ := I.tuple hq
    obtain ⟨u, hu, ru⟩ := rv.get hx
    have hel : e < s.heap.objs.size := Heap.lt_size he
    have hil : it < s.heap.objs.size := by obtain ⟨_, q, _⟩ := hit; exact Heap.lt_size q
    have hil2 : i < its.length := by rcases List.getElem?_eq_some_iff.mp hu with ⟨z, _⟩; exact z
    have hai : a ≠ it := fun z => by
      subst z
      obtain ⟨o1, e1, c1, _⟩ := hit
      obtain ⟨o2, e2, c2, _⟩ := p
      rw [e1] at e2; cases e2
      rw [c1] at c2; exact absurd (Value.type.inj c2) (by decide)
    have hea : e ≠ a := fun z => by
      subst z
      obtain ⟨o2, e2, c2, _⟩ := p
      rw [he] at e2; cases e2
      exact absurd (Value.type.inj c2) (by decide)
    refine wpAny_pyNext_enum_itemD (Draws.tuple (A := X.A.in1) (I.ok.hd hc) it a hai its.toArray) he ⟨hit, p⟩ (by simpa using hil2) hne (by simp; exact ⟨hne, hea⟩) fun y h' tk hy ho st' hT hsz hk => ?_
    have ey : y = u := by
      have h1 : its[i]? = some y := by simpa using hy
      rw [hu] at h1; exact (Option.some.inj h1).symm
    subst ey
    refine ⟨_, rfl, wpAny_letOwnedTupleGo_enum (s := { s with heap := h', toks := tk + 1 }) ho fun h'' he' sb => ?_⟩
    have hT2 : h''.get? s.heap.objs.size = some { cls := .type "tuple", data := .seq #[.int i tk, y] } := (sb.2 _ (Nat.ne_of_gt hel)).trans hT
    have new : ObjOk X.prog X.w (upd H s.heap.objs.size (.tup [.int (i : Nat), x])) h'' s.heap.objs.size (.tup [.int (i : Nat), x]) :=
      ⟨by show 2 ≤ sizeLine; decide, [.int i tk, y], .cons ⟨_, rfl⟩ (.cons ru .nil), ⟨_, hT2, rfl, _, rfl⟩⟩
    have I1 : Inv X pins σ (upd H s.heap.objs.size (.tup [.int (i : Nat), x])) { s with heap := h'', toks := tk + 1 } :=
      I.turnedNew (ch := [e, it]) (fun b ob hb q => (sb.2 b (fun z => hb (by simp [z]))).trans (hk b ob (fun z => hb (by simp [z])) (fun z => hb (by simp [z])) q)) hf (Nat.le_refl _) new
    refine ⟨.ref s.heap.objs.size, _, I1, rfl, ⟨_, x, rfl, I.hok.fresh (Nat.le_refl _), rfl, fun ys hy => by rw [I.tuple_inj hy hq]; exact hx⟩, ⟨⟨y, ?_⟩, st'.1.at fun o q => (sb.2 it (Ne.symm hne)).trans q, hne⟩, fun b hb => ?_⟩
    · have e1 : ((i + 1 : Nat) : Int) = (i : Int) + 1 := by omega
      rw [e1]; exact he'
    · have hb' : b < s.heap.objs.size := by
        have e' : b = e ∨ b = it := by simpa using hb
        rcases e' with z | z
        · rw [z]; exact hel
        · rw [z]; exact hil
      rw [upd_ne (Nat.ne_of_lt hb')]
      exact (hf b hb).1
  done := by
    intro X hP hw hK hc i pins s σ H E I hf st hg
    subst hP hw hK
    obtain ⟨⟨old, he⟩, hit, hne⟩ := st
    obtain ⟨xs, hq, hx⟩ := hg
    obtain ⟨its, rv, p, hz⟩ := I.tuple hq
    obtain ⟨f0, f1, f2, f3, f4, f5⟩ := hf it (by simp)
    have hl := rv.length
    have hai : a ≠ it := fun z => by
      subst z
      obtain ⟨o1, e1, c1, _⟩ := hit
      obtain ⟨o2, e2, c2, _⟩ := p
      rw [e1] at e2; cases e2
      rw [c1] at c2; exact absurd (Value.type.inj c2) (by decide)
    -- behind the last one: the iterator stays at its end
    have D := Draws.tuple (prog := X.prog) (w := X.w) (A := X.A.in1) (I.ok.hd hc) it a hai its.toArray
    have hT : s.TypeIs (.ref e) "enumerate" := ⟨_, he, rfl⟩
    unfold pyNext
    refine wpAny_bind (wpAny_attempt (wpAny_callSpecial?_slot (name := Str.ofString "__next__") hT PySem.F.slot_enumerate_next
      (wpAny_call_entry PySem.F.slot_enumerate_next hT PySem.F.entry_enumerate_next ?_ (PySem.F.args_enumerate_next_1 _))))
    show wpAny _ _ (field (.ref e) 2 >>= _) _ _ _
    refine wpAny_bind (wpAny_field he rfl (x := .ref it) rfl ?_)
    refine wpAny_bind (wpAny_nextOf_tuple_end (A := X.A.in1) (I.ok.hd hc) hit p (by simp; omega) fun h' x he' hx' => ?_)
    obtain ⟨o, ho, hc'⟩ := hx'
    refine wpAny_bind (wpAny_isInstance (T := "StopIteration") (b := true) ⟨o, ho, hc'⟩ isSubtype_stop ?_)
    exact wpAny_pure ⟨rfl, I.turned (t' := s.toks) (fun b o hb q => he' b o hb q) f0 f1 f3 f4 f5⟩
  self := fun A i s Q E st h => let ⟨⟨_, he⟩, _⟩ := st; wpAny_pyIter_enum he h
def iEnumT (K : PySem.W.Frag) (ta : TA) : TI := fun σ H R => ta σ H fun vs H1 => ∃ a xs, vs = [.ref a] ∧ SqT K H1 a xs ∧ R (IteT K a) H1
theorem pi_enumT {X : Cx} {e : Expr} {ta : TA} {p pos tpos : Pos} {elts : List Expr} {kk : Nat} (hg : Gl X "enumerate") (hm : X.mg "enumerate" = none) (ha : PA X [e] ta) (hs : starEach [e] X.env = [(false, eval e X.env)]) :
    PI X (.Tuple elts kk tpos) (.Call (.Name "enumerate" p) [e] [] pos) (iEnumT X.K ta) := by
  refine ⟨fun pins s σ H R I h => ?_⟩
  refine PyProof.Rows.Call_ (ld_blt I hg hm PyProof.Rows.boot_enumerate (PyProof.Rows.callWith_type1 (thn (ha.run pos pins s σ H _ I h) fun us s1 ⟨vs, H1, I1, r1, q1⟩ => ?_) hs rfl))
  obtain ⟨a, xs, ex, hq, q⟩ := q1
  subst ex
  cases r1 with
  | cons r rr =>
    cases rr
    cases r
    obtain ⟨its, rv, p', hz⟩ := I1.tuple hq
    refine enum_begins1 (begins_tuple a its.toArray) p' fun h' he hit hsz hk => wpAny_pyIter_enum he ?_
    have I2 : Inv X pins σ H1 { s1 with heap := h' } := I1.kept (t' := s1.toks) hk
    refine ⟨s1.heap.objs.size + 1, [s1.heap.objs.size + 1, s1.heap.objs.size], _, _, H1, rfl, I2, turn_enumT a (s1.heap.objs.size + 1) s1.heap.objs.size its.toArray, ⟨⟨.none, he⟩, ⟨_, hit, rfl, rfl⟩, Nat.succ_ne_self _⟩, fun b hb => ?_, q⟩
    have e' : b = s1.heap.objs.size + 1 ∨ b = s1.heap.objs.size := by simpa using hb
    have hle : s1.heap.objs.size ≤ b := by
      rcases e' with z | z
      · rw [z]; exact Nat.le_add_right _ _
      · rw [z]; exact Nat.le_refl _
    exact I1.fpOk hle (I1.hok.fresh hle)
end Mi
set_option Elab.async false
set_option linter.all false
set_option maxRecDepth 100000
set_option maxHeartbeats 1000000
/-! zip of a list and a tuple: the steps of the library's lemmas for two tuples (HandS.Zip0), turned to this case -/
namespace Mz
open PySem RZ
open PySem.Sem (wp)
section
variable {prog : Program} {w : World} {A : Around} {E : Value → Shared → Prop} {s : Shared}
theorem zipM_next_item {z TI TO i1 i2 l1 l2 : Addr} {k1 k2 : Nat} {xs ys : Array Value} {x y a b : Value} {Q : Value → Shared → Prop} (D : ZipApart z TI TO i1 i2 l1 l2)
    (hz : IsZip s.heap z TI TO .none) (hTI : IsPair s.heap TI (.ref i1) (.ref i2)) (hTO : IsPair s.heap TO a b)
    (h1 : s.heap.IsListIter i1 l1 k1) (h2 : s.heap.IsTupleIter i2 l2 k2) (hl1 : s.heap.IsList l1 xs) (hl2 : s.heap.IsTuple l2 ys) (hx : xs[k1]? = some x) (hy : ys[k2]? = some y)
    (hQ : ∀ h', IsZip h' z TI TO (rawInt s.heap.objs.size) → IsPair h' TO x y → h'.IsListIter i1 l1 (k1 + 1) → h'.IsTupleIter i2 l2 (k2 + 1) → IsPair h' s.heap.objs.size x y → h'.objs.size = s.heap.objs.size + 1 →
      (∀ c o, c ≠ z → c ≠ TO → c ≠ i1 → c ≠ i2 → s.heap.get? c = some o → h'.get? c = some o) → Q (.ref s.heap.objs.size) { s with heap := h' }) :
    wpAny (model prog w) A (Builtin.«zip.__next__» ⟨[.ref z], []⟩) (fun fin s' => ∃ v, fin = .done (.ret v) ∧ Q v s') E s := by
  show wpAny _ _ (field (.ref z) 2 >>= _) _ _ _
  refine wpAny_bind (wpAny_field hz rfl (x := .bool false) rfl ?_)
  show wpAny _ _ (field (.ref z) 3 >>= _) _ _ _
  refine wpAny_bind (wpAny_field hz rfl (x := .ref TI) rfl ?_)
  refine wpAny_bind (wpAny_seqItems hTI rfl ?_)
  show wpAny _ _ (Builtin.SmallTypes.ownedTupleIsFree (.ref z) >>= _) _ _ _
  refine wpAny_bind ?_
  unfold Builtin.SmallTypes.ownedTupleIsFree
  refine wpAny_bind (wpAny_field hz rfl (x := .none) rfl (wpAny_pure ?_))
  simp only [if_true]
  refine wpAny_bind (wpAny_rule ?_)
  refine wpAny_bind (wpAny_field hz rfl (x := .ref TO) rfl ?_)
  refine wpAny_bind (wpAny_setField_rec hz (by simp) fun h₁ hz₁ hs₁ => ?_)
  replace hz₁ : IsZip h₁ z TI TO .ellipsis := hz₁
  refine wpAny_bind ?_
  simp only [List.zipIdx_cons, List.zipIdx_nil, List.forIn_cons, List.forIn_nil]

  refine wpAny_bind (wpAny_bind (wpAny_onRaise ?_))
  show wpAny _ _ (Builtin.SmallTypes.nextOf (.ref i1) >>= _) _ _ _
  refine wpAny_bind (wpAny_nextOf_list_item (h1.extBut hs₁.extBut D.i1z) (hl1.extBut hs₁.extBut D.l1z) hx fun h₂ h1₂ hs₂ => wpAny_pure ?_)
  have hTO₂ : IsPair h₂ TO a b := hs₂.extBut _ _ D.TOi1 (hs₁.extBut _ _ D.TOz hTO)
  refine wpAny_bind (wpAny_seqItems hTO₂ rfl ?_)
  refine wpAny_bind (wpAny_updateSeq_pair hTO₂ fun h₃ hTO₃ hs₃ => ?_)
  replace hTO₃ : IsPair h₃ TO x b := hTO₃
  refine wpAny_bind (wpAny_letGo (wpAny_pure ?_))

  refine wpAny_bind (wpAny_bind (wpAny_onRaise ?_))
  show wpAny _ _ (Builtin.SmallTypes.nextOf (.ref i2) >>= _) _ _ _
  refine wpAny_bind (nextOf_tuple_item (((h2.extBut hs₁.extBut D.i2z).extBut hs₂.extBut D.i12.symm).extBut hs₃.extBut D.TOi2.symm)
    (((hl2.extBut hs₁.extBut D.l2z).extBut hs₂.extBut D.l2i1).extBut hs₃.extBut D.l2TO) hy fun h₄ h2₄ hs₄ => wpAny_pure ?_)
  have hTO₄ : IsPair h₄ TO x b := hs₄.extBut _ _ D.TOi2 hTO₃
  refine wpAny_bind (wpAny_seqItems hTO₄ rfl ?_)
  refine wpAny_bind (wpAny_updateSeq_pair hTO₄ fun h₅ hTO₅ hs₅ => ?_)
  replace hTO₅ : IsPair h₅ TO x y := hTO₅
  refine wpAny_bind (wpAny_letGo (wpAny_pure (wpAny_pure ?_)))

  refine wpAny_bind (wpAny_seqItems hTO₅ rfl ?_)
  refine wpAny_bind (wpAny_newTuple ?_)
  have hsz : h₅.objs.size = s.heap.objs.size := by rw [hs₅.1, hs₄.1, hs₃.1, hs₂.1, hs₁.1]
  have hz₅ : IsZip h₅ z TI TO .ellipsis := hs₅.extBut _ _ D.TOz.symm (hs₄.extBut _ _ D.i2z.symm (hs₃.extBut _ _ D.TOz.symm (hs₂.extBut _ _ D.i1z.symm hz₁)))
  have hk₅ : ∀ c o, c ≠ z → c ≠ TO → c ≠ i1 → c ≠ i2 → s.heap.get? c = some o → h₅.get? c = some o := fun c o c1 c2 c3 c4 e =>
    hs₅.extBut _ _ c2 (hs₄.extBut _ _ c4 (hs₃.extBut _ _ c2 (hs₂.extBut _ _ c3 (hs₁.extBut _ _ c1 e))))
  have h1₅ : h₅.IsListIter i1 l1 (k1 + 1) := ((h1₂.extBut hs₃.extBut D.TOi1.symm).extBut hs₄.extBut D.i12).extBut hs₅.extBut D.TOi1.symm
  have h2₅ : h₅.IsTupleIter i2 l2 (k2 + 1) := h2₄.extBut hs₅.extBut D.TOi2.symm
  have hzlt : z < h₅.objs.size := Heap.lt_size hz₅
  have hTOlt : TO < h₅.objs.size := Heap.lt_size hTO₅
  have hi1lt : i1 < h₅.objs.size := by obtain ⟨_, e, _⟩ := h1₅; exact Heap.lt_size e
  have hi2lt : i2 < h₅.objs.size := by obtain ⟨_, e, _⟩ := h2₅; exact Heap.lt_size e
  show wpAny _ _ (Builtin.SmallTypes.ownedTupleHandOut (.ref z) (.ref h₅.objs.size) >>= _) _ _ _
  refine wpAny_bind ?_
  unfold Builtin.SmallTypes.ownedTupleHandOut
  have hz₆ : IsZip (h₅.push { cls := .type "tuple", data := .seq #[x, y] }) z TI TO .ellipsis := Heap.get?_push_of_some _ hz₅
  refine wpAny_bind (wpAny_setField_rec hz₆ (by simp) fun h₇ hz₇ hs₇ => ?_)
  replace hz₇ : IsZip h₇ z TI TO (rawInt h₅.objs.size) := hz₇
  refine wpAny_setField_rec hz₇ (by simp) fun h₈ hz₈ hs₈ => ?_
  replace hz₈ : IsZip h₈ z TI TO (rawInt h₅.objs.size) := hz₈
  have up : ∀ c o, c ≠ z → h₅.get? c = some o → h₈.get? c = some o := fun c o c1 e => hs₈.extBut _ _ c1 (hs₇.extBut _ _ c1 (Heap.get?_push_of_some _ e))
  have hT₈ : IsPair h₈ h₅.objs.size x y := hs₈.extBut _ _ (Nat.ne_of_gt hzlt) (hs₇.extBut _ _ (Nat.ne_of_gt hzlt) (Heap.get?_push_size _ rfl))
  have hz8 : h₈.objs.size = h₅.objs.size + 1 := by rw [hs₈.1, hs₇.1, Heap.size_push]
  rw [hsz] at hz₈ hT₈ hz8
  refine wpAny_pure ⟨_, rfl, ?_⟩
  show Q (.ref h₅.objs.size) _
  rw [hsz]
  exact hQ h₈ hz₈ (up _ _ D.TOz hTO₅) (h1₅.at fun o e => up _ o D.i1z e) (h2₅.at fun o e => up _ o D.i2z e) hT₈ hz8 fun c o c1 c2 c3 c4 e => up c o c1 (hk₅ c o c1 c2 c3 c4 e)

theorem zipM_next_end {z TI TO i1 i2 l1 l2 : Addr} {k1 k2 : Nat} {xs ys : Array Value} {a b : Value} {Q : Fin → Shared → Prop} (hh : A.handled = none) (D : ZipApart z TI TO i1 i2 l1 l2)
    (hz : IsZip s.heap z TI TO .none) (hTI : IsPair s.heap TI (.ref i1) (.ref i2)) (hTO : IsPair s.heap TO a b)
    (h1 : s.heap.IsListIter i1 l1 k1) (h2 : s.heap.IsTupleIter i2 l2 k2) (hl1 : s.heap.IsList l1 xs) (hl2 : s.heap.IsTuple l2 ys) (hend : xs[k1]? = none ∨ ys[k2]? = none)
    (hE : ∀ h' e, (∀ c o, c ≠ z → c ≠ TO → c ≠ i1 → c ≠ i2 → s.heap.get? c = some o → h'.get? c = some o) → (∃ o, h'.get? e = some o ∧ o.cls = .type "StopIteration") → E (.ref e) { s with heap := h' }) :
    wpAny (model prog w) A (Builtin.«zip.__next__» ⟨[.ref z], []⟩) Q E s := by
  show wpAny _ _ (field (.ref z) 2 >>= _) _ _ _
  refine wpAny_bind (wpAny_field hz rfl (x := .bool false) rfl ?_)
  show wpAny _ _ (field (.ref z) 3 >>= _) _ _ _
  refine wpAny_bind (wpAny_field hz rfl (x := .ref TI) rfl ?_)
  refine wpAny_bind (wpAny_seqItems hTI rfl ?_)
  show wpAny _ _ (Builtin.SmallTypes.ownedTupleIsFree (.ref z) >>= _) _ _ _
  refine wpAny_bind ?_
  unfold Builtin.SmallTypes.ownedTupleIsFree
  refine wpAny_bind (wpAny_field hz rfl (x := .none) rfl (wpAny_pure ?_))
  simp only [if_true]
  refine wpAny_bind (wpAny_rule ?_)
  refine wpAny_bind (wpAny_field hz rfl (x := .ref TO) rfl ?_)
  refine wpAny_bind (wpAny_setField_rec hz (by simp) fun h₁ hz₁ hs₁ => ?_)
  replace hz₁ : IsZip h₁ z TI TO .ellipsis := hz₁
  refine wpAny_bind ?_
  simp only [List.zipIdx_cons, List.zipIdx_nil, List.forIn_cons, List.forIn_nil]
  refine wpAny_bind (wpAny_bind (wpAny_onRaise ?_))
  show wpAny _ _ (Builtin.SmallTypes.nextOf (.ref i1) >>= _) _ _ _
  cases hx : xs[k1]? with
  | none =>
    refine wpAny_bind (wpAny_nextOf_list_end hh (h1.extBut hs₁.extBut D.i1z) (hl1.extBut hs₁.extBut D.l1z) hx fun h₂ e hs₂ he => ?_)
    obtain ⟨oe, hoe, hce⟩ := he
    have hz₂ : IsZip h₂ z TI TO .ellipsis := hs₂ _ _ D.i1z.symm hz₁
    have hez : e ≠ z := fun x => by subst x; rw [hz₂] at hoe; cases hoe; simp at hce
    refine wpAny_setField_rec hz₂ (by simp) fun h₃ _ hs₃ => hE h₃ e (fun c o c1 _ c3 _ x => hs₃.extBut _ _ c1 (hs₂ _ _ c3 (hs₁.extBut _ _ c1 x))) ⟨oe, hs₃.extBut _ _ hez hoe, hce⟩
  | some x =>
    have hy : ys[k2]? = none := by rcases hend with h | h; rw [hx] at h; cases h; exact h
    refine wpAny_bind (wpAny_nextOf_list_item (h1.extBut hs₁.extBut D.i1z) (hl1.extBut hs₁.extBut D.l1z) hx fun h₂ h1₂ hs₂ => wpAny_pure ?_)
    have hTO₂ : IsPair h₂ TO a b := hs₂.extBut _ _ D.TOi1 (hs₁.extBut _ _ D.TOz hTO)
    refine wpAny_bind (wpAny_seqItems hTO₂ rfl ?_)
    refine wpAny_bind (wpAny_updateSeq_pair hTO₂ fun h₃ hTO₃ hs₃ => ?_)
    refine wpAny_bind (wpAny_letGo (wpAny_pure ?_))
    refine wpAny_bind (wpAny_bind (wpAny_onRaise ?_))
    show wpAny _ _ (Builtin.SmallTypes.nextOf (.ref i2) >>= _) _ _ _
    refine wpAny_bind (nextOf_tuple_end hh (((h2.extBut hs₁.extBut D.i2z).extBut hs₂.extBut D.i12.symm).extBut hs₃.extBut D.TOi2.symm)
      (((hl2.extBut hs₁.extBut D.l2z).extBut hs₂.extBut D.l2i1).extBut hs₃.extBut D.l2TO) hy fun h₄ e hs₄ he => ?_)
    obtain ⟨oe, hoe, hce⟩ := he
    have hz₄ : IsZip h₄ z TI TO .ellipsis := hs₄ _ _ D.i2z.symm (hs₃.extBut _ _ D.TOz.symm (hs₂.extBut _ _ D.i1z.symm hz₁))
    have hez : e ≠ z := fun x => by subst x; rw [hz₄] at hoe; cases hoe; simp at hce
    refine wpAny_setField_rec hz₄ (by simp) fun h₅ _ hs₅ => hE h₅ e (fun c o c1 c2 c3 c4 x => hs₅.extBut _ _ c1 (hs₄ _ _ c4 (hs₃.extBut _ _ c2 (hs₂.extBut _ _ c3 (hs₁.extBut _ _ c1 x))))) ⟨oe, hs₅.extBut _ _ hez hoe, hce⟩

theorem pyNext_zipM_item {z TI TO i1 i2 l1 l2 : Addr} {k1 k2 : Nat} {xs ys : Array Value} {x y a b : Value} {Q : Option Value → Shared → Prop} (D : ZipApart z TI TO i1 i2 l1 l2)
    (hz : IsZip s.heap z TI TO .none) (hTI : IsPair s.heap TI (.ref i1) (.ref i2)) (hTO : IsPair s.heap TO a b)
    (h1 : s.heap.IsListIter i1 l1 k1) (h2 : s.heap.IsTupleIter i2 l2 k2) (hl1 : s.heap.IsList l1 xs) (hl2 : s.heap.IsTuple l2 ys) (hx : xs[k1]? = some x) (hy : ys[k2]? = some y)
    (hQ : ∀ h', IsZip h' z TI TO (rawInt s.heap.objs.size) → IsPair h' TO x y → h'.IsListIter i1 l1 (k1 + 1) → h'.IsTupleIter i2 l2 (k2 + 1) → IsPair h' s.heap.objs.size x y → h'.objs.size = s.heap.objs.size + 1 →
      (∀ c o, c ≠ z → c ≠ TO → c ≠ i1 → c ≠ i2 → s.heap.get? c = some o → h'.get? c = some o) → Q (some (.ref s.heap.objs.size)) { s with heap := h' }) :
    wpAny (model prog w) A (pyNext (.ref z)) Q E s := by
  have hT : s.TypeIs (.ref z) "zip" := ⟨_, hz, rfl⟩
  unfold pyNext
  exact wpAny_bind (wpAny_attempt (wpAny_callSpecial?_slot (name := Str.ofString "__next__") hT F.slot_zip_next
    (wpAny_call_entry F.slot_zip_next hT F.entry_zip_next
      (zipM_next_item D hz hTI hTO h1 h2 hl1 hl2 hx hy fun h' a1 a2 a3 a4 a5 a6 a7 => wpAny_pure (hQ h' a1 a2 a3 a4 a5 a6 a7)) (F.args_zip_next_1 _))))

theorem pyNext_zipM_end {z TI TO i1 i2 l1 l2 : Addr} {k1 k2 : Nat} {xs ys : Array Value} {a b : Value} {Q : Option Value → Shared → Prop} (hh : A.handled = none) (D : ZipApart z TI TO i1 i2 l1 l2)
    (hz : IsZip s.heap z TI TO .none) (hTI : IsPair s.heap TI (.ref i1) (.ref i2)) (hTO : IsPair s.heap TO a b)
    (h1 : s.heap.IsListIter i1 l1 k1) (h2 : s.heap.IsTupleIter i2 l2 k2) (hl1 : s.heap.IsList l1 xs) (hl2 : s.heap.IsTuple l2 ys) (hend : xs[k1]? = none ∨ ys[k2]? = none)
    (hQ : ∀ h', (∀ c o, c ≠ z → c ≠ TO → c ≠ i1 → c ≠ i2 → s.heap.get? c = some o → h'.get? c = some o) → Q none { s with heap := h' }) : wpAny (model prog w) A (pyNext (.ref z)) Q E s := by
  have hT : s.TypeIs (.ref z) "zip" := ⟨_, hz, rfl⟩
  unfold pyNext
  refine wpAny_bind (wpAny_attempt (wpAny_callSpecial?_slot (name := Str.ofString "__next__") hT F.slot_zip_next
    (wpAny_call_entry F.slot_zip_next hT F.entry_zip_next (zipM_next_end hh D hz hTI hTO h1 h2 hl1 hl2 hend fun h' e hk he => ?_) (F.args_zip_next_1 _))))
  obtain ⟨o, ho, hc⟩ := he
  refine wpAny_bind (wpAny_isInstance (T := "StopIteration") (b := true) ⟨o, ho, hc⟩ isSubtype_stop ?_)
  exact wpAny_pure (hQ _ hk)
end

abbrev zipMH1 (h : Heap) (l1 : Addr) : Heap := h.push { cls := .type "list_iterator", data := .fields #[.ref l1, .int 0 0] }
abbrev zipMH2 (h : Heap) (l1 l2 : Addr) : Heap := (zipMH1 h l1).push { cls := .type "tuple_iterator", data := .fields #[.ref l2, .int 0 0] }
abbrev zipMH3 (h : Heap) (l1 l2 : Addr) : Heap := (zipMH2 h l1 l2).push { cls := .type "tuple", data := .seq #[.ref h.objs.size, .ref (zipMH1 h l1).objs.size] }
abbrev zipMH4 (h : Heap) (l1 l2 : Addr) : Heap := (zipMH3 h l1 l2).push { cls := .type "tuple", data := .seq #[.none, .none] }
abbrev zipMH5 (h : Heap) (l1 l2 : Addr) : Heap := (zipMH4 h l1 l2).push { cls := .type "zip", data := .fields #[.none, .bool false, .bool false, .ref (zipMH2 h l1 l2).objs.size, .ref (zipMH3 h l1 l2).objs.size] }

theorem meets_zipM_new (l1 l2 : Addr) (xs ys : Array Value) :
    Meets (Builtin.«zip.__new__» ⟨[.type "zip", .ref l1, .ref l2], []⟩) (fun _ R s => s.heap.IsList l1 xs ∧ s.heap.IsTuple l2 ys ∧
      R (.ok (.ret (.ref (zipMH4 s.heap l1 l2).objs.size))) { s with heap := zipMH5 s.heap l1 l2 }) :=
  .of_wp fun prog w A R s h => by
    obtain ⟨hp, g, d, tk, os⟩ := s; obtain ⟨hl1, hl2, h⟩ := h
    have hsub := sub_zip
    have hL1 : Heap.IsList (Shared.heap ⟨hp, g, d, tk, os⟩) l1 xs := hl1
    have hL2 : Heap.IsTuple (Shared.heap ⟨hp.push { cls := .type "list_iterator", data := .fields #[.ref l1, .int 0 0] }, g, d, tk, os⟩) l2 ys := Heap.IsTuple.push hl2 _
    wp_walk using wpAny_pyIter_list hL1, wpAny_pyIter_tuple hL2
    exact ⟨_, rfl, h⟩

section
variable {prog : Program} {w : World} {A : Around} {E : Value → Shared → Prop} {s : Shared}

theorem call_zipM {l1 l2 : Addr} {xs ys : Array Value} {Q : Value → Shared → Prop} (hl1 : s.heap.IsList l1 xs) (hl2 : s.heap.IsTuple l2 ys)
    (h : ∀ h', IsZip h' (s.heap.objs.size + 4) (s.heap.objs.size + 2) (s.heap.objs.size + 3) .none → IsPair h' (s.heap.objs.size + 2) (.ref s.heap.objs.size) (.ref (s.heap.objs.size + 1)) →
      IsPair h' (s.heap.objs.size + 3) .none .none → h'.IsListIter s.heap.objs.size l1 0 → h'.IsTupleIter (s.heap.objs.size + 1) l2 0 → h'.objs.size = s.heap.objs.size + 5 →
      (∀ c o, s.heap.get? c = some o → h'.get? c = some o) → Q (.ref (s.heap.objs.size + 4)) { s with heap := h' }) :
    wpAny (model prog w) A (call (.type "zip") [.ref l1, .ref l2]) Q E s := by
  refine callType_new F.called_zip (by decide) (F.typeCall_zip_2 _ _) (F.newCall_zip_2 _ _) (fun obj => F.args_object_init_3 obj _ _) F.entry_zip_new
    (meets_zipM_new l1 l2 xs ys) ⟨hl1, hl2, ?_⟩
  have z1 : (zipMH1 s.heap l1).objs.size = s.heap.objs.size + 1 := Heap.size_push ..
  have z2 : (zipMH2 s.heap l1 l2).objs.size = s.heap.objs.size + 2 := by rw [Heap.size_push, z1]
  have z3 : (zipMH3 s.heap l1 l2).objs.size = s.heap.objs.size + 3 := by rw [Heap.size_push, z2]
  have z4 : (zipMH4 s.heap l1 l2).objs.size = s.heap.objs.size + 4 := by rw [Heap.size_push, z3]
  have z5 : (zipMH5 s.heap l1 l2).objs.size = s.heap.objs.size + 5 := by rw [Heap.size_push, z4]
  have g5 : (zipMH5 s.heap l1 l2).get? (zipMH4 s.heap l1 l2).objs.size = some _ := Heap.get?_push_size _ rfl
  have g4 : (zipMH5 s.heap l1 l2).get? (zipMH3 s.heap l1 l2).objs.size = some _ := Heap.get?_push_of_some _ (Heap.get?_push_size _ rfl)
  have g3 : (zipMH5 s.heap l1 l2).get? (zipMH2 s.heap l1 l2).objs.size = some _ := Heap.get?_push_of_some _ (Heap.get?_push_of_some _ (Heap.get?_push_size _ rfl))
  have g2 : (zipMH5 s.heap l1 l2).get? (zipMH1 s.heap l1).objs.size = some _ := Heap.get?_push_of_some _ (Heap.get?_push_of_some _ (Heap.get?_push_of_some _ (Heap.get?_push_size _ rfl)))
  have g1 : (zipMH5 s.heap l1 l2).get? s.heap.objs.size = some _ := Heap.get?_push_of_some _ (Heap.get?_push_of_some _ (Heap.get?_push_of_some _ (Heap.get?_push_of_some _ (Heap.get?_push_size _ rfl))))
  show _ ∧ _
  rw [z2, z3, z4] at g5
  rw [z1, z2] at g3
  rw [z3] at g4
  rw [z1] at g2
  rw [z4]
  exact ⟨⟨_, g5, rfl⟩, h _ g5 g3 g4 ⟨_, g1, rfl, rfl⟩ ⟨_, g2, rfl, rfl⟩ z5 fun c o x =>
    Heap.get?_push_of_some _ (Heap.get?_push_of_some _ (Heap.get?_push_of_some _ (Heap.get?_push_of_some _ (Heap.get?_push_of_some _ x))))⟩
end
end Mz
namespace Mz
open PySem PySem.Spec PyProof.Rows L2 RZ
/-- the list at a and the tuple at b -/
def ItzM (K : PySem.W.Frag) (a b : Addr) : It :=
  ⟨fun i H => ∃ (xs ys : List V) (x y : V), SqL K H a xs ∧ SqT K H b ys ∧ xs[i]? = some x ∧ ys[i]? = some y,
    fun i H v H' => ∃ T x y, v = .ref T ∧ H T = none ∧ H' = upd H T (.tup [x, y]) ∧ (∀ xs, SqL K H a xs → xs[i]? = some x) ∧ ∀ ys, SqT K H b ys → ys[i]? = some y,
    fun i H => ∃ xs ys : List V, SqL K H a xs ∧ SqT K H b ys ∧ (xs.length ≤ i ∨ ys.length ≤ i)⟩
theorem turn_zipM {P : Program} {w : World} {K : PySem.W.Frag} {elts : List Expr} {kk : Nat} {tpos : Pos} {a b z TI TO i1 i2 : Addr} (D : ZipApart z TI TO i1 i2 a b) :
    Turn P w K (.Tuple elts kk tpos) (ItzM K a b) [z, TI, TO, i1, i2] z (fun i h => IsZip h z TI TO .none ∧ IsPair h TI (.ref i1) (.ref i2) ∧ (∃ x y, IsPair h TO x y) ∧ h.IsListIter i1 a i ∧ h.IsTupleIter i2 b i) where
  mem := by simp
  obj := fun i h st c hc => by
    obtain ⟨hz, hTI, ⟨x, y, hTO⟩, ⟨o1, e1, _, d1⟩, ⟨o2, e2, _, d2⟩⟩ := st
    have e' : c = z ∨ c = TI ∨ c = TO ∨ c = i1 ∨ c = i2 := by simpa using hc
    rcases e' with q | q | q | q | q
    · rw [q]; exact ⟨_, hz, fun v q => nomatch q⟩
    · rw [q]; exact ⟨_, hTI, fun v q => nomatch q⟩
    · rw [q]; exact ⟨_, hTO, fun v q => nomatch q⟩
    · rw [q]; exact ⟨o1, e1, fun v q => by rw [d1] at q; cases q⟩
    · rw [q]; exact ⟨o2, e2, fun v q => by rw [d2] at q; cases q⟩
  keep := fun i h h' st k => by
    obtain ⟨hz, hTI, ⟨x, y, hTO⟩, h1, h2⟩ := st
    exact ⟨k z (by simp) _ hz, k TI (by simp) _ hTI, ⟨x, y, k TO (by simp) _ hTO⟩, h1.at fun o q => k i1 (by simp) o q, h2.at fun o q => k i2 (by simp) o q⟩
  item := by
    intro X hP hw hK hc i pins s σ H E I hf st hg
    subst hP hw hK
    obtain ⟨hz, hTI, ⟨x0, y0, hTO⟩, h1, h2⟩ := st
    obtain ⟨xs, ys, x, y, hqx, hqy, hx, hy⟩ := hg
    obtain ⟨its, rv, p, _⟩ := I.list hqx
    obtain ⟨its2, rv2, p2, _⟩ := I.tuple hqy
    obtain ⟨u, hu, ru⟩ := rv.get hx
    obtain ⟨u2, hu2, ru2⟩ := rv2.get hy
    have hzl : z < s.heap.objs.size := Heap.lt_size hz
    refine pyNext_zipM_item D hz hTI hTO h1 h2 p.isList p2 (x := u) (y := u2) (by simpa using hu) (by simpa using hu2) fun h' z' TO' h1' h2' hT hsz hk => ?_
    refine ⟨_, rfl, wpAny_letOwnedTupleGo_zip (s := { s with heap := h' }) z' fun h'' z'' sb => ?_⟩
    have hT2 : h''.get? s.heap.objs.size = some { cls := .type "tuple", data := .seq #[u, u2] } := (sb.2 _ (Nat.ne_of_gt hzl)).trans hT
    have new : ObjOk X.prog X.w (upd H s.heap.objs.size (.tup [x, y])) h'' s.heap.objs.size (.tup [x, y]) :=
      ⟨by show 2 ≤ sizeLine; decide, [u, u2], .cons ru (.cons ru2 .nil), ⟨_, hT2, rfl, _, rfl⟩⟩
    have I1 : Inv X pins σ (upd H s.heap.objs.size (.tup [x, y])) { s with heap := h'' } :=
      I.turnedNew (t' := s.toks) (ch := [z, TI, TO, i1, i2]) (fun c o hb q => (sb.2 c (fun q' => hb (by simp [q']))).trans (hk c o (fun q' => hb (by simp [q'])) (fun q' => hb (by simp [q'])) (fun q' => hb (by simp [q'])) (fun q' => hb (by simp [q'])) q)) hf (Nat.le_refl _) new
    refine ⟨.ref s.heap.objs.size, _, I1, rfl, ⟨_, x, y, rfl, I.hok.fresh (Nat.le_refl _), rfl, fun l hl => by rw [I.list_inj hl hqx]; exact hx, fun l hl => by rw [I.tuple_inj hl hqy]; exact hy⟩, ⟨z'', ?_, ⟨u, u2, ?_⟩, ?_, ?_⟩, fun c hcm => ?_⟩
    · exact (sb.2 _ D.TIz).trans (hk _ _ D.TIz D.TITO D.TIi1 D.TIi2 hTI)
    · exact (sb.2 _ D.TOz).trans TO'
    · exact h1'.at fun o q => (sb.2 _ D.i1z).trans q
    · exact h2'.at fun o q => (sb.2 _ D.i2z).trans q
    · have hlt : c < s.heap.objs.size := by
        have e' : c = z ∨ c = TI ∨ c = TO ∨ c = i1 ∨ c = i2 := by simpa using hcm
        rcases e' with q | q | q | q | q
        · rw [q]; exact hzl
        · rw [q]; exact Heap.lt_size hTI
        · rw [q]; exact Heap.lt_size hTO
        · rw [q]; obtain ⟨_, e1, _⟩ := h1; exact Heap.lt_size e1
        · rw [q]; obtain ⟨_, e2, _⟩ := h2; exact Heap.lt_size e2
      rw [upd_ne (Nat.ne_of_lt hlt)]
      exact (hf c hcm).1
  done := by
    intro X hP hw hK hc i pins s σ H E I hf st hg
    subst hP hw hK
    obtain ⟨hz, hTI, ⟨x0, y0, hTO⟩, h1, h2⟩ := st
    obtain ⟨xs, ys, hqx, hqy, hend⟩ := hg
    obtain ⟨its, rv, p, _⟩ := I.list hqx
    obtain ⟨its2, rv2, p2, _⟩ := I.tuple hqy
    have l1 := rv.length
    have l2 := rv2.length
    have he : its.toArray[i]? = none ∨ its2.toArray[i]? = none := by
      rcases hend with q | q
      · exact .inl (by simp; omega)
      · exact .inr (by simp; omega)
    exact pyNext_zipM_end (I.ok.hd hc) D hz hTI hTO h1 h2 p.isList p2 he fun h' hk => ⟨rfl, I.turnedL (t' := s.toks) (ch := [z, TI, TO, i1, i2]) (fun c o hb q =>
      hk c o (fun q' => hb (by simp [q'])) (fun q' => hb (by simp [q'])) (fun q' => hb (by simp [q'])) (fun q' => hb (by simp [q'])) q) hf⟩
  self := fun A i s Q E st h => wpAny_pyIter_zip st.1 h

/-- zip of two lists, of two tuples, of a list and a tuple -/
def iZipB (K : PySem.W.Frag) (ta : TA) : TI := fun σ H R => ta σ H fun vs H1 => ∃ a b xs ys, vs = [.ref a, .ref b] ∧
  ((SqL K H1 a xs ∧ SqL K H1 b ys ∧ R (Itz K a b) H1) ∨ (SqT K H1 a xs ∧ SqT K H1 b ys ∧ R (ItzT K a b) H1) ∨ (SqL K H1 a xs ∧ SqT K H1 b ys ∧ R (ItzM K a b) H1))
theorem pi_zipB {X : Cx} {e e2 : Expr} {ta : TA} {p pos tpos : Pos} {elts : List Expr} {kk : Nat} (hg : Gl X "zip") (hm : X.mg "zip" = none) (ha : PA X [e, e2] ta)
    (hs : starEach [e, e2] X.env = (false, eval e X.env) :: starEach [e2] X.env) (hpl : (backTo pos (starEach [e2] X.env)).any (·.1) = false) :
    PI X (.Tuple elts kk tpos) (.Call (.Name "zip" p) [e, e2] [] pos) (iZipB X.K ta) := by
  refine ⟨fun pins s σ H R I h => ?_⟩
  refine Call_ (ld_blt I hg hm PyProof.Rows.boot_zip (PyProof.Rows.callWith_type1 (thn (ha.run pos pins s σ H _ I h) fun us s1 ⟨vs, H1, I1, r1, q1⟩ => ?_) hs hpl))
  obtain ⟨a, b, xs, ys, ex, q1⟩ := q1
  subst ex
  cases r1 with
  | cons r rr =>
    cases rr with
    | cons r' rr =>
      cases rr
      cases r
      cases r'
      have frs : ∀ c, c ∈ [s1.heap.objs.size + 4, s1.heap.objs.size + 2, s1.heap.objs.size + 3, s1.heap.objs.size, s1.heap.objs.size + 1] → FpOk X pins H1 c := fun c hm => by
        have le : s1.heap.objs.size ≤ c := by
          simp only [List.mem_cons, List.not_mem_nil, or_false] at hm
          omega
        exact I1.fpOk le (I1.hok.fresh le)
      rcases q1 with ⟨qa, qb, q⟩ | ⟨qa, qb, q⟩ | ⟨qa, qb, q⟩
      · obtain ⟨_, _, p1, _⟩ := I1.list qa
        obtain ⟨_, _, p2, _⟩ := I1.list qb
        refine call_zip_2 p1.isList p2.isList fun h' hz h2 h3 h4 h5 _ hk => wpAny_pyIter_zip hz ?_
        exact ⟨_, [s1.heap.objs.size + 4, s1.heap.objs.size + 2, s1.heap.objs.size + 3, s1.heap.objs.size, s1.heap.objs.size + 1], _, _, H1, rfl, I1.kept (t' := s1.toks) hk, turn_zip (PySem.W.ktu_apart s1.heap.objs.size a b p1.lt p2.lt), ⟨hz, h2, ⟨_, _, h3⟩, h4, h5⟩, frs, q⟩
      · obtain ⟨t1, _, p1, _⟩ := I1.tuple qa
        obtain ⟨t2, _, p2, _⟩ := I1.tuple qb
        obtain ⟨_, o1, _⟩ := id p1
        obtain ⟨_, o2, _⟩ := id p2
        refine call_zipT (show s1.heap.IsTuple a t1.toArray from p1) (show s1.heap.IsTuple b t2.toArray from p2) fun h' hz h2 h3 h4 h5 _ hk => wpAny_pyIter_zip hz ?_
        exact ⟨_, [s1.heap.objs.size + 4, s1.heap.objs.size + 2, s1.heap.objs.size + 3, s1.heap.objs.size, s1.heap.objs.size + 1], _, _, H1, rfl, I1.kept (t' := s1.toks) hk, turn_zipT (PySem.W.ktu_apart s1.heap.objs.size a b (Heap.lt_size o1) (Heap.lt_size o2)), ⟨hz, h2, ⟨_, _, h3⟩, h4, h5⟩, frs, q⟩
      · obtain ⟨_, _, p1, _⟩ := I1.list qa
        obtain ⟨t2, _, p2, _⟩ := I1.tuple qb
        obtain ⟨_, o2, _⟩ := id p2
        refine call_zipM p1.isList (show s1.heap.IsTuple b t2.toArray from p2) fun h' hz h2 h3 h4 h5 _ hk => wpAny_pyIter_zip hz ?_
        exact ⟨_, [s1.heap.objs.size + 4, s1.heap.objs.size + 2, s1.heap.objs.size + 3, s1.heap.objs.size, s1.heap.objs.size + 1], _, _, H1, rfl, I1.kept (t' := s1.toks) hk, turn_zipM (PySem.W.ktu_apart s1.heap.objs.size a b p1.lt (Heap.lt_size o2)), ⟨hz, h2, ⟨_, _, h3⟩, h4, h5⟩, frs, q⟩
end Mz
set_option Elab.async false
set_option linter.all false
set_option maxRecDepth 100000
set_option autoImplicit false
/-! Mi: loops. -/
namespace Mi
open PySem PySem.Spec L2
/-- what a world keeps of another's pure values -/
structure Pres (w w' : Wd) : Prop where
  keep : Keeps w.H w'.H w.Lv
  held : ∀ a, (∃ o, w.H a = some o) → ¬ w.Lv a → ¬ w'.Lv a
theorem Pres.trans {w w' w'' : Wd} (a : Pres w w') (b : Pres w' w'') : Pres w w'' :=
  ⟨fun x o h n => b.keep x o (a.keep x o h n) (a.held x ⟨o, h⟩ n), fun x ⟨o, h⟩ n => b.held x ⟨o, a.keep x o h n⟩ (a.held x ⟨o, h⟩ n)⟩
theorem Ext.pres {K : PySem.W.Frag} {w w' : Wd} (e : Ext K w w') : Pres w w' := ⟨e.keepV, fun _ => e.held⟩
theorem Pres.rp {K : PySem.W.Frag} {w w' : Wd} (e : Pres w w') {v : V} {p : P} (h : Rp K w.H w.Lv v p) : Rp K w'.H w'.Lv v p := h.keep e.keep e.held
theorem Pres.rpa {K : PySem.W.Frag} {w w' : Wd} (e : Pres w w') {v : List V} {p : List P} (h : RpAll K w.H w.Lv v p) : RpAll K w'.H w'.Lv v p := h.keep e.keep e.held
/-- every list and tuple is short -/
def LenOk (K : PySem.W.Frag) (H : Hp) : Prop := ∀ a xs, SqL K H a xs ∨ SqT K H a xs → xs.length ≤ sizeLine
theorem lens {X : Cx} {pins : List (Addr × Obj)} {σ : L2.St} {H : Hp} {s : Shared} (I : Inv X pins σ H s) : LenOk X.K H := fun a xs h => by
  rcases h with h | h
  · obtain ⟨its, r, pl, hz⟩ := I.list h
    exact hz
  · obtain ⟨its, r, pl, hz⟩ := I.tuple h
    exact hz
/-- a walk's turns give just these items, whatever else comes about -/
def JOk (K : PySem.W.Frag) (w0 : Wd) (J : It) (ps : List P) : Prop := (∀ (w : Wd) (i : Nat), Pres w0 w → Ok K w →
  (∀ p, ps[i]? = some p → J.go i w.H ∧ ∀ x H', J.yld i w.H x H' → ∃ w' : Wd, w'.H = H' ∧ w'.S = w.S ∧ Ext K w w' ∧ Ok K w' ∧ Rp K w'.H w'.Lv x p) ∧ (i = ps.length → J.stop i w.H)) ∧ (LenOk K w0.H → ps.length ≤ sizeLine)
def tI (K : PySem.W.Frag) (E : WX) (f : L → Sto → R (List P)) : TI := fun σ H R => ∃ (w : Wd) (l : L), w.H = H ∧ Ok K w ∧ Lr K w σ l ∧ After K E (JOk K) (f l w.S) w σ R
theorem PI.imp' {X : Cx} {tg e : Expr} {t t' : TI} (h : PI X tg e t) (i : ∀ σ H Q, t' σ H Q → t σ H Q) : PI X tg e t' := ⟨fun pins s σ H Q I q => h.run pins s σ H Q I (i σ H Q q)⟩
section
variable {K : PySem.W.Frag} {w : Wd}
theorem j_list {a : Addr} {xs : List V} {ps : List P} (s : w.H a = some (.lst xs)) (n : ¬ w.Lv a) (r : RpAll K w.H w.Lv xs ps) : JOk K w (Itl K a) ps := ⟨fun w1 i e ok => by
  have s1 : w1.H a = some (.lst xs) := e.keep _ _ s n
  have r1 := e.rpa r
  refine ⟨fun p hp => ?_, fun hi => ⟨xs, SqL.of s1, by rw [r.length]; omega⟩⟩
  obtain ⟨x, hx, rx⟩ := r1.get hp
  refine ⟨⟨xs, x, SqL.of s1, hx⟩, fun y H' ⟨h1, h2⟩ => ?_⟩
  have := h2 xs (SqL.of s1)
  rw [hx] at this; cases this
  exact ⟨w1, h1.symm, rfl, Ext.refl, ok, rx⟩,
  fun hl => by rw [← r.length]; exact hl a xs (.inl (SqL.of s))⟩
theorem j_tup {a : Addr} {xs : List V} {ps : List P} (s : SqB K w.H w.Lv a xs) (_ : True) (r : RpAll K w.H w.Lv xs ps) : JOk K w (Itt K a) ps := ⟨fun w1 i e ok => by
  have s1 : SqT K w1.H a xs := (SqB.keep e.keep e.held s).sq
  have r1 := e.rpa r
  refine ⟨fun p hp => ?_, fun hi => ⟨xs, s1, by rw [r.length]; omega⟩⟩
  obtain ⟨x, hx, rx⟩ := r1.get hp
  refine ⟨⟨xs, x, s1, hx⟩, fun y H' ⟨h1, h2⟩ => ?_⟩
  have := h2 xs s1
  rw [hx] at this; cases this
  exact ⟨w1, h1.symm, rfl, Ext.refl, ok, rx⟩,
  fun hl => by rw [← r.length]; exact hl a xs (.inr s.sq)⟩
theorem rngL_length : ∀ (n : Nat) (i : Int), (rngL i n).length = n
  | 0, _ => rfl
  | n + 1, i => by unfold rngL; rw [List.length_cons, rngL_length n]
theorem rngL_get : ∀ (n : Nat) (i : Int) (j : Nat) (p : P), (rngL i n)[j]? = some p → j < n ∧ p = .int (i + j)
  | 0, _, _, _, h => by cases h
  | n + 1, i, 0, p, h => by cases h; exact ⟨Nat.succ_pos _, by simp⟩
  | n + 1, i, j + 1, p, h => by
    obtain ⟨h1, h2⟩ := rngL_get n (i + 1) j p h
    exact ⟨Nat.succ_lt_succ h1, by rw [h2]; congr 1; omega⟩
theorem j_rng (lo : Int) (n : Nat) (hn : n ≤ sizeLine) : JOk K w (Itr lo n) (rngL lo n) := ⟨fun w1 i e ok => by
  refine ⟨fun p hp => ?_, fun hi => by rw [rngL_length] at hi; exact Nat.le_of_eq hi.symm⟩
  obtain ⟨h1, rfl⟩ := rngL_get _ _ _ _ hp
  exact ⟨h1, fun x H' ⟨h2, h3⟩ => ⟨w1, h2.symm, rfl, Ext.refl, ok, by rw [h3]; exact .int _⟩⟩,
  fun _ => by rw [rngL_length]; exact hn⟩
theorem enumP_length : ∀ (ps : List P) (i : Int), (enumP i ps).length = ps.length
  | [], _ => rfl
  | p :: ps, i => by unfold enumP; rw [List.length_cons, enumP_length ps, List.length_cons]
theorem enumP_get : ∀ (ps : List P) (i : Int) (j : Nat) (p : P), (enumP i ps)[j]? = some p → ∃ q, ps[j]? = some q ∧ p = .tuple [.int (i + j), q]
  | [], _, _, _, h => by cases h
  | q :: ps, i, 0, p, h => by cases h; exact ⟨q, rfl, by simp⟩
  | q :: ps, i, j + 1, p, h => by
    obtain ⟨q', h1, h2⟩ := enumP_get ps (i + 1) j p h
    exact ⟨q', h1, by rw [h2]; congr 3; omega⟩
theorem zipP_get : ∀ (ps qs : List P) (j : Nat) (p : P), (zipP ps qs)[j]? = some p → ∃ a b, ps[j]? = some a ∧ qs[j]? = some b ∧ p = .tuple [a, b]
  | [], _, _, _, h => by cases h
  | _ :: _, [], _, _, h => by cases h
  | a :: ps, b :: qs, 0, p, h => by cases h; exact ⟨a, b, rfl, rfl, rfl⟩
  | a :: ps, b :: qs, j + 1, p, h => zipP_get ps qs j p h
theorem zipP_length : ∀ (ps qs : List P), (zipP ps qs).length = min ps.length qs.length
  | [], _ => by simp [zipP]
  | _ :: _, [] => by simp [zipP]
  | a :: ps, b :: qs => by unfold zipP; rw [List.length_cons, zipP_length ps qs, List.length_cons, List.length_cons]; omega
/-- a new pair -/
theorem new_pair (ok : Ok K w) {T : Addr} {x y : V} {p q : P} (hT : w.H T = none) (r1 : Rp K w.H w.Lv x p) (r2 : Rp K w.H w.Lv y q) :
    ∃ w' : Wd, w'.H = upd w.H T (.tup [x, y]) ∧ w'.S = w.S ∧ Ext K w w' ∧ Ok K w' ∧ Rp K w'.H w'.Lv (.ref T) (.tuple [p, q]) := by
  obtain ⟨e, o⟩ := laid ok hT (.tup [x, y])
  exact ⟨⟨upd w.H T (.tup [x, y]), w.μ, w.S, w.F⟩, rfl, rfl, e, o, Rp.mkTup (SqT.of upd_same) (fun z => ok.nlv hT z) (.cons (Rp.ext e r1) (.cons (Rp.ext e r2) .nil))⟩
theorem j_enumL {a : Addr} {xs : List V} {ps : List P} (s : w.H a = some (.lst xs)) (n : ¬ w.Lv a) (r : RpAll K w.H w.Lv xs ps) : JOk K w (Ite K a) (enumP 0 ps) := ⟨fun w1 i e ok => by
  have s1 : w1.H a = some (.lst xs) := e.keep _ _ s n
  have r1 := e.rpa r
  refine ⟨fun p hp => ?_, fun hi => ⟨xs, SqL.of s1, by rw [r.length]; rw [enumP_length] at hi; omega⟩⟩
  obtain ⟨q, hq, rfl⟩ := enumP_get _ _ _ _ hp
  obtain ⟨x, hx, rx⟩ := r1.get hq
  refine ⟨⟨xs, x, SqL.of s1, hx⟩, fun y H' ⟨T, z, e1, e2, e3, e4⟩ => ?_⟩
  have := e4 xs (SqL.of s1)
  rw [hx] at this; cases this
  subst e1
  obtain ⟨w2, g1, g2, g3, g4, g5⟩ := new_pair ok e2 (.int ((i : Nat) : Int)) rx
  exact ⟨w2, g1.trans e3.symm, g2, g3, g4, by rw [show (0 : Int) + (i : Int) = (i : Int) by omega]; exact g5⟩,
  fun hl => by rw [enumP_length, ← r.length]; exact hl a xs (.inl (SqL.of s))⟩
theorem j_enumT {a : Addr} {xs : List V} {ps : List P} (s : SqB K w.H w.Lv a xs) (_ : True) (r : RpAll K w.H w.Lv xs ps) : JOk K w (IteT K a) (enumP 0 ps) := ⟨fun w1 i e ok => by
  have s1 : SqT K w1.H a xs := (SqB.keep e.keep e.held s).sq
  have r1 := e.rpa r
  refine ⟨fun p hp => ?_, fun hi => ⟨xs, s1, by rw [r.length]; rw [enumP_length] at hi; omega⟩⟩
  obtain ⟨q, hq, rfl⟩ := enumP_get _ _ _ _ hp
  obtain ⟨x, hx, rx⟩ := r1.get hq
  refine ⟨⟨xs, x, s1, hx⟩, fun y H' ⟨T, z, e1, e2, e3, e4⟩ => ?_⟩
  have := e4 xs s1
  rw [hx] at this; cases this
  subst e1
  obtain ⟨w2, g1, g2, g3, g4, g5⟩ := new_pair ok e2 (.int ((i : Nat) : Int)) rx
  exact ⟨w2, g1.trans e3.symm, g2, g3, g4, by rw [show (0 : Int) + (i : Int) = (i : Int) by omega]; exact g5⟩,
  fun hl => by rw [enumP_length, ← r.length]; exact hl a xs (.inr s.sq)⟩
theorem j_zipL {a b : Addr} {xs ys : List V} {ps qs : List P} (s : w.H a = some (.lst xs)) (n : ¬ w.Lv a) (r : RpAll K w.H w.Lv xs ps) (s' : w.H b = some (.lst ys)) (n' : ¬ w.Lv b) (r' : RpAll K w.H w.Lv ys qs) : JOk K w (Itz K a b) (zipP ps qs) := ⟨fun w1 i e ok => by
  have s1 : w1.H a = some (.lst xs) := e.keep _ _ s n
  have s2 : w1.H b = some (.lst ys) := e.keep _ _ s' n'
  have r1 := e.rpa r
  have r2 := e.rpa r'
  refine ⟨fun p hp => ?_, fun hi => ⟨xs, ys, SqL.of s1, SqL.of s2, by rw [r.length, r'.length]; rw [zipP_length] at hi; omega⟩⟩
  obtain ⟨p1, q1, hp1, hq1, rfl⟩ := zipP_get _ _ _ _ hp
  obtain ⟨x, hx, rx⟩ := r1.get hp1
  obtain ⟨y, hy, ry⟩ := r2.get hq1
  refine ⟨⟨xs, ys, x, y, SqL.of s1, SqL.of s2, hx, hy⟩, fun z H' ⟨T, x1, y1, e1, e2, e3, e4, e5⟩ => ?_⟩
  have := e4 xs (SqL.of s1)
  rw [hx] at this; cases this
  have := e5 ys (SqL.of s2)
  rw [hy] at this; cases this
  subst e1
  obtain ⟨w2, g1, g2, g3, g4, g5⟩ := new_pair ok e2 rx ry
  exact ⟨w2, g1.trans e3.symm, g2, g3, g4, g5⟩,
  fun hl => by rw [zipP_length, ← r.length]; exact Nat.le_trans (Nat.min_le_left _ _) (hl a xs (.inl (SqL.of s)))⟩
theorem j_zipT {a b : Addr} {xs ys : List V} {ps qs : List P} (s : SqB K w.H w.Lv a xs) (_ : True) (r : RpAll K w.H w.Lv xs ps) (s' : SqB K w.H w.Lv b ys) (_ : True) (r' : RpAll K w.H w.Lv ys qs) : JOk K w (RZ.ItzT K a b) (zipP ps qs) := ⟨fun w1 i e ok => by
  have s1 : SqT K w1.H a xs := (SqB.keep e.keep e.held s).sq
  have s2 : SqT K w1.H b ys := (SqB.keep e.keep e.held s').sq
  have r1 := e.rpa r
  have r2 := e.rpa r'
  refine ⟨fun p hp => ?_, fun hi => ⟨xs, ys, s1, s2, by rw [r.length, r'.length]; rw [zipP_length] at hi; omega⟩⟩
  obtain ⟨p1, q1, hp1, hq1, rfl⟩ := zipP_get _ _ _ _ hp
  obtain ⟨x, hx, rx⟩ := r1.get hp1
  obtain ⟨y, hy, ry⟩ := r2.get hq1
  refine ⟨⟨xs, ys, x, y, s1, s2, hx, hy⟩, fun z H' ⟨T, x1, y1, e1, e2, e3, e4, e5⟩ => ?_⟩
  have := e4 xs s1
  rw [hx] at this; cases this
  have := e5 ys s2
  rw [hy] at this; cases this
  subst e1
  obtain ⟨w2, g1, g2, g3, g4, g5⟩ := new_pair ok e2 rx ry
  exact ⟨w2, g1.trans e3.symm, g2, g3, g4, g5⟩,
  fun hl => by rw [zipP_length, ← r.length]; exact Nat.le_trans (Nat.min_le_left _ _) (hl a xs (.inr s.sq))⟩
theorem j_zipM {a b : Addr} {xs ys : List V} {ps qs : List P} (s : w.H a = some (.lst xs)) (n : ¬ w.Lv a) (r : RpAll K w.H w.Lv xs ps) (s' : SqB K w.H w.Lv b ys) (_ : True) (r' : RpAll K w.H w.Lv ys qs) : JOk K w (Mz.ItzM K a b) (zipP ps qs) := ⟨fun w1 i e ok => by
  have s1 : w1.H a = some (.lst xs) := e.keep _ _ s n
  have s2 : SqT K w1.H b ys := (SqB.keep e.keep e.held s').sq
  have r1 := e.rpa r
  have r2 := e.rpa r'
  refine ⟨fun p hp => ?_, fun hi => ⟨xs, ys, SqL.of s1, s2, by rw [r.length, r'.length]; rw [zipP_length] at hi; omega⟩⟩
  obtain ⟨p1, q1, hp1, hq1, rfl⟩ := zipP_get _ _ _ _ hp
  obtain ⟨x, hx, rx⟩ := r1.get hp1
  obtain ⟨y, hy, ry⟩ := r2.get hq1
  refine ⟨⟨xs, ys, x, y, SqL.of s1, s2, hx, hy⟩, fun z H' ⟨T, x1, y1, e1, e2, e3, e4, e5⟩ => ?_⟩
  have := e4 xs (SqL.of s1)
  rw [hx] at this; cases this
  have := e5 ys s2
  rw [hy] at this; cases this
  subst e1
  obtain ⟨w2, g1, g2, g3, g4, g5⟩ := new_pair ok e2 rx ry
  exact ⟨w2, g1.trans e3.symm, g2, g3, g4, g5⟩,
  fun hl => by rw [zipP_length, ← r.length]; exact Nat.le_trans (Nat.min_le_left _ _) (hl a xs (.inl (SqL.of s)))⟩
end
/-- the items of evaluated arguments -/
def itR (k : IK) (ws : List W) (S : Sto) : R (List P) := match items k ws with
  | some xs => .ok xs S
  | none => .stuck
section
variable {X : Cx} {E : WX} {tg a b : Expr} {pos : Pos}
def iSeqA (K : PySem.W.Frag) (tl : TE) : TI := fun σ H R => tl σ H fun x H1 => ∃ a, x = .ref a ∧ (((∃ xs, SqL K H1 a xs) ∧ R (Itl K a) H1) ∨ ((∃ xs, SqT K H1 a xs) ∧ R (Itt K a) H1))
theorem pi_seqA {l : Expr} {tl : TE} (hl : PE X l tl) : PI X tg l (iSeqA X.K tl) := by
  refine ⟨fun pins s σ H R I h => ?_⟩
  refine thn (hl.run pins s σ H _ I h) fun v s1 ⟨x, H1, I1, r1, q1⟩ => ?_
  obtain ⟨a, e, q1⟩ := q1
  subst e
  cases r1
  rcases q1 with ⟨⟨xs, hq⟩, q⟩ | ⟨⟨xs, hq⟩, q⟩
  · obtain ⟨its, rv, p, hz⟩ := I1.list hq
    refine wpAny_pyIter_list p.isList ?_
    refine ⟨s1.heap.objs.size, [s1.heap.objs.size], _, _, H1, rfl, I1.kept (t' := s1.toks) fun b o e => Heap.get?_push_of_some _ e, turn_list a _, ⟨_, Heap.get?_push_size _ rfl, rfl, rfl⟩, fun b hb => ?_, q⟩
    have e : b = s1.heap.objs.size := by simpa using hb
    subst e
    exact I1.fpOk (Nat.le_refl _) (I1.hok.fresh (Nat.le_refl _))
  · obtain ⟨its, rv, p, hz⟩ := I1.tuple hq
    refine wpAny_pyIter_tuple (show s1.heap.IsTuple a its.toArray from p) ?_
    refine ⟨s1.heap.objs.size, [s1.heap.objs.size], _, _, H1, rfl, I1.kept (t' := s1.toks) fun b o e => Heap.get?_push_of_some _ e, turn_tuple a _, ⟨_, Heap.get?_push_size _ rfl, rfl, rfl⟩, fun b hb => ?_, q⟩
    have e : b = s1.heap.objs.size := by simpa using hb
    subst e
    exact I1.fpOk (Nat.le_refl _) (I1.hok.fresh (Nat.le_refl _))
def iEnumA (K : PySem.W.Frag) (ta : TA) : TI := fun σ H R => ta σ H fun vs H1 => ∃ a xs, vs = [.ref a] ∧ ((SqL K H1 a xs ∧ R (Ite K a) H1) ∨ (SqT K H1 a xs ∧ R (IteT K a) H1))
theorem pi_enumA {e : Expr} {ta : TA} {p tpos : Pos} {elts : List Expr} {kk : Nat} (hg : Gl X "enumerate") (hm : X.mg "enumerate" = none) (ha : PA X [e] ta) (hs : starEach [e] X.env = [(false, eval e X.env)]) :
    PI X (.Tuple elts kk tpos) (.Call (.Name "enumerate" p) [e] [] pos) (iEnumA X.K ta) := by
  refine ⟨fun pins s σ H R I h => ?_⟩
  refine PyProof.Rows.Call_ (ld_blt I hg hm PyProof.Rows.boot_enumerate (PyProof.Rows.callWith_type1 (thn (ha.run pos pins s σ H _ I h) fun us s1 ⟨vs, H1, I1, r1, q1⟩ => ?_) hs rfl))
  obtain ⟨a, xs, ex, q1⟩ := q1
  subst ex
  cases r1 with
  | cons r rr =>
    cases rr
    cases r
    have fp : ∀ b ∈ [s1.heap.objs.size + 1, s1.heap.objs.size], FpOk X pins H1 b := fun b hb => by
      have e' : b = s1.heap.objs.size + 1 ∨ b = s1.heap.objs.size := by simpa using hb
      have hle : s1.heap.objs.size ≤ b := by
        rcases e' with z | z
        · rw [z]; exact Nat.le_add_right _ _
        · rw [z]; exact Nat.le_refl _
      exact I1.fpOk hle (I1.hok.fresh hle)
    rcases q1 with ⟨hq, q⟩ | ⟨hq, q⟩
    · obtain ⟨its, rv, p', hz⟩ := I1.list hq
      refine call_enumerate_list p'.isList fun h' he hit hsz hk => wpAny_pyIter_enum he ?_
      exact ⟨s1.heap.objs.size + 1, [s1.heap.objs.size + 1, s1.heap.objs.size], _, _, H1, rfl, I1.kept (t' := s1.toks) hk, turn_enum a (s1.heap.objs.size + 1) s1.heap.objs.size, ⟨⟨.none, he⟩, hit, Nat.succ_ne_self _⟩, fp, q⟩
    · obtain ⟨its, rv, p', hz⟩ := I1.tuple hq
      refine enum_begins1 (begins_tuple a its.toArray) p' fun h' he hit hsz hk => wpAny_pyIter_enum he ?_
      exact ⟨s1.heap.objs.size + 1, [s1.heap.objs.size + 1, s1.heap.objs.size], _, _, H1, rfl, I1.kept (t' := s1.toks) hk, turn_enumT a (s1.heap.objs.size + 1) s1.heap.objs.size its.toArray, ⟨⟨.none, he⟩, ⟨_, hit, rfl, rfl⟩, Nat.succ_ne_self _⟩, fp, q⟩
theorem i_seq {f : L → Sto → R W} (ha : PE X a (tE X.K E f)) : PI X tg a (tI X.K E fun l S => (f l S).bind fun w S => itR .seq [w] S) := by
  refine PI.imp' (pi_seqA ha) fun σ H Q ⟨w, l, eH, ok, lr, h⟩ => ?_
  refine tE.bind (RV2 := JOk X.K) (g := fun x l S => itR .seq [x] S) eH ok lr h fun w1 v x e1 ok1 lr1 r1 h1 => ?_
  cases x with
  | rf n => exact h1.elim
  | sc n => exact h1.elim
  | pv p =>
    cases p with
    | list ps => cases r1 with | lst s1 n1 a1 => exact ⟨_, rfl, .inl ⟨⟨_, SqL.of s1⟩, h1 w1 (Itl X.K _) rfl Ext.refl ok1 (j_list s1 n1 a1)⟩⟩
    | tuple ps => cases r1 with | tup s1 n1 a1 => exact ⟨_, rfl, .inr ⟨⟨_, s1.sq⟩, h1 w1 (Itt X.K _) rfl Ext.refl ok1 (j_tup s1 n1 a1)⟩⟩
    | _ => exact h1.elim
theorem i_rng1 {g : L → Sto → R (List W)} {p : Pos} (hg : Gl X "range") (hm : X.mg "range" = none) (ha : PA X [a] (tA X.K E g)) (hs : starEach [a] X.env = [(false, eval a X.env)]) : PI X tg (.Call (.Name "range" p) [a] [] pos) (tI X.K E fun l S => (g l S).bind fun ws S => itR .rng1 ws S) := by
  refine PI.imp' (pi_range1 hg hm ha hs) fun σ H Q ⟨w, l, eH, ok, lr, h⟩ => ?_
  refine tA.bind (RV2 := JOk X.K) (g := fun x l S => itR .rng1 x S) eH ok lr h fun w1 v xs e1 ok1 lr1 r1 h1 => ?_
  cases q : items .rng1 xs with
  | none => unfold itR at h1; rw [q] at h1; exact h1.elim
  | some ps =>
    unfold itR at h1; rw [q] at h1
    unfold items at q
    split at q <;> rename_i e <;> (try cases e) <;> (try (cases q; done))
    obtain ⟨⟨hc1, hc2⟩, rfl⟩ := some_if q
    obtain ⟨v0, r, rfl, rv, rr⟩ := Rvs.uncons r1
    cases rr
    cases rv
    unfold maxLen at hc2
    exact ⟨_, rfl, hc1, by omega, h1 w1 (Itr 0 _) rfl Ext.refl ok1 (j_rng _ _ (by rw [sizeLine_eq]; unfold maxLen at *; omega))⟩
theorem i_rng2 {g : L → Sto → R (List W)} {p : Pos} (hg : Gl X "range") (hm : X.mg "range" = none) (ha : PA X [a, b] (tA X.K E g)) (hs : starEach [a, b] X.env = [(false, eval a X.env), (false, eval b X.env)]) (hs2 : starEach [b] X.env = [(false, eval b X.env)]) :
    PI X tg (.Call (.Name "range" p) [a, b] [] pos) (tI X.K E fun l S => (g l S).bind fun ws S => itR .rng2 ws S) := by
  refine PI.imp' (pi_range2 hg hm ha hs hs2) fun σ H Q ⟨w, l, eH, ok, lr, h⟩ => ?_
  refine tA.bind (RV2 := JOk X.K) (g := fun x l S => itR .rng2 x S) eH ok lr h fun w1 v xs e1 ok1 lr1 r1 h1 => ?_
  cases q : items .rng2 xs with
  | none => unfold itR at h1; rw [q] at h1; exact h1.elim
  | some ps =>
    unfold itR at h1; rw [q] at h1
    unfold items at q
    split at q <;> rename_i e <;> (try cases e) <;> (try (cases q; done))
    obtain ⟨⟨c1, c2, c3, c4, c5⟩, rfl⟩ := some_if q
    obtain ⟨v0, r, rfl, rv, rr⟩ := Rvs.uncons r1
    obtain ⟨v1, r, rfl, rv1, rr⟩ := Rvs.uncons rr
    cases rr
    cases rv
    cases rv1
    exact ⟨_, _, rfl, ⟨c1, c2, c3, c4⟩, h1 w1 (Itr _ _) rfl Ext.refl ok1 (j_rng _ _ (by rw [sizeLine_eq]; unfold maxLen at *; omega))⟩
theorem i_enum {g : L → Sto → R (List W)} {p tpos : Pos} {elts : List Expr} {kk : Nat} (hg : Gl X "enumerate") (hm : X.mg "enumerate" = none) (ha : PA X [a] (tA X.K E g)) (hs : starEach [a] X.env = [(false, eval a X.env)]) :
    PI X (.Tuple elts kk tpos) (.Call (.Name "enumerate" p) [a] [] pos) (tI X.K E fun l S => (g l S).bind fun ws S => itR .enum ws S) := by
  refine PI.imp' (pi_enumA hg hm ha hs) fun σ H Q ⟨w, l, eH, ok, lr, h⟩ => ?_
  refine tA.bind (RV2 := JOk X.K) (g := fun x l S => itR .enum x S) eH ok lr h fun w1 v xs e1 ok1 lr1 r1 h1 => ?_
  cases q : items .enum xs with
  | none => unfold itR at h1; rw [q] at h1; exact h1.elim
  | some ps =>
    unfold itR at h1; rw [q] at h1
    unfold items at q
    split at q <;> rename_i e <;> (try cases e) <;> (try (cases q; done))
    · cases q
      obtain ⟨v0, r, rfl, rv, rr⟩ := Rvs.uncons r1
      cases rr
      cases rv with
      | lst s1 n1 a1 => exact ⟨_, _, rfl, .inl ⟨SqL.of s1, h1 w1 (Ite X.K _) rfl Ext.refl ok1 (j_enumL s1 n1 a1)⟩⟩
    · cases q
      obtain ⟨v0, r, rfl, rv, rr⟩ := Rvs.uncons r1
      cases rr
      cases rv with
      | tup s1 n1 a1 => exact ⟨_, _, rfl, .inr ⟨s1.sq, h1 w1 (IteT X.K _) rfl Ext.refl ok1 (j_enumT s1 n1 a1)⟩⟩
theorem i_zip {g : L → Sto → R (List W)} {p tpos : Pos} {elts : List Expr} {kk : Nat} (hg : Gl X "zip") (hm : X.mg "zip" = none) (ha : PA X [a, b] (tA X.K E g)) (hs : starEach [a, b] X.env = (false, eval a X.env) :: starEach [b] X.env) (hpl : (backTo pos (starEach [b] X.env)).any (·.1) = false) :
    PI X (.Tuple elts kk tpos) (.Call (.Name "zip" p) [a, b] [] pos) (tI X.K E fun l S => (g l S).bind fun ws S => itR .zip ws S) := by
  refine PI.imp' (Mz.pi_zipB hg hm ha hs hpl) fun σ H Q ⟨w, l, eH, ok, lr, h⟩ => ?_
  refine tA.bind (RV2 := JOk X.K) (g := fun x l S => itR .zip x S) eH ok lr h fun w1 v xs e1 ok1 lr1 r1 h1 => ?_
  cases q : items .zip xs with
  | none => unfold itR at h1; rw [q] at h1; exact h1.elim
  | some ps =>
    unfold itR at h1; rw [q] at h1
    unfold items at q
    split at q <;> rename_i e <;> (try cases e) <;> (try (cases q; done))
    · cases q
      obtain ⟨v0, r, rfl, rv, rr⟩ := Rvs.uncons r1
      obtain ⟨v1, r, rfl, rv1, rr⟩ := Rvs.uncons rr
      cases rr
      cases rv with
      | lst s1 n1 a1 =>
        cases rv1 with
        | lst s2 n2 a2 => exact ⟨_, _, _, _, rfl, .inl ⟨SqL.of s1, SqL.of s2, h1 w1 (Itz X.K _ _) rfl Ext.refl ok1 (j_zipL s1 n1 a1 s2 n2 a2)⟩⟩
    · cases q
      obtain ⟨v0, r, rfl, rv, rr⟩ := Rvs.uncons r1
      obtain ⟨v1, r, rfl, rv1, rr⟩ := Rvs.uncons rr
      cases rr
      cases rv with
      | tup s1 n1 a1 =>
        cases rv1 with
        | tup s2 n2 a2 => exact ⟨_, _, _, _, rfl, .inr (.inl ⟨s1.sq, s2.sq, h1 w1 (RZ.ItzT X.K _ _) rfl Ext.refl ok1 (j_zipT s1 n1 a1 s2 n2 a2)⟩)⟩
    · cases q
      obtain ⟨v0, r, rfl, rv, rr⟩ := Rvs.uncons r1
      obtain ⟨v1, r, rfl, rv1, rr⟩ := Rvs.uncons rr
      cases rr
      cases rv with
      | lst s1 n1 a1 =>
        cases rv1 with
        | tup s2 n2 a2 => exact ⟨_, _, _, _, rfl, .inr (.inr ⟨SqL.of s1, s2.sq, h1 w1 (Mz.ItzM X.K _ _) rfl Ext.refl ok1 (j_zipM s1 n1 a1 s2 n2 a2)⟩)⟩

/-! ### for, while -/
theorem s_for {it : Expr} {body : List Stmt} {f : L → Sto → R (List P)} {g : W → L → Sto → R L} {h : L → Sto → SR} (hs : ∀ x, foldedSetIterable it X.env x = pure x) (hp : PassesOwn (model X.prog X.w) X.A X.env X.xe) (hc : X.calm = true) (hi : PI X tg it (tI X.K E f)) (hg : PG X tg (tG X.K g)) (hb : PSs X body (tS X.K E h)) :
    PS X (.For tg it body [] pos) (tS X.K E fun l S => SR.thenR (f l S) l fun xs S => forGo (fun x l S => SR.thenR (g (.pv x) l S).calm l fun l1 S => h l1 S) xs l S) := by
  refine PS.imp' (ps_for hp hc hi hg hb (hs := hs)) fun D σ H ⟨w, l, eH, ok, lr, h0⟩ => ?_
  refine ⟨w, l, eH, ok, lr, (h0.thenR (RV := JOk X.K) lr).imp fun w' J x S _ _ _ _ _ q => ?_⟩
  obtain ⟨w1, ps, eH1, e1, ok1, jok, h1⟩ := q
  rw [← eH1]
  generalize hturn : (fun (x : P) (l : L) (S : Sto) => SR.thenR (g (.pv x) l S).calm l fun l1 S => h l1 S) = turn at h1
  refine ⟨fun i m σ H => ∃ (w : Wd) (l : L), w.H = H ∧ Ext X.K w1 w ∧ Ok X.K w ∧ Lr X.K w σ l ∧ m = ps.length - i ∧ i ≤ ps.length ∧ AfterS X.K E (forGo turn (ps.drop i) l w.S) w D, ⟨ps.length, w1, l, rfl, Ext.refl, ok1, lr.ext e1, rfl, Nat.zero_le _, h1⟩, ?_⟩
  rintro i m σ H ⟨w2, l2, rfl, e2, ok2, lr2, rfl, hle, h2⟩
  obtain ⟨j1, j2⟩ := jok.1 w2 i e2.pres ok2
  cases hi' : ps[i]? with
  | none =>
    have hlen : i = ps.length := by
      have := List.getElem?_eq_none_iff.mp hi'
      omega
    rw [List.drop_eq_nil_of_le (by omega)] at h2
    exact .inl ⟨j2 hlen, h2 w2 σ rfl Ext.refl ok2 lr2⟩
  | some p =>
    obtain ⟨hlt, hget⟩ := List.getElem?_eq_some_iff.mp hi'
    obtain ⟨jg, jy⟩ := j1 p hi'
    have hd : ps.drop i = p :: ps.drop (i + 1) := by rw [List.drop_eq_getElem_cons hlt, hget]
    rw [hd] at h2
    refine .inr ⟨jg, fun σ' H' => ∃ (w : Wd) (l : L), w.H = H' ∧ Ext X.K w1 w ∧ Ok X.K w ∧ Lr X.K w σ' l ∧ AfterS X.K E (forGo turn (ps.drop (i + 1)) l w.S) w D, fun σ' H' ⟨w3, l3, a1, a2, a3, a4, a5⟩ => ⟨ps.length - (i + 1), by omega, w3, l3, a1, a2, a3, a4, rfl, by omega, a5⟩, fun x H' hy => ?_⟩
    obtain ⟨w3, rfl, eS3, e3, ok3, rp⟩ := jy x H' hy
    refine ⟨w3, l2, .pv p, rfl, ok3, lr2.ext e3, rp, ?_⟩
    have h2 : AfterS X.K E (match turn p l2 w2.S with
      | .nx l1 S1 => forGo turn (ps.drop (i + 1)) l1 S1
      | .ct l1 S1 => forGo turn (ps.drop (i + 1)) l1 S1
      | .bk l1 S1 => .nx l1 S1
      | .rt p S1 => .rt p S1
      | .err x l1 S1 => .err x l1 S1
      | .stuck => .stuck) w2 D := h2
    rw [← eS3] at h2
    have h3 := h2.mono e3
    have et : turn p l2 w3.S = SR.thenR (g (.pv p) l2 w3.S).calm l2 fun l1 S => h l1 S := by rw [← hturn]
    rw [et] at h3
    cases q : g (.pv p) l2 w3.S with
    | err x S => rw [q] at h3; exact h3.elim
    | stuck => rw [q] at h3; exact h3.elim
    | ok l3 S =>
      rw [q] at h3
      intro w4 σ4 b1 b2 b3 b4
      refine ⟨w4, l3, rfl, b3, b4, ?_⟩
      have h3 : AfterS X.K E (match h l3 S with
        | .nx l1 S1 => forGo turn (ps.drop (i + 1)) l1 S1
        | .ct l1 S1 => forGo turn (ps.drop (i + 1)) l1 S1
        | .bk l1 S1 => .nx l1 S1
        | .rt p S1 => .rt p S1
        | .err x l1 S1 => .err x l1 S1
        | .stuck => .stuck) w3 D := h3
      rw [b1]
      have h4 := h3.mono b2
      cases q2 : h l3 S with
      | nx l5 S5 =>
        rw [q2] at h4
        intro w5 σ5 c1 c2 c3 c4
        exact ⟨w5, l5, rfl, ((e2.trans e3).trans b2).trans c2, c3, c4, by rw [c1]; exact AfterS.mono c2 h4⟩
      | ct l5 S5 =>
        rw [q2] at h4
        intro w5 σ5 c1 c2 c3 c4
        exact ⟨w5, l5, rfl, ((e2.trans e3).trans b2).trans c2, c3, c4, by rw [c1]; exact AfterS.mono c2 h4⟩
      | bk l5 S5 => rw [q2] at h4; exact h4
      | rt p5 S5 => rw [q2] at h4; exact h4
      | err x5 l5 S5 => rw [q2] at h4; exact h4
      | stuck => rw [q2] at h4; exact h4
theorem s_while {c : Expr} {body : List Stmt} {f : L → Sto → R Bool} {h : L → Sto → SR} (n : Nat) (hp : PassesOwn (model X.prog X.w) X.A X.env X.xe) (hc : PT X c (tT X.K E f)) (hb : PSs X body (tS X.K E h)) :
    PS X (.While c body [] pos) (tS X.K E fun l S => whileGo f h n l S) := by
  refine PS.imp' (ps_while hp hc hb) fun D σ H ⟨w, l, eH, ok, lr, h0⟩ => ?_
  refine ⟨fun m σ H => ∃ (w : Wd) (l : L), w.H = H ∧ Ok X.K w ∧ Lr X.K w σ l ∧ AfterS X.K E (whileGo f h m l w.S) w D, ⟨n, w, l, eH, ok, lr, h0⟩, ?_⟩
  rintro m σ H ⟨w1, l1, rfl, ok1, lr1, h1⟩
  cases m with
  | zero => exact h1.elim
  | succ m =>
    have h1 : AfterS X.K E (match f l1 w1.S with
      | .ok true S1 => match h l1 S1 with
        | .nx l1 S2 => whileGo f h m l1 S2
        | .ct l1 S2 => whileGo f h m l1 S2
        | .bk l1 S2 => .nx l1 S2
        | .rt p S2 => .rt p S2
        | .err x l1 S2 => .err x l1 S2
        | .stuck => .stuck
      | .ok false S1 => .nx l1 S1
      | .err x S1 => .err x l1 S1
      | .stuck => .stuck) w1 D := h1
    refine ⟨w1, l1, rfl, ok1, lr1, ?_⟩
    cases q : f l1 w1.S with
    | err x S => rw [q] at h1; exact fun w' cls d a b c' e => h1 w' σ cls d a b c' (lr1.ext b) e
    | stuck => rw [q] at h1; exact h1
    | ok k S =>
      rw [q] at h1
      intro w2 k' a1 a2 a3 a4
      cases (show k' = k from a4)
      cases k with
      | false => exact h1 w2 σ a1 a2 a3 (lr1.ext a2)
      | true =>
        refine ⟨fun σ' H' => ∃ (w : Wd) (l : L), w.H = H' ∧ Ok X.K w ∧ Lr X.K w σ' l ∧ AfterS X.K E (whileGo f h m l w.S) w D, fun σ' H' z => ⟨m, Nat.lt_succ_self _, z⟩, w2, l1, rfl, a3, lr1.ext a2, ?_⟩
        have h2 : AfterS X.K E (match h l1 S with
          | .nx l1 S2 => whileGo f h m l1 S2
          | .ct l1 S2 => whileGo f h m l1 S2
          | .bk l1 S2 => .nx l1 S2
          | .rt p S2 => .rt p S2
          | .err x l1 S2 => .err x l1 S2
          | .stuck => .stuck) w1 D := h1
        have h3 := h2.mono a2
        rw [a1]
        cases q2 : h l1 S with
        | nx l5 S5 =>
          rw [q2] at h3
          intro w5 σ5 c1 c2 c3 c4
          exact ⟨w5, l5, rfl, c3, c4, by rw [c1]; exact AfterS.mono c2 h3⟩
        | ct l5 S5 =>
          rw [q2] at h3
          intro w5 σ5 c1 c2 c3 c4
          exact ⟨w5, l5, rfl, c3, c4, by rw [c1]; exact AfterS.mono c2 h3⟩
        | bk l5 S5 => rw [q2] at h3; exact h3
        | rt p5 S5 => rw [q2] at h3; exact h3
        | err x5 l5 S5 => rw [q2] at h3; exact h3
        | stuck => rw [q2] at h3; exact h3
end
end Mi
set_option Elab.async false
set_option linter.all false
set_option maxRecDepth 100000
set_option autoImplicit false
/-! Mi: list comprehensions. -/
namespace Mi
open PySem PySem.Spec L2
theorem PI_lens {X : Cx} {tg e : Expr} {t : TI} (h : PI X tg e t) : PI X tg e fun σ H R => t σ H fun J H1 => LenOk X.K H1 → R J H1 :=
  ⟨fun pins s σ H R I q => thn (h.run pins s σ H _ I q) fun v s1 h1 => thn h1 fun u s2 ⟨it, fp, tn, J, H2, e, I2, T, st2, f2, q2⟩ => ⟨it, fp, tn, J, H2, e, I2, T, st2, f2, q2 (Mi.lens I2)⟩⟩

/-! ### the new list is another's while it is filled -/
section
variable {K : PySem.W.Frag} {w w' : Wd} {D : Addr}
def Wd.plus (w : Wd) (D : Addr) (u : HO) : Wd := ⟨upd w.H D u, w.μ, w.S, fun a => w.F a ∨ a = D⟩
def Wd.out (w : Wd) (F : Addr → Prop) : Wd := ⟨w.H, w.μ, w.S, F⟩
theorem plus_pres (o : Ok K w) (h : w.H D = none) (u : HO) : Pres w (w.plus D u) := by
  refine ⟨fun a x h1 _ => ?_, fun a ⟨x, h1⟩ n z => ?_⟩
  · show upd w.H D u a = _
    rw [upd_ne (ne_of_none h1 h)]; exact h1
  · have hne := ne_of_none h1 h
    rcases z with z | z | z
    · exact n (.inl z)
    · exact n (.inr z)
    · exact hne z
theorem Pres.rv (e : Pres w w') (pre : ∀ (n : Nat) (a : Addr), w.μ[n]? = some a → w'.μ[n]? = some a) {v : V} {x : W} (h : Rv K w v x) : Rv K w' v x := by
  cases x with
  | pv p => exact e.rp h
  | rf n => obtain ⟨a, h1, h2⟩ := h; exact ⟨a, pre n a h1, h2⟩
  | sc ns => obtain ⟨a, h1, h2⟩ := h; exact ⟨a, h1, SqLB.keep e.keep e.held h2⟩
theorem Pres.ro (e : Pres w w') (pre : ∀ (n : Nat) (a : Addr), w.μ[n]? = some a → w'.μ[n]? = some a) {a : Addr} {x : O} (ha : x ≠ .dead → ∀ o, w.H a = some o → w'.H a = some o) (h : Ro K w a x) : Ro K w' a x := by
  cases x with
  | lst ws => obtain ⟨vs, e1, r⟩ := h; exact ⟨vs, ha (by intro z; cases z) _ e1, Paired.imp (fun _ _ => e.rv pre) r⟩
  | dct kvs => obtain ⟨vs, e1, r⟩ := h; exact ⟨vs, ha (by intro z; cases z) _ e1, Paired.imp (fun _ _ z => ⟨z.1, e.rv pre z.2⟩) r⟩
  | dead => trivial
theorem Pres.lr (e : Pres w w') (pre : ∀ (n : Nat) (a : Addr), w.μ[n]? = some a → w'.μ[n]? = some a) {σ : L2.St} {l : L} (h : Lr K w σ l) : Lr K w' σ l := ⟨h.len, fun i x q => let ⟨v, a, b⟩ := h.get i x q; ⟨v, a, e.rv pre b⟩⟩
theorem plus_ok (o : Ok K w) (h : w.H D = none) (u : HO) : Ok K (w.plus D u) := by
  refine ⟨o.len, o.inj, fun n a x h1 h2 => ?_, fun a h1 => ?_, fun a h1 h2 => ?_⟩
  · refine (plus_pres o h u).ro (fun _ _ z => z) (fun _ y hy => ?_) (o.obj n a x h1 h2)
    show upd w.H D u a = _
    rw [upd_ne (ne_of_none hy h)]; exact hy
  · rcases h1 with h1 | rfl
    · exact frm_upd o a h1
    · exact ⟨u, upd_same⟩
  · rcases h2 with h2 | rfl
    · exact o.dis a h1 h2
    · exact o.nlv h (.inl h1)
/-- the new list is written -/
theorem dset_pres (hD : w.F D) (u : HO) : Pres w ⟨upd w.H D u, w.μ, w.S, w.F⟩ := by
  refine ⟨fun a x h1 n => ?_, fun a _ n => n⟩
  have hne : a ≠ D := fun z => n (.inr (z ▸ hD))
  show upd w.H D u a = _
  rw [upd_ne hne]; exact h1
theorem dset_ok (o : Ok K w) (hD : w.F D) (u : HO) : Ok K ⟨upd w.H D u, w.μ, w.S, w.F⟩ := by
  refine ⟨o.len, o.inj, fun n a x h1 h2 => ?_, frm_upd o, o.dis⟩
  refine (dset_pres hD u).ro (fun _ _ z => z) (fun hd y hy => ?_) (o.obj n a x h1 h2)
  have hne : a ≠ D := fun z => o.dis a ⟨n, x, h1, h2, hd⟩ (z ▸ hD)
  show upd w.H D u a = _
  rw [upd_ne hne]; exact hy
/-- out of it -/
theorem out_pres {F : Addr → Prop} (h : ∀ a, F a → w.F a) : Pres w (w.out F) := ⟨fun _ _ z _ => z, fun a _ n z => n (z.imp (fun z => z) (h a))⟩
theorem out_ok {F : Addr → Prop} (o : Ok K w) (h : ∀ a, F a → w.F a) : Ok K (w.out F) :=
  ⟨o.len, o.inj, fun n a x h1 h2 => (out_pres h).ro (fun _ _ z => z) (fun _ _ z => z) (o.obj n a x h1 h2), fun a z => o.frm a (h a z), fun a h1 z => o.dis a h1 (h a z)⟩
theorem out_ext {F : Addr → Prop} (e : Ext K w w') : Ext K (w.out F) (w'.out F) := ⟨e.keep, e.new, rfl, e.pre⟩
end

/-! ### a clause's target: the block's own names -/
def tGw (K : PySem.W.Frag) (vs : List Nat) (f : W → L → Sto → R L) : TG := fun v σ H Q => tG K f v σ H fun σ' H' => L2.wipe σ' vs = L2.wipe σ vs → Q σ' H'
def tGsw (K : PySem.W.Frag) (vs : List Nat) (f : List W → L → Sto → R L) : TGs := fun v σ H Q => tGs K f v σ H fun σ' H' => L2.wipe σ' vs = L2.wipe σ vs → Q σ' H'
theorem wipe_comm (σ : L2.St) (x : Option V) : ∀ (vs : List Nat) (i : Nat), L2.wipe (σ.set i x) vs = if i ∈ vs then L2.wipe σ vs else (L2.wipe σ vs).set i x
  | [], i => rfl
  | v :: vs, i => by
    unfold L2.wipe
    rw [wipe_comm σ x vs i]
    by_cases h : i ∈ vs
    · rw [if_pos h, if_pos (List.mem_cons_of_mem _ h)]
    · rw [if_neg h]
      by_cases e : i = v
      · subst e
        rw [if_pos List.mem_cons_self, List.set_set]
      · rw [if_neg (by simp [h, e]), List.set_comm _ _ e]
theorem wipe_set {σ : L2.St} {x : Option V} {vs : List Nat} {i : Nat} (h : i ∈ vs) : L2.wipe (σ.set i x) vs = L2.wipe σ vs := by rw [wipe_comm, if_pos h]
theorem wipe_idem (σ : L2.St) : ∀ vs : List Nat, L2.wipe (L2.wipe σ vs) vs = L2.wipe σ vs
  | [] => rfl
  | v :: vs => by
    show (L2.wipe ((L2.wipe σ vs).set v none) vs).set v none = (L2.wipe σ vs).set v none
    rw [wipe_comm]
    split
    · rw [wipe_idem σ vs]
    · rw [wipe_idem σ vs, List.set_set]
section
variable {X : Cx} {E : WX} {pos : Pos} {vs : List Nat}
theorem gw_name {i : Nat} {x : Str} (hN : X.N.Nodup) (hi : X.N[i]? = some x) (hx : Loc X.env.scope x) (hf : X.fn x = true ∨ X.env.scope.names.lookup x = some .local) (hv : i ∈ vs) : PG X (.Name x pos) (tGw X.K vs fun w l S => .ok (l.set i (some w)) S) := by
  refine PG.imp' (pg_name hN hi hx hf) fun v σ H Q ⟨w, l, x, eH, ok, lr, r, h⟩ => ?_
  have := h w (σ.set i (some v)) rfl Ext.refl ok (lr.set r i) (wipe_set hv)
  rw [eH] at this
  exact this
theorem gw_nil : PGs X [] (tGsw X.K vs fun ws l S => match ws with
    | [] => .ok l S
    | _ => .stuck) := by
  refine PGs.imp' pgs_nil fun v σ H Q ⟨w, l, xs, eH, ok, lr, r, h⟩ => ?_
  cases r with
  | nil =>
    have := h w σ rfl Ext.refl ok lr rfl
    rw [eH] at this
    exact ⟨rfl, this⟩
  | cons _ _ => exact h.elim
theorem gw_cons {e : Expr} {es : List Expr} {f : W → L → Sto → R L} {g : List W → L → Sto → R L} (h1 : PG X e (tGw X.K vs f)) (h2 : PGs X es (tGsw X.K vs g)) (hs : (assignEach (e :: es) X.env).map (·.2) = assign e X.env :: (assignEach es X.env).map (·.2)) :
    PGs X (e :: es) (tGsw X.K vs fun ws l S => match ws with
      | w :: ws => (f w l S).bind fun l1 S => g ws l1 S
      | [] => .stuck) := by
  refine PGs.imp' (pgs_cons h1 h2 hs) fun v σ H Q ⟨w, l, xs, eH, ok, lr, r, h⟩ => ?_
  cases xs with
  | nil => exact h.elim
  | cons x1 ws =>
    obtain ⟨v1, vs', rfl, r1, r2⟩ := Rvs.uncons r
    refine ⟨v1, vs', rfl, w, l, x1, eH, ok, lr, r1, ?_⟩
    have h : AfterG X.K ((f x1 l w.S).bind fun l1 S => g ws l1 S) w _ := h
    cases q : f x1 l w.S with
    | ok l1 S =>
      rw [q] at h
      intro w' σ' a b c d hw
      refine ⟨w', l1, ws, rfl, c, d, Rvs.ext b r2, ?_⟩
      rw [a]
      have h3 := AfterG.mono b h
      have h3 : AfterG X.K (g ws l1 S) w' _ := h3
      cases q2 : g ws l1 S with
      | ok l2 S2 => rw [q2] at h3; exact fun w2 σ2 a2 b2 c2 d2 hw2 => h3 w2 σ2 a2 b2 c2 d2 (hw2.trans hw)
      | err x S => rw [q2] at h3; exact h3.elim
      | stuck => rw [q2] at h3; exact h3.elim
    | err x S => rw [q] at h; exact h.elim
    | stuck => rw [q] at h; exact h.elim
theorem gw_tup {es : List Expr} {k n : Nat} {g : List W → L → Sto → R L} (hc : X.calm = true) (h : PGs X es (tGsw X.K vs g)) (hn : (assignEach es X.env).length = n) (hst : (assignEach es X.env).findIdx? (·.1) = none) :
    PG X (.Tuple es k pos) (tGw X.K vs fun w l S => match Mi.unpack n w with
      | some ws => g ws l S
      | none => .stuck) := by
  refine PG.imp' (pg_tup hc h hn hst) fun v σ H Q ⟨w, l, x, eH, ok, lr, r, h⟩ => ?_
  dsimp only at h
  cases q : Mi.unpack n x with
  | none => rw [q] at h; exact h.elim
  | some ws =>
    rw [q] at h
    unfold Mi.unpack at q
    split at q
    · rename_i ps
      split at q
      · rename_i hl
        cases q
        cases r with
        | tup s1 n1 a1 => exact ⟨_, _, rfl, by rw [← eH]; exact s1.sq, a1.length.trans hl, w, l, _, eH, ok, lr, a1.rvs, h⟩
      · cases q
    · cases q
/-- no exception leaves the block -/
abbrev E0 : WX := fun _ _ _ _ => False
theorem After.calm {α β : Type} {K : PySem.W.Frag} {RV : Wd → β → α → Prop} {r : R α} {w : Wd} {σ σ' : L2.St} {Q : β → Hp → Prop} (h : After K E RV r.calm w σ Q) : After K E0 RV r w σ' Q := by
  cases r with
  | ok a S => exact h
  | err x S => exact h.elim
  | stuck => exact h
/-- what a turn gives -/
def lcTurn (g : W → L → Sto → R L) (ft : L → Sto → R Bool) (fe : L → Sto → R W) (l : L) : P → Sto → R (Option P) := fun x S => ((g (.pv x) l S).bind fun l1 S => (ft l1 S).bind fun k S =>
  if k then (fe l1 S).bind fun y S => match y with
    | .pv p => .ok (some p) S
    | _ => .stuck
  else .ok none S).calm
theorem lc_read {K : PySem.W.Frag} {f : L → Sto → R (List P)} {g : W → L → Sto → R L} {ft : L → Sto → R Bool} {fe : L → Sto → R W} (vs : List Nat) {σ : L2.St} {H : Hp} {Q : VK}
    (h : tE K E (fun l S => (f l S).bind fun ps S => (lcGo (lcTurn g ft fe (wipe l vs)) ps S).bind fun ys S => .ok (.pv (.list ys)) S) σ H Q) :
    tLc (fun σ H R => tI K E f σ H fun J H1 => LenOk K H1 → R J H1) (tGw K vs g) (tT K E0 ft) (tE K E0 fe) vs σ H Q := by
  obtain ⟨w, l, eH, ok, lr, h0⟩ := h
  refine ⟨w, l, eH, ok, lr, (h0.bind (JOk K)).imp fun w' J x S _ _ _ _ _ q => ?_⟩
  obtain ⟨w1, ps, eH1, e1, ok1, jok, h1⟩ := q
  rw [← eH1]
  intro hlen D hD
  have hps := jok.2 hlen
  generalize hturn : lcTurn g ft fe (wipe l vs) = turn at h1
  have lr1 := lr.ext e1
  have F1 : ∀ a, w1.F a → (w1.plus D (.lst [])).F a := fun a z => .inl z
  have nD : ¬ w1.F D := fun z => by obtain ⟨o, z⟩ := ok1.frm D z; rw [hD] at z; cases z
  refine ⟨fun i m H => ∃ (wi : Wd) (acc : List V) (qs : List P), wi.H = H ∧ wi.F = (w1.plus D (.lst [])).F ∧ Ok K wi ∧ H D = some (.lst acc) ∧ RpAll K wi.H wi.Lv acc qs ∧ acc.length ≤ i ∧ m = ps.length - i ∧ i ≤ ps.length ∧
    Pres w1 wi ∧ Ext K w1 (wi.out w1.F) ∧ Lr K wi (L2.wipe σ vs) (Mi.wipe l vs) ∧ After K E (Rv K) ((lcGo turn (ps.drop i) wi.S).bind fun ys S => .ok (.pv (.list (qs ++ ys))) S) w1 σ Q, ?_, ?_⟩
  · refine ⟨ps.length, w1.plus D (.lst []), [], [], rfl, rfl, plus_ok ok1 hD _, upd_same, .nil, Nat.le_refl _, rfl, Nat.zero_le _, plus_pres ok1 hD _, ?_, (plus_pres ok1 hD _).lr (fun _ _ z => z) (lr1.wipe vs), ?_⟩
    · exact (laid ok1 hD (.lst [])).1
    · have h2 : After K E (Rv K) ((lcGo turn (ps.drop 0) w1.S).bind fun ys S => .ok (.pv (.list ([] ++ ys))) S) w1 σ Q := h1
      exact h2
  rintro i m H ⟨wi, acc, qs, rfl, hF, oki, hacc, racc, hai, rfl, hle, pri, exi, lri, h2⟩
  have Fi : ∀ a, w1.F a → wi.F a := fun a z => by rw [hF]; exact F1 a z
  have FD : wi.F D := by rw [hF]; exact .inr rfl
  obtain ⟨j1, j2⟩ := jok.1 wi i pri oki
  cases hi' : ps[i]? with
  | none =>
    have hl : i = ps.length := by
      have := List.getElem?_eq_none_iff.mp hi'
      omega
    refine .inl ⟨j2 hl, ?_⟩
    rw [List.drop_eq_nil_of_le (by omega)] at h2
    have h3 : After K E (Rv K) (.ok (.pv (.list (qs ++ []))) wi.S) w1 σ Q := h2
    rw [List.append_nil] at h3
    refine h3 (wi.out w1.F) (.ref D) rfl exi (out_ok oki Fi) ?_
    exact Rp.lst hacc (fun z => z.elim (fun z => oki.dis D z FD) nD) ((out_pres Fi).rpa racc)
  | some p =>
    obtain ⟨hlt, hget⟩ := List.getElem?_eq_some_iff.mp hi'
    obtain ⟨jg, jy⟩ := j1 p hi'
    have hd : ps.drop i = p :: ps.drop (i + 1) := by rw [List.drop_eq_getElem_cons hlt, hget]
    rw [hd] at h2
    have h2 : After K E (Rv K) (((turn p wi.S).bind fun o S1 => (lcGo turn (ps.drop (i + 1)) S1).bind fun ys S2 => match o with
      | some y => .ok (y :: ys) S2
      | none => .ok ys S2).bind fun ys S => .ok (.pv (.list (qs ++ ys))) S) w1 σ Q := h2
    refine .inr ⟨jg, fun H' => ∃ (wi : Wd) (acc : List V) (qs : List P), wi.H = H' ∧ wi.F = (w1.plus D (.lst [])).F ∧ Ok K wi ∧ H' D = some (.lst acc) ∧ RpAll K wi.H wi.Lv acc qs ∧ acc.length ≤ i + 1 ∧
      Pres w1 wi ∧ Ext K w1 (wi.out w1.F) ∧ Lr K wi (L2.wipe σ vs) (Mi.wipe l vs) ∧ After K E (Rv K) ((lcGo turn (ps.drop (i + 1)) wi.S).bind fun ys S => .ok (.pv (.list (qs ++ ys))) S) w1 σ Q,
      fun H' ⟨w3, a3, q3, b1, b2, b3, b4, b5, b6, b7, b8, b9, b10⟩ => ⟨ps.length - (i + 1), by omega, w3, a3, q3, b1, b2, b3, b4, b5, b6, rfl, hlt, b7, b8, b9, b10⟩, fun x H' hy => ?_⟩
    obtain ⟨w3, rfl, eS3, e3, ok3, rp⟩ := jy x H' hy
    have hacc3 : w3.H D = some (.lst acc) := by
      refine e3.keep D _ hacc fun z => oki.dis D z FD
    have lr3 : Lr K w3 (L2.wipe σ vs) (Mi.wipe l vs) := lri.ext e3
    have racc3 := RpAll.ext e3 racc
    rw [← eS3] at h2
    have key : turn p w3.S = ((g (.pv p) (Mi.wipe l vs) w3.S).bind fun l1 S => (ft l1 S).bind fun k S =>
      if k then (fe l1 S).bind fun y S => match y with
        | .pv p => .ok (some p) S
        | _ => .stuck
      else .ok none S).calm := by rw [← hturn]; rfl
    refine ⟨w3, Mi.wipe l vs, .pv p, rfl, ok3, lr3, rp, ?_⟩
    cases q1 : g (.pv p) (Mi.wipe l vs) w3.S with
    | err x S => rw [key, q1] at h2; exact h2.elim
    | stuck => rw [key, q1] at h2; exact h2.elim
    | ok l4 S4 =>
      rw [q1] at key
      have key : turn p w3.S = ((ft l4 S4).bind fun k S =>
        if k then (fe l4 S).bind fun y S => match y with
          | .pv p => .ok (some p) S
          | _ => .stuck
        else .ok none S).calm := key
      intro w4 σ4 a1 a2 a3 a4 hw4
      refine ⟨hw4.trans (wipe_idem _ _), w4, l4, rfl, a3, a4, ?_⟩
      rw [a1]
      cases q2 : ft l4 S4 with
      | err x S => rw [key, q2] at h2; exact h2.elim
      | stuck => rw [key, q2] at h2; exact h2.elim
      | ok k S5 =>
        rw [q2] at key
        intro w5 k' c1 c2 c3 c4
        cases (show k' = k from c4)
        have e5 := (e3.trans a2).trans c2
        have hacc5 : w5.H D = some (.lst acc) := (a2.trans c2).keep D _ hacc3 fun z => ok3.dis D z (by rw [e3.frm]; exact FD)
        have F5 : w5.F = (w1.plus D (.lst [])).F := by rw [e5.frm, hF]
        cases k with
        | false =>
          have key : turn p w3.S = .ok none S5 := key
          rw [key] at h2
          have h2 : After K E (Rv K) (((lcGo turn (ps.drop (i + 1)) S5).bind fun ys S2 => .ok ys S2).bind fun ys S => .ok (.pv (.list (qs ++ ys))) S) w1 σ Q := h2
          refine ⟨w5, acc, qs, rfl, F5, c3, hacc5, RpAll.ext e5 racc, by omega, pri.trans e5.pres, exi.trans (out_ext e5), lri.ext e5, ?_⟩
          rw [c1]
          have h3 := h2
          cases q4 : lcGo turn (ps.drop (i + 1)) S5 with
          | ok ys S6 => rw [q4] at h3; exact h3
          | err x S => rw [q4] at h3; exact h3
          | stuck => rw [q4] at h3; exact h3.elim
        | true =>
          have key : turn p w3.S = ((fe l4 S5).bind fun y S => match y with
            | .pv p => .ok (some p) S
            | _ => .stuck).calm := key
          rw [if_pos rfl]
          refine ⟨w5, l4, rfl, c3, a4.ext c2, ?_⟩
          rw [c1]
          cases q3 : fe l4 S5 with
          | err x S => rw [key, q3] at h2; exact h2.elim
          | stuck => rw [key, q3] at h2; exact h2.elim
          | ok y S6 =>
            rw [q3] at key
            cases y with
            | rf _ => rw [key] at h2; exact h2.elim
            | sc _ => rw [key] at h2; exact h2.elim
            | pv y =>
            have key : turn p w3.S = .ok (some y) S6 := key
            rw [key] at h2
            have h2 : After K E (Rv K) (((lcGo turn (ps.drop (i + 1)) S6).bind fun ys S2 => .ok (y :: ys) S2).bind fun ys S => .ok (.pv (.list (qs ++ ys))) S) w1 σ Q := h2
            intro w6 v6 d1 d2 d3 d4
            have e6 := e5.trans d2
            have F6 : w6.F = (w1.plus D (.lst [])).F := by rw [e6.frm, hF]
            have hD6 : w6.F D := by rw [F6]; exact .inr rfl
            have hacc6 : w6.H D = some (.lst acc) := d2.keep D _ hacc5 fun z => c3.dis D z (by rw [F5]; exact .inr rfl)
            have eo : Ext K w1 ((⟨upd w6.H D (.lst (acc ++ [v6])), w6.μ, w6.S, w6.F⟩ : Wd).out w1.F) := by
              have z0 := exi.trans (out_ext (F := w1.F) e6)
              refine ⟨fun a o z n => ?_, z0.new, rfl, z0.pre⟩
              show upd w6.H D _ a = _
              rw [upd_ne (ne_of_none z hD)]
              exact z0.keep a o z n
            refine ⟨acc, hacc6, by omega, ⟨upd w6.H D (.lst (acc ++ [v6])), w6.μ, w6.S, w6.F⟩, acc ++ [v6], qs ++ [y], rfl, F6, dset_ok d3 hD6 _, upd_same, (dset_pres hD6 _).rpa ((RpAll.ext e6 racc).append (.cons d4 .nil)), by rw [List.length_append]; simp; omega,
              (pri.trans e6.pres).trans (dset_pres hD6 _), eo, (dset_pres hD6 _).lr (fun _ _ z => z) (lri.ext e6), ?_⟩
            show After K E (Rv K) ((lcGo turn (ps.drop (i + 1)) w6.S).bind fun ys S => .ok (.pv (.list (qs ++ [y] ++ ys))) S) w1 σ Q
            rw [d1]
            cases q4 : lcGo turn (ps.drop (i + 1)) S6 with
            | ok ys S7 =>
              rw [q4] at h2
              show After K E (Rv K) (.ok (.pv (.list (qs ++ [y] ++ ys))) S7) w1 σ Q
              rw [List.append_assoc]
              exact h2
            | err x S => rw [q4] at h2; exact h2
            | stuck => rw [q4] at h2; exact h2.elim
theorem s_lc {elt tg iter : Expr} {ifs : List Expr} {scope : Scope} {own : List (Str × Nat)} {f : L → Sto → R (List P)} {g : W → L → Sto → R L} {ft : L → Sto → R Bool} {fe : L → Sto → R W} {vs : List Nat} (hvs : own.map (·.2) = vs)
    (hc : X.calm = true) (hN : X.N.Nodup) (hi : PI X tg iter (tI X.K E f)) (ok : BlkOk X.N X.env.scope scope own)
    (hg : ∀ (s : Shared) (H : Hp) (C : Addr) (cl : List (Str × Addr)) (fp : List Addr), PG (X.blk s H scope (compEnvC scope cl C X.env) fp) tg (tGw X.K vs g)) (ht : ∀ (s : Shared) (H : Hp) (C : Addr) (cl : List (Str × Addr)) (fp : List Addr), PTs (X.blk s H scope (compEnvC scope cl C X.env) fp) ifs (tT X.K E0 ft))
    (he : ∀ (s : Shared) (H : Hp) (C : Addr) (cl : List (Str × Addr)) (fp : List Addr), PE (X.blk s H scope (compEnvC scope cl C X.env) fp) elt (tE X.K E0 fe)) (hs : ∀ x, foldedSetIterable iter X.env x = pure x) :
    PE X (.ListComp elt [⟨tg, iter, ifs, 0⟩] scope pos) (tE X.K E fun l S => (f l S).bind fun ps S => (lcGo (lcTurn g ft fe (wipe l vs)) ps S).bind fun ys S => .ok (.pv (.list ys)) S) := by
  subst hvs
  exact PE.imp' (pe_lc hc hN (PI_lens hi) ok hg ht he hs) fun σ H Q h => lc_read _ h
/-- name = [..] on one line -/
theorem s_setLc {i : Nat} {y : Str} {py spos : Pos} {elt tg iter : Expr} {ifs : List Expr} {scope : Scope} {own : List (Str × Nat)} {f : L → Sto → R (List P)} {g : W → L → Sto → R L} {ft : L → Sto → R Bool} {fe : L → Sto → R W} {vs : List Nat} (hvs : own.map (·.2) = vs)
    (hc : X.calm = true) (hN : X.N.Nodup) (hy : X.N[i]? = some y) (hyl : X.env.scope.names.lookup y = some .local)
    (hsw : swapsWith (.ListComp elt [⟨tg, iter, ifs, 0⟩] scope pos) (some (.Name y py)) spos.line X.env = pure true) (hi : PI X tg iter (tI X.K E f)) (ok : BlkOk X.N X.env.scope scope own)
    (hg : ∀ (s : Shared) (H : Hp) (C : Addr) (cl : List (Str × Addr)) (fp : List Addr), PG (X.blk s H scope (compEnvC scope cl C X.env) fp) tg (tGw X.K vs g)) (ht : ∀ (s : Shared) (H : Hp) (C : Addr) (cl : List (Str × Addr)) (fp : List Addr), PTs (X.blk s H scope (compEnvC scope cl C X.env) fp) ifs (tT X.K E0 ft))
    (he : ∀ (s : Shared) (H : Hp) (C : Addr) (cl : List (Str × Addr)) (fp : List Addr), PE (X.blk s H scope (compEnvC scope cl C X.env) fp) elt (tE X.K E0 fe)) (hs : ∀ x, foldedSetIterable iter X.env x = pure x) :
    PS X (.Assign [.Name y py] (.ListComp elt [⟨tg, iter, ifs, 0⟩] scope pos) spos) (tS X.K E fun l S => SR.thenR ((f l S).bind fun ps S => (lcGo (lcTurn g ft fe (wipe l vs)) ps S).bind fun ys S => .ok (.pv (.list ys)) S) l fun w S => SR.thenR (R.calm (.ok (l.set i (some w)) S)) l fun l1 S => .nx l1 S) := by
  subst hvs
  exact s_setT (f := fun l S => (f l S).bind fun ps S => (lcGo (lcTurn g ft fe (wipe l (own.map (·.2)))) ps S).bind fun ys S => .ok (.pv (.list ys)) S) (ps_setLc hc hN hy hyl hsw (PI_lens hi) ok hg ht he hs) fun σ H Q h => lc_read _ h
theorem t_ifs0 {E : WX} : PTs X [] (tT X.K E fun _ S => .ok true S) := ⟨fun pins s σ H Q I ⟨w, l, eH, ok, lr, h⟩ => pts_nil.run pins s σ H Q I (by have := h w true rfl Ext.refl ok rfl; rw [eH] at this; exact this)⟩
theorem t_ifs1 {E : WX} {c : Expr} {f : L → Sto → R Bool} (h : PT X c (tT X.K E f)) : PTs X [c] (tT X.K E fun l S => (f l S).bind fun k S => if k then .ok true S else .ok false S) := by
  refine ⟨fun pins s σ H Q I ⟨w, l, eH, ok, lr, h0⟩ => (pts_one h).run pins s σ H Q I ⟨w, l, eH, ok, lr, ?_⟩⟩
  cases q : f l w.S with
  | ok k S =>
    dsimp only at h0
    rw [q] at h0
    cases k with
    | true => exact h0
    | false => exact h0
  | err x S => dsimp only at h0; rw [q] at h0; exact h0
  | stuck => dsimp only at h0; rw [q] at h0; exact h0
end
end Mi
set_option Elab.async false
set_option linter.all false
set_option maxRecDepth 100000
set_option autoImplicit false
/-! Mi: exceptions of own classes. -/
namespace Mi
open PySem PySem.Spec L2
section
variable {X : Cx} {C : Addr} {bmB : List Value} {B newId initId : String}
/-- an own class of exceptions, called upon nothing -/
theorem pmk_own0 {x : Str} {p pos : Pos} (F : ExcBaseFacts B newId initId bmB) (q : PySem.W.excIn X.K C bmB newId = true) (gC : X.mg x = some (.ref C)) (kC : PySem.W.keepIn X.K (.ref C) = true) (r : Raises X (.ref C)) (hg : Gl X x)
    (hdb : (x == ("__debug__" : Str)) = false) : PMk X (.Call (.Name x p) [] [] pos) (fun _ H Q => Q (.ref C) none H) := fun pins s σ H Q I h => by
  refine wpAny_Call_Name_kw (ld_glob I hg gC ?_ hdb)
  refine PySem.W.callWith_K0 I.kIn kC ?_
  obtain ⟨bm, N, nm, qn, bs, hd, sn, sub, ab, col, dd, k0, k1, k2, k3, k5, mN, hC, hN, hni, T⟩ := exc_obj I.kIn q
  exact wpAny_call_exc_subT F T hC hN hni (fun h' e hm => mk_of I hm r h (I.hok.gone hm.new)) (by show 0 ≤ sizeLine; exact Nat.zero_le _)
/-- raise X() -/
theorem s_raise {E : WX} {x : Str} {p pos pos' : Pos} (hc : X.calm = true) (tk : Takes X E) (c : (He.Fa.exc x).ok X.K = true) (gC : X.mg x = some (.ref (He.ga X.K x))) (hg : Gl X x) (hdb : (x == ("__debug__" : Str)) = false) :
    PS X (.Raise (some (.Call (.Name x p) [] [] pos)) none pos') (tS X.K E fun l S => .err ⟨x, []⟩ l S) := by
  obtain ⟨c1, c2, c3, c4⟩ := He.exc_ok c
  refine PS.imp' (ps_raise hc tk (pmk_own0 (B := "ValueError") (initId := "ValueError.__init__") PySem.F.excBase_ValueError c1 gC c2 (raises_own c3 c4) hg hdb)) fun D σ H ⟨w, l, eH, ok, lr, h⟩ => ?_
  have := h w σ (.ref (He.ga X.K x)) none rfl Ext.refl ok lr ⟨rfl, rfl, rfl⟩
  rw [eH] at this
  exact this
/-- the clauses of a try, by their meanings -/
def handleL (sub : Str → Str → Option Bool) : List (Str × (L → Sto → SR)) → Ex → L → Sto → SR
  | [], x, l, S => .err x l S
  | (y, g) :: r, x, l, S => match sub x.cls y with
    | some true => (g l S).calm
    | some false => handleL sub r x l S
    | none => .stuck
def clauses (K : PySem.W.Frag) (hs : List (Str × (L → Sto → SR))) : List (Value × (Addr → Value → Option Addr → TS)) := hs.map fun p => (.ref (He.ga K p.1), fun _ _ _ => tS K E0 p.2)
theorem AfterS.calmed {K : PySem.W.Frag} {E : WX} {r : SR} {w : Wd} {D : Ends} (h : AfterS K E r.calm w D) : AfterS K E0 r w D := by
  cases r with
  | err x l S => exact h.elim
  | nx l S => exact h
  | rt l S => exact h
  | bk l S => exact h
  | ct l S => exact h
  | stuck => exact h
theorem many_mi {K : PySem.W.Frag} {E : WX} {sub : Str → Str → Option Bool} (hsub : ∀ x y b, sub x y = some b → PySem.W.exmOne K (.ref (He.ga K x)) (.ref (He.ga K y)) = some b) {D : Ends} {x : Ex} {l : L} {S : Sto} {w : Wd} : ∀ (hs : List (Str × (L → Sto → SR))),
    AfterS K E (handleL sub hs x l S) w D → ∀ (w' : Wd) (σ' : L2.St) (cls : Value) (d : Option Addr), w'.S = S → Ext K w w' → Ok K w' → Lr K w' σ' l → Xr K w' cls d x → wMany K E D (clauses K hs) cls d σ' w'.H
  | [], h, w', σ', cls, d, a1, a2, a3, a4, a5 => h w' σ' cls d a1 a2 a3 a4 a5
  | (y, g) :: r, h, w', σ', cls, d, a1, a2, a3, a4, a5 => by
    have h : AfterS K E (match sub x.cls y with
      | some true => (g l S).calm
      | some false => handleL sub r x l S
      | none => .stuck) w D := h
    cases q : sub x.cls y with
    | none => rw [q] at h; exact h.elim
    | some b =>
      rw [q] at h
      refine ⟨b, by rw [a5.1]; exact hsub _ _ _ q, fun hb a _ => ?_, fun hb => ?_⟩
      · subst hb
        exact ⟨w', l, rfl, a3, a4, by rw [a1]; exact AfterS.mono a2 (AfterS.calmed h)⟩
      · subst hb
        exact many_mi hsub r h w' σ' cls d a1 a2 a3 a4 a5
theorem s_try {E : WX} {body : List Stmt} {h₀ : ExceptHandler} {hds : List ExceptHandler} {pos : Pos} {f : L → Sto → SR} {hs : List (Str × (L → Sto → SR))} {sub : Str → Str → Option Bool}
    (hsub : ∀ x y b, sub x y = some b → PySem.W.exmOne X.K (.ref (He.ga X.K x)) (.ref (He.ga X.K y)) = some b) (hst : X.stack = X.env :: X.outer) (hf : X.env.frame = some X.env.locals) (tk : Takes X E)
    (hb : ∀ (W : WX) (pn : List (Addr × Obj)) (xe : Value → Shared → Prop), Takes (X.tr pn xe) W → PassesOwn (model X.prog X.w) X.A X.env xe → PSs (X.tr pn xe) body (tS X.K W f)) (hh : HdsOk X (h₀ :: hds) (clauses X.K hs)) :
    PS X (.Try body (h₀ :: hds) [] [] pos) (tS X.K E fun l S => match f l S with
      | .err x l1 S1 => handleL sub hs x l1 S1
      | r => r) := by
  refine PS.imp' (ps_try_many (tb := fun W => tS X.K W f) hst hf tk hb hh) fun D σ H ⟨w, l, eH, ok, lr, h⟩ => ?_
  refine ⟨w, l, eH, ok, lr, ?_⟩
  dsimp only at h
  cases q : f l w.S with
  | err x l1 S1 =>
    rw [q] at h
    exact fun w' σ' cls d a1 a2 a3 a4 a5 => many_mi hsub hs h w' σ' cls d a1 a2 a3 a4 a5
  | nx l S => rw [q] at h; exact h
  | rt l S => rw [q] at h; exact h
  | bk l S => rw [q] at h; exact h
  | ct l S => rw [q] at h; exact h
  | stuck => rw [q] at h; exact h
theorem hds_nil : HdsOk X [] (clauses X.K []) := .nil
theorem hds_cons {x : Str} {b₀ : Stmt} {suite : List Stmt} {np pos' : Pos} {hds : List ExceptHandler} {g : L → Sto → SR} {r : List (Str × (L → Sto → SR))} (hc : Names X x (.ref (He.ga X.K x)))
    (hsu : ∀ (a : Addr) (pn : List (Addr × Obj)), PSs (X.suite a pn) (b₀ :: suite) (tS X.K E0 g)) (h : HdsOk X hds (clauses X.K r)) :
    HdsOk X (.ExceptHandler (some (.Name x np)) none (b₀ :: suite) pos' :: hds) (clauses X.K ((x, g) :: r)) := .cons hc (fun a oe cls d pn _ _ => hsu a _) h
end
end Mi
set_option Elab.async false
set_option linter.all false
set_option maxRecDepth 100000
set_option autoImplicit false
/-! Mi: a try with several clauses, some with a name. -/
namespace Mi
open PySem PySem.Spec L2 PyProof.Rows
/-- a clause: its class, its name's slot, its suite's reading -/
structure Cla where
  c : Value
  i : Option Nat
  ts : TS
/-- behind a suite the name is gone -/
def goneE (i : Nat) (D : Ends) : Ends := { nx := fun σ H => D.nx (σ.set i none) H, rt := D.rt, bk := fun σ H => D.bk (σ.set i none) H, ct := fun σ H => D.ct (σ.set i none) H }
def Cla.wish (q : Cla) (D : Ends) (a : Addr) : L2.St → Hp → Prop := match q.i with
  | none => q.ts D
  | some i => fun σ H => q.ts (goneE i D) (σ.set i (some (.ref a))) H
def wCl (K : PySem.W.Frag) (U : WX) (D : Ends) : List Cla → WX
  | [] => U
  | q :: r => fun cls d σ H => ∃ b, PySem.W.exmOne K cls q.c = some b ∧ (b = true → ∀ a, H a = none → q.wish D a σ H) ∧ (b = false → wCl K U D r cls d σ H)
/-- the clauses of the text have these readings -/
inductive ClOk (X : Cx) : List ExceptHandler → List Cla → Prop
  | nil : ClOk X [] []
  | plain {x : Str} {c : Value} {ts : TS} {b : Stmt} {bs : List Stmt} {np pos : Pos} {hds : List ExceptHandler} {l : List Cla} (hc : Names X x c) (su : ∀ (a : Addr) (pn : List (Addr × Obj)), PSs (X.suite a pn) (b :: bs) ts) (r : ClOk X hds l) :
      ClOk X (.ExceptHandler (some (.Name x np)) none (b :: bs) pos :: hds) (⟨c, none, ts⟩ :: l)
  | named {x n : Str} {i : Nat} {c : Value} {ts : TS} {b : Stmt} {bs : List Stmt} {np pos : Pos} {hds : List ExceptHandler} {l : List Cla} (hc : Names X x c) (hi : X.N[i]? = some n) (hln : X.env.kindOf n = some .local)
      (su : ∀ (a : Addr) (pn : List (Addr × Obj)), PSs (X.suite a pn) (b :: bs) ts) (r : ClOk X hds l) : ClOk X (.ExceptHandler (some (.Name x np)) (some n) (b :: bs) pos :: hds) (⟨c, some i, ts⟩ :: l)
section
variable {X : Cx}
/-- the state behind the landing of an exception at a try of X -/
structure Landed (X : Cx) (pins : List (Addr × Obj)) (B : Heap) (a : Addr) (cls : Value) (d : Option Addr) (σ : L2.St) (H : Hp) (s : Shared) : Prop where
  inv : ∀ h', HandSPX.FlyingZ B (X.env :: X.outer) a (Zc cls d) h' → s.heap.UpToSlots h' → Inv X pins σ H { s with heap := h' }
  fly : HandSPX.FlyingZ B (X.env :: X.outer) a (Zc cls d) s.heap
  free : H a = none
  nL : a ≠ X.env.locals
  nF : a ∉ X.fs
theorem Landed.suite {pins : List (Addr × Obj)} {B : Heap} {a : Addr} {cls : Value} {d : Option Addr} {σ : L2.St} {H : Hp} {s : Shared} (L : Landed X pins B a cls d σ H s) {h' : Heap} (fl : HandSPX.FlyingZ B (X.env :: X.outer) a (Zc cls d) h') (up : s.heap.UpToSlots h') :
    ∃ oe, Inv (X.suite a ((a, oe) :: (X.pn ++ pins))) [] σ H { s with heap := h' } := by
  obtain ⟨oe, vs, g1, g2, g3⟩ := fl.there
  exact ⟨oe, (L.inv h' fl up).suite g1 g3 L.free L.nL L.nF⟩
theorem upto_refl (h : Heap) : h.UpToSlots h := Heap.UpToSlots.refl h
/-- the class of a clause is read -/
theorem Landed.test {pins : List (Addr × Obj)} {B : Heap} {a : Addr} {cls c : Value} {d : Option Addr} {σ : L2.St} {H : Hp} {s : Shared} {x : Str} {np : Pos} (L : Landed X pins B a cls d σ H s) (hc : Names X x c) {Q E : Value → Shared → Prop} (q : Q c s) :
    wpAny (model X.prog X.w) (X.A.mark (some (.ref a))) (eval (.Name x np) X.env) Q E s := by
  obtain ⟨oe, S⟩ := L.suite L.fly (upto_refl _)
  rcases hc with ⟨k1, k2, k3 | ⟨k3, k4, k5⟩⟩
  · exact ld_glob (X := X.suite a ((a, oe) :: (X.pn ++ pins))) S k1 k3 q k2
  · exact ld_blt (X := X.suite a ((a, oe) :: (X.pn ++ pins))) S k1 k3 k4 q k5 k2
/-- the clauses, one behind the other -/
theorem Landed.run {pins : List (Addr × Obj)} {B : Heap} {a : Addr} {cls : Value} {d : Option Addr} {σ : L2.St} {H : Hp} {s : Shared} {D : Ends} {U : WX} (ok : X.Ok) (hN : X.N.Nodup) (hf : X.env.frame = some X.env.locals) (L : Landed X pins B a cls d σ H s)
    (out : U cls d σ H → ∀ h', HandSPX.HeldZ B (X.env :: X.outer) a (Zc cls d) X.env.locals h' → s.heap.UpToSlots h' → X.xe (.ref a) { s with heap := h' }) {hds : List ExceptHandler} {l : List Cla} (hh : ClOk X hds l) :
    wCl X.K U D l cls d σ H → wpAny (model X.prog X.w) X.A (handleBy (.ref a) X.env hds) (SP X pins D) X.xe s := by
  have kIn := (L.inv s.heap L.fly (upto_refl _)).kIn
  induction hh with
  | nil => exact fun w => PX.no_clauseZ (Z := Zc cls d) hf L.fly fun h' held up => out w h' held up
  | @plain x c ts b bs np pos hds l hc su r ih =>
    rintro ⟨k, hk, yes, no⟩
    cases k with
    | false => exact PX.clause_passZ kIn (fun o z => z.1) L.fly hk (fun q => L.test hc q) (ih (no rfl))
    | true =>
      refine PX.clause_onlyZ kIn (fun o z => z.1) L.fly hk (fun q => L.test hc q) fun h' fl up => ?_
      obtain ⟨oe, S⟩ := L.suite fl up
      refine wpAny_mono ((su a _).run [] _ σ H D S (yes rfl a L.free)) (fun f s6 q => ?_) fun _ _ z => z.elim
      cases f with
      | ret u => exact let ⟨v, σ', H', S', r', z⟩ := q; ⟨v, σ', H', S'.unsuite ok, r', z⟩
      | next => exact let ⟨σ', H', S', z⟩ := q; ⟨σ', H', S'.unsuite ok, z⟩
      | brk => exact let ⟨σ', H', S', z⟩ := q; ⟨σ', H', S'.unsuite ok, z⟩
      | cont => exact let ⟨σ', H', S', z⟩ := q; ⟨σ', H', S'.unsuite ok, z⟩
  | @named x n i c ts b bs np pos hds l hc hi hln su r ih =>
    rintro ⟨k, hk, yes, no⟩
    cases k with
    | false => exact PX.clause_passZ kIn (fun o z => z.1) L.fly hk (fun q => L.test hc q) (ih (no rfl))
    | true =>
      refine PX.clause_asZ kIn (fun o z => z.1) L.fly hk (fun q => L.test hc q) fun h' fl up => ?_
      obtain ⟨oe, S⟩ := L.suite fl up
      refine store_ok (X := X.suite a ((a, oe) :: (X.pn ++ pins))) (v := V.ref a) S hN hi (.inl hln) rfl (fun s5 S5 => ?_) (.inr hln)
      refine wpAny_mono ((su a _).run [] s5 _ H _ S5 (yes rfl a L.free)) (fun f s6 q => ?_) fun _ _ z => z.elim
      cases f with
      | ret u => exact let ⟨v, σ', H', S', r', z⟩ := q; gone_ok (S'.unsuite ok) hN hi hln fun s7 J => ⟨v, _, H', J, r', z⟩
      | next => exact let ⟨σ', H', S', z⟩ := q; gone_ok (S'.unsuite ok) hN hi hln fun s7 J => ⟨_, H', J, z⟩
      | brk => exact let ⟨σ', H', S', z⟩ := q; gone_ok (S'.unsuite ok) hN hi hln fun s7 J => ⟨_, H', J, z⟩
      | cont => exact let ⟨σ', H', S', z⟩ := q; gone_ok (S'.unsuite ok) hN hi hln fun s7 J => ⟨_, H', J, z⟩
/-- try: body, and clauses -/
theorem ps_try_cl {body : List Stmt} {h0 : ExceptHandler} {hds : List ExceptHandler} {l : List Cla} {pos : Pos} {tb : WX → TS} {U : WX} (hst : X.stack = X.env :: X.outer) (hf : X.env.frame = some X.env.locals) (hN : X.N.Nodup) (tk : Takes X U)
    (hb : ∀ (W : WX) (pn : List (Addr × Obj)) (xe : Value → Shared → Prop), Takes (X.tr pn xe) W → PassesOwn (model X.prog X.w) X.A X.env xe → PSs (X.tr pn xe) body (tb W)) (hh : ClOk X (h0 :: hds) l) :
    PS X (.Try body (h0 :: hds) [] [] pos) (fun D σ H => tb (wCl X.K U D l) D σ H) := by
  constructor
  intro pins s σ H D I h
  have around : X.A.frames = some (X.env :: X.outer) := by rw [I.ok.frames, hst]
  have caught : Takes (X.tr (X.pn ++ pins) fun e s₁ => wpAny (model X.prog X.w) X.A (noteFrame e X.env) (fun _ s₂ => wpAny (model X.prog X.w) X.A (setFlight e none) (fun _ s₃ => wpAny (model X.prog X.w) X.A (handleBy e X.env (h0 :: hds)) (SP X pins D) X.xe s₃) X.xe s₂) X.xe s₁) (wCl X.K U D l) := by
    rintro u s' ⟨a, B, sI, pins', σ', H', cls, d, rfl, J', nb, up, sky, na, os, ag, w⟩
    have J := J'.ofTry I.ok
    have sky : Sky B (X.env :: X.outer) a (Zc cls d) X.env.locals s'.heap := by rw [← hst]; exact sky
    refine Sky.land Zc.steady around hf sky fun h3 fl3 up3 => ?_
    have outside : a ∉ frs (X.env :: X.outer) := fun hm => by
      obtain ⟨oe, vs, g1, _, g3⟩ := fl3.there
      obtain ⟨_, o', e', z⟩ := fl3.2.2.1.mem hm
      rw [g1] at e'
      cases e'
      exact z _ g3
    have L : Landed X pins B a cls d σ' H' { s' with heap := h3 } :=
      { inv := fun h' fl u' => J.landed nb fl.1 ((up.trans up3).trans u') os ag
        fly := fl3
        free := na
        nL := fun z => outside (List.mem_filterMap.mpr ⟨X.env, by simp, by rw [hf, z]⟩)
        nF := fun hm => by
          obtain ⟨e, he, q⟩ := List.mem_filterMap.mp hm
          exact outside (List.mem_filterMap.mpr ⟨e, by simp [he], q⟩) }
    exact L.run I.ok hN hf (fun w h' held u' => tk _ _ ⟨a, B, sI, pins, σ', H', cls, d, rfl, J, nb, (up.trans up3).trans u', .inr (.inr (by rw [hst]; exact held)), na, os, ag, w⟩) hh w
  refine wpAny_Try_except (wpAny_mono ((hb _ _ _ caught PassesOwn.looking).run [] s σ H D (I.toTry _) h) (fun f s1 q => ?_) fun _ _ z => z)
  cases f with
  | next => exact let ⟨σ', H', J', z⟩ := q; wpAny_execs_nil ⟨σ', H', J'.ofTry I.ok, z⟩
  | brk => exact let ⟨σ', H', J', z⟩ := q; ⟨σ', H', J'.ofTry I.ok, z⟩
  | cont => exact let ⟨σ', H', J', z⟩ := q; ⟨σ', H', J'.ofTry I.ok, z⟩
  | ret u => exact let ⟨v, σ', H', J', r, z⟩ := q; ⟨v, σ', H', J'.ofTry I.ok, r, z⟩
/-! ### by their meanings -/
theorem Lr.forget {K : PySem.W.Frag} {w : Wd} {σ : L2.St} {l : L} (h : Lr K w σ l) (i : Nat) (v : Option V) : Lr K w (σ.set i v) (l.set i none) := by
  refine ⟨by simpa using h.len, fun j x q => ?_⟩
  by_cases e : i = j
  · subst e
    by_cases hi : i < l.length
    · rw [List.getElem?_set_self hi] at q; cases q
    · rw [List.getElem?_eq_none (by simpa using hi)] at q; cases q
  · rw [List.getElem?_set_ne e] at q
    rw [List.getElem?_set_ne e]
    exact h.get j x q
def suiteN (o : Option Nat) (g : L → Sto → SR) (l : L) (S : Sto) : SR := match o with
  | none => (g l S).calm
  | some i => (g (l.set i none) S).calm.gone i
def handleN (sub : Str → Str → Option Bool) : List (Str × Option Nat × (L → Sto → SR)) → Ex → L → Sto → SR
  | [], x, l, S => .err x l S
  | (y, o, g) :: r, x, l, S => match sub x.cls y with
    | some true => suiteN o g l S
    | some false => handleN sub r x l S
    | none => .stuck
def clausesN (K : PySem.W.Frag) (hs : List (Str × Option Nat × (L → Sto → SR))) : List Cla := hs.map fun p => ⟨.ref (He.ga K p.1), p.2.1, tS K E0 p.2.2⟩
theorem AfterS.ungone {K : PySem.W.Frag} {E : WX} {r : SR} {w : Wd} {D : Ends} {i : Nat} (h : AfterS K E (r.calm.gone i) w D) : AfterS K E0 r w (goneE i D) := by
  cases r with
  | err x l S => exact h.elim
  | nx l S => exact fun w' σ' a b c d => h w' (σ'.set i none) a b c (d.forget i none)
  | rt l S => exact h
  | bk l S => exact fun w' σ' a b c d => h w' (σ'.set i none) a b c (d.forget i none)
  | ct l S => exact fun w' σ' a b c d => h w' (σ'.set i none) a b c (d.forget i none)
  | stuck => exact h.elim
theorem many_miN {K : PySem.W.Frag} {E : WX} {sub : Str → Str → Option Bool} (hsub : ∀ x y b, sub x y = some b → PySem.W.exmOne K (.ref (He.ga K x)) (.ref (He.ga K y)) = some b) {D : Ends} {x : Ex} {l : L} {S : Sto} {w : Wd} : ∀ (hs : List (Str × Option Nat × (L → Sto → SR))),
    AfterS K E (handleN sub hs x l S) w D → ∀ (w' : Wd) (σ' : L2.St) (cls : Value) (d : Option Addr), w'.S = S → Ext K w w' → Ok K w' → Lr K w' σ' l → Xr K w' cls d x → wCl K E D (clausesN K hs) cls d σ' w'.H
  | [], h, w', σ', cls, d, a1, a2, a3, a4, a5 => h w' σ' cls d a1 a2 a3 a4 a5
  | (y, o, g) :: r, h, w', σ', cls, d, a1, a2, a3, a4, a5 => by
    have h : AfterS K E (match sub x.cls y with
      | some true => suiteN o g l S
      | some false => handleN sub r x l S
      | none => .stuck) w D := h
    cases q : sub x.cls y with
    | none => rw [q] at h; exact h.elim
    | some b =>
      rw [q] at h
      refine ⟨b, by rw [a5.1]; exact hsub _ _ _ q, fun hb a _ => ?_, fun hb => by subst hb; exact many_miN hsub r h w' σ' cls d a1 a2 a3 a4 a5⟩
      subst hb
      cases o with
      | none => exact ⟨w', l, rfl, a3, a4, by rw [a1]; exact AfterS.mono a2 (AfterS.calmed h)⟩
      | some i => exact ⟨w', l.set i none, rfl, a3, a4.forget i _, by rw [a1]; exact AfterS.mono a2 (AfterS.ungone h)⟩
theorem s_tryN {E : WX} {body : List Stmt} {h0 : ExceptHandler} {hds : List ExceptHandler} {pos : Pos} {f : L → Sto → SR} {hs : List (Str × Option Nat × (L → Sto → SR))} {sub : Str → Str → Option Bool}
    (hsub : ∀ x y b, sub x y = some b → PySem.W.exmOne X.K (.ref (He.ga X.K x)) (.ref (He.ga X.K y)) = some b) (hst : X.stack = X.env :: X.outer) (hf : X.env.frame = some X.env.locals) (hN : X.N.Nodup) (tk : Takes X E)
    (hb : ∀ (W : WX) (pn : List (Addr × Obj)) (xe : Value → Shared → Prop), Takes (X.tr pn xe) W → PassesOwn (model X.prog X.w) X.A X.env xe → PSs (X.tr pn xe) body (tS X.K W f)) (hh : ClOk X (h0 :: hds) (clausesN X.K hs)) :
    PS X (.Try body (h0 :: hds) [] [] pos) (tS X.K E fun l S => match f l S with
      | .err x l1 S1 => handleN sub hs x l1 S1
      | r => r) := by
  refine PS.imp' (ps_try_cl (tb := fun W => tS X.K W f) hst hf hN tk hb hh) fun D σ H ⟨w, l, eH, ok, lr, h⟩ => ?_
  refine ⟨w, l, eH, ok, lr, ?_⟩
  dsimp only at h
  cases q : f l w.S with
  | err x l1 S1 =>
    rw [q] at h
    exact fun w' σ' cls d a1 a2 a3 a4 a5 => many_miN hsub hs h w' σ' cls d a1 a2 a3 a4 a5
  | nx l S => rw [q] at h; exact h
  | rt l S => rw [q] at h; exact h
  | bk l S => rw [q] at h; exact h
  | ct l S => rw [q] at h; exact h
  | stuck => rw [q] at h; exact h
end
end Mi
set_option Elab.async false
set_option linter.all false
set_option maxRecDepth 100000
set_option autoImplicit false
/-! Mi: tests by comparisons, pop(), augmented assignments, a def that makes a new object. -/
namespace Mi
open PySem PySem.Spec L2
section
variable {X : Cx} {E : WX} {a b d : Expr} {f g h : L → Sto → R W} {pos : Pos}
/-- a test by a value that is a bool -/
theorem truth_bool {K : PySem.W.Frag} {σ : L2.St} {H : Hp} {Q : Bool → Hp → Prop} (hb : ∀ l S x S', f l S = .ok x S' → ∃ k, x = .pv (.bool k)) (h : tT K E (fun l S => truthR (f l S)) σ H Q) : tE K E f σ H fun z H1 => ∃ k, z = .bl k ∧ Q k H1 := by
  obtain ⟨w, l, eH, ok, lr, h⟩ := h
  refine ⟨w, l, eH, ok, lr, ?_⟩
  dsimp only at h
  cases q : f l w.S with
  | err x S => rw [q] at h; exact h
  | stuck => rw [q] at h; exact h
  | ok x S =>
    obtain ⟨k, rfl⟩ := hb _ _ _ _ q
    rw [q] at h
    intro w' v h1 h2 h3 h4
    cases h4
    exact ⟨k, rfl, h w' k h1 h2 h3 rfl⟩
theorem cmpW_bool {o : CmpOp} {a b : W} {S : Sto} {x : W} {S' : Sto} (h : cmpW o a b S = .ok x S') : ∃ k, x = .pv (.bool k) := by
  have go : ∀ (q : Option Bool), retP (q.map .bool) S = .ok x S' → ∃ k, x = .pv (.bool k) := by
    intro q h
    cases q with
    | none => cases h
    | some k => cases h; exact ⟨k, rfl⟩
  unfold cmpW at h
  split at h
  · exact go _ h
  · split at h
    · split at h
      · exact go _ h
      · cases h
    · cases h
  · cases h
theorem cmp_isB {o : CmpOp} {l : L} {S : Sto} {x : W} {S' : Sto} (h : ((f l S).bind fun x S => (g l S).bind fun y S => cmpW o x y S) = .ok x S') : ∃ k, x = .pv (.bool k) := by
  cases q : f l S with
  | err x S => rw [q] at h; cases h
  | stuck => rw [q] at h; cases h
  | ok a S1 =>
    rw [q] at h
    have h : ((g l S1).bind fun y S => cmpW o a y S) = .ok x S' := h
    cases q2 : g l S1 with
    | err x S => rw [q2] at h; cases h
    | stuck => rw [q2] at h; cases h
    | ok b S2 =>
      rw [q2] at h
      have h : cmpW o a b S2 = .ok x S' := h
      exact cmpW_bool h
theorem t_cmp {op : CmpOp} (ho : OpR X (compareOp op) (rB X.K (cmpW op))) (n : ∀ x y S, NoErr (cmpW op x y S)) (ha : PE X a (tE X.K E f)) (hb : PE X b (tE X.K E g)) (hm : behindInMarks op b = false) :
    PT X (.Compare a [op] [b] pos) (tT X.K E fun l S => truthR ((f l S).bind fun x S => (g l S).bind fun y S => cmpW op x y S)) := by
  refine PT.imp' (pt_cmpR ho ha hb hm) fun σ H Q h0 => ?_
  obtain ⟨w, l, eH, ok, lr, h⟩ := truth_bool (f := fun l S => (f l S).bind fun x S => (g l S).bind fun y S => cmpW op x y S) (fun l S x S' e => cmp_isB e) h0
  refine tE.bind (g := fun x l S => (g l S).bind fun y S => cmpW op x y S) eH ok lr h fun w1 v x e1 ok1 lr1 r1 h1 => ?_
  refine tE.bind (g := fun y l S => cmpW op x y S) rfl ok1 lr1 h1 fun w2 u y e2 ok2 lr2 r2 h2 => ?_
  exact ⟨w2, x, y, rfl, ok2, r1.ext e2, r2, AfterV.of (n _ _ _) h2⟩
theorem chain_isB {o o' : CmpOp} {l : L} {S : Sto} {x : W} {S' : Sto} (e : chainW (cmpW o) (cmpW o') f g h l S = .ok x S') : ∃ k, x = .pv (.bool k) := by
  have bnd : ∀ {α β : Type} {r : R α} {k : α → Sto → R β} {b : β} {S : Sto}, r.bind k = .ok b S → ∃ a S1, r = .ok a S1 ∧ k a S1 = .ok b S := by
    intro α β r k b S h
    cases r with
    | ok a S1 => exact ⟨a, S1, rfl, h⟩
    | err _ _ => cases h
    | stuck => cases h
  unfold chainW at e
  obtain ⟨a, S1, _, e⟩ := bnd e
  obtain ⟨b, S2, _, e⟩ := bnd e
  obtain ⟨r, S3, _, e⟩ := bnd e
  split at e
  · obtain ⟨z, S4, _, e⟩ := bnd e
    exact cmpW_bool e
  · cases e; exact ⟨false, rfl⟩
  · cases e
theorem t_cmp2 {op op' : CmpOp} (ho : OpR X (compareOp op) (rB X.K (cmpW op))) (ho' : OpR X (compareOp op') (rB X.K (cmpW op'))) (ha : PE X a (tE X.K E f)) (hb : PE X b (tE X.K E g)) (hd : PE X d (tE X.K E h)) (hm : lastMarks [op, op'] [b, d] = false) :
    PT X (.Compare a [op, op'] [b, d] pos) (tT X.K E fun l S => truthR (chainW (cmpW op) (cmpW op') f g h l S)) :=
  PT.imp' (pt_chain ho ho' ha hb hd hm) fun σ H Q h0 => chain_read (noerrC op) (noerrC op') (truth_bool (fun l S x S' e => chain_isB e) h0)
/-- o.m() -/
theorem s_meth0 {o : Expr} {name : Str} {apos cpos : Pos} {id : String} {k : W → Sto → R W} (slot : Slot "list" name id) (hty : typeOf (.builtin id) = pure (.type "method_descriptor")) (hm : MtR X id (rM X.K fun x ys S => match ys with
      | [] => k x S
      | _ => .stuck)) (hn : ∀ x S, NoErr (k x S)) (hst : ∀ x S, isLst x S = false → k x S = .stuck) (ho : PE X o (tE X.K E f))
    (hbase : attributeBase o name X.env (eval o X.env) = eval o X.env) (hline : (apos.endLine == cpos.line) = true) :
    PE X (.Call (.Attribute o name apos) [] [] cpos) (tE X.K E fun l S => (f l S).bind fun x S => k x S) := by
  refine PE.imp' (pe_bm0 PySem.F.plainAttrs_list slot hty hm ho hbase hline) fun σ H Q ⟨w, l, eH, ok, lr, h⟩ => ?_
  refine tE.bind (g := fun x l S => k x S) eH ok lr h fun w1 v x e1 ok1 lr1 r1 h1 => ?_
  cases hx : isLst x w1.S with
  | false => rw [hst x w1.S hx] at h1; exact h1.elim
  | true => exact ⟨lst_ty ok1 r1 hx, w1, x, [], rfl, ok1, r1, .nil, AfterV.of (hn _ _) h1⟩
theorem noerr_app (x y : W) (S : Sto) : NoErr (appW x y S) := by
  intro e S' h; unfold appW at h; split at h
  · split at h
    · split at h <;> cases h
    · cases h
  · cases h
theorem noerr_ext (x y : W) (S : Sto) : NoErr (extW x y S) := by
  intro e S' h; unfold extW extP at h; split at h
  · split at h
    · split at h <;> cases h
    · cases h
  · split at h
    · split at h <;> cases h
    · cases h
  · cases h
theorem noerr_pop (x : W) (i : Int) (S : Sto) : NoErr (popW x i S) := by
  intro e S' h; unfold popW at h; split at h
  · split at h
    · split at h
      · split at h <;> cases h
      · cases h
    · cases h
  · cases h
theorem noerr_popi (x y : W) (S : Sto) : NoErr (popiW x y S) := by
  intro e S' h; unfold popiW at h; split at h
  · exact noerr_pop _ _ _ _ _ h
  · cases h
theorem pop_lst (x : W) (i : Int) (S : Sto) (h : isLst x S = false) : popW x i S = .stuck := by
  unfold popW; unfold isLst at h
  split
  · dsimp only at h
    split at h
    · cases h
    · rfl
  · rfl
/-! ### augmented assignments of ints -/
theorem ip_mi : ∀ op, (op = .Add ∨ op = .Sub) → PIp X op (rB X.K (pure2 (augop op))) := by
  intro op hop pins s σ H x y v u Q I r1 r2 h
  obtain ⟨w, a, b, rfl, ok, ra, rb, k⟩ := h
  cases a with
  | rf n => exact k.elim
  | sc n => exact k.elim
  | pv p =>
    cases b with
    | rf n => exact k.elim
    | sc n => exact k.elim
    | pv q =>
      have k : AfterV X.K (retP (augop op p q) w.S) w Q := k
      unfold augop at k
      split at k
      · cases ra; cases rb
        exact ip_add pins s σ w.H _ _ v u Q I r1 r2 ⟨_, _, rfl, rfl, k w _ rfl Ext.refl ok (.int _)⟩
      · cases ra; cases rb
        exact ip_sub pins s σ w.H _ _ v u Q I r1 r2 ⟨_, _, rfl, rfl, k w _ rfl Ext.refl ok (.int _)⟩
      · exact k.elim
/-! ### list(range(..)), tuple(range(..)) -/
theorem rgV_rp {K : PySem.W.Frag} {H : Hp} {B : Addr → Prop} (a b : Int) : RpAll K H B (rgV a b) (rngL a (b - a).toNat) := by
  have go : ∀ (n : Nat) (i : Int), RpAll K H B ((List.range n).map fun j => V.int (i + (j : Nat))) (rngL i n) := by
    intro n
    induction n with
    | zero => intro i; exact .nil
    | succ n ih =>
      intro i
      rw [List.range_succ_eq_map, List.map_cons, List.map_map]
      unfold rngL
      have e : ((fun j : Nat => V.int (i + (j : Nat))) ∘ Nat.succ) = fun j : Nat => V.int (i + 1 + (j : Nat)) := by
        funext j
        show V.int (i + ((j + 1 : Nat) : Int)) = _
        congr 1; omega
      rw [e]
      refine .cons ?_ (ih (i + 1))
      show Rp K H B (.int (i + ((0 : Nat) : Int))) (.int i)
      rw [show i + ((0 : Nat) : Int) = i by omega]
      exact .int i
  exact go _ a
theorem rg_end {K : PySem.W.Frag} {E : WX} {w : Wd} {σ : L2.St} {Q : VK} {k : Bool} {a b : Int} (ok : Ok K w) (h : After K E (Rv K) (.ok (.pv (if k then .tuple (rngL a (b - a).toNat) else .list (rngL a (b - a).toNat))) w.S) w σ Q) :
    (k = true → ∀ q, w.H q = none → Q (.ref q) (upd w.H q (.tup (rgV a b)))) ∧ (k = false → ∀ q, w.H q = none → Q (.ref q) (upd w.H q (.lst (rgV a b)))) := by
  refine ⟨fun e q hq => ?_, fun e q hq => ?_⟩
  · subst e
    obtain ⟨x, o⟩ := laid ok hq (.tup (rgV a b))
    exact h ⟨_, w.μ, w.S, w.F⟩ (.ref q) rfl x o (Rp.mkTup (SqT.of upd_same) (fun z => ok.nlv hq z) (rgV_rp a b))
  · subst e
    obtain ⟨x, o⟩ := laid ok hq (.lst (rgV a b))
    exact h ⟨_, w.μ, w.S, w.F⟩ (.ref q) rfl x o (Rp.lst upd_same (fun z => ok.nlv hq z) (rgV_rp a b))
theorem s_lrng1 {k : Bool} {p p2 pos2 : Pos} (hc : X.calm = true) (hg : Gl X (if k then "tuple" else "list")) (hm : X.mg (if k then "tuple" else "list") = none) (hg2 : Gl X "range") (hm2 : X.mg "range" = none) (ha : PE X a (tE X.K E f)) (st : starEach [a] X.env = (false, eval a X.env) :: starEach [] X.env) :
    PE X (.Call (.Name (if k then "tuple" else "list") p) [.Call (.Name "range" p2) [a] [] pos2] [] pos) (tE X.K E fun l S => (f l S).bind fun x S => rngW k [x] S) := by
  have rd : ∀ σ H Q, tE X.K E (fun l S => (f l S).bind fun x S => rngW k [x] S) σ H Q → (if k then tTupRg (tRg1 (tE X.K E f)) else tLstRg (tRg1 (tE X.K E f))) σ H Q := by
    intro σ H Q ⟨w, l, eH, ok, lr, h⟩
    have key : ∀ (Q1 : VK), (∀ (w1 : Wd) (x : W) (v : V), Ok X.K w1 → Rv X.K w1 v x → After X.K E (Rv X.K) (rngW k [x] w1.S) w1 σ Q → Q1 v w1.H) → tE X.K E f σ H Q1 := fun Q1 i => tE.bind (g := fun x l S => rngW k [x] S) eH ok lr h fun w1 v x e1 ok1 lr1 r1 h1 => i w1 x v ok1 r1 h1
    have one : ∀ (w1 : Wd) (x : W) (v : V), Ok X.K w1 → Rv X.K w1 v x → After X.K E (Rv X.K) (rngW k [x] w1.S) w1 σ Q → ∃ n : Int, v = .int n ∧ RgOk 0 n ∧ After X.K E (Rv X.K) (.ok (.pv (if k then .tuple (rngL 0 (n - 0).toNat) else .list (rngL 0 (n - 0).toNat))) w1.S) w1 σ Q := by
      intro w1 x v ok1 r1 h1
      cases x with
      | rf _ => exact h1.elim
      | sc _ => exact h1.elim
      | pv q =>
        cases q with
        | int n =>
          cases r1
          have h1 : After X.K E (Rv X.K) (if -(2 ^ 62) ≤ n ∧ n ≤ (maxLen : Nat) then .ok (.pv (if k then .tuple (rngL 0 n.toNat) else .list (rngL 0 n.toNat))) w1.S else .stuck) w1 σ Q := h1
          by_cases hn : -(2 ^ 62) ≤ n ∧ n ≤ (maxLen : Nat)
          · rw [if_pos hn] at h1
            refine ⟨n, rfl, ?_, by rw [Int.sub_zero]; exact h1⟩
            obtain ⟨h2, h3⟩ := hn
            unfold maxLen at h3
            refine ⟨by omega, by omega, by omega, by omega, by omega⟩
          · rw [if_neg hn] at h1; exact h1.elim
        | _ => exact h1.elim
    cases k with
    | true =>
      refine key _ fun w1 x v ok1 r1 h1 => ?_
      obtain ⟨n, rfl, g, h2⟩ := one w1 x v ok1 r1 h1
      exact ⟨n, rfl, g, (rg_end (k := true) ok1 h2).1 rfl⟩
    | false =>
      refine key _ fun w1 x v ok1 r1 h1 => ?_
      obtain ⟨n, rfl, g, h2⟩ := one w1 x v ok1 r1 h1
      exact ⟨n, rfl, g, (rg_end (k := false) ok1 h2).2 rfl⟩
  cases k with
  | true => exact PE.imp' (pe_tupRg hc hg hm (prg_1 hg2 hm2 ha st)) rd
  | false => exact PE.imp' (pe_listRg hc hg hm (prg_1 hg2 hm2 ha st)) rd
/-! ### dicts -/
theorem s_dnew : PE X (.Dict [] [] pos) (tE X.K E fun _ S => .ok (.rf S.length) (S ++ [.dct []])) := by
  refine PE.imp' pe_dnewK fun σ H Q ⟨w, l, eH, ok, lr, h⟩ p hp => ?_
  rw [← eH] at hp ⊢
  obtain ⟨e2, ok2⟩ := made ok hp (u := .dK []) (x := .dct []) fun w2 x2 q2 => ⟨[], q2, .nil⟩
  exact h ⟨upd w.H p (.dK []), w.μ ++ [p], w.S ++ [.dct []], w.F⟩ (.ref p) rfl e2 ok2 ⟨p, by rw [← ok.len]; exact snoc_get, rfl⟩
theorem keysI_ok : ∀ {kvs : List ((Int ⊕ Str) × W)} {ns : List Int}, keysI kvs = some ns → kvs.map (·.1) = ns.map Sum.inl
  | [], ns, h => by cases h; rfl
  | (.inl i, _) :: r, ns, h => by
    have h : (keysI r).map (i :: ·) = some ns := h
    rw [Option.map_eq_some_iff] at h
    obtain ⟨ms, h1, rfl⟩ := h
    rw [List.map_cons, List.map_cons, keysI_ok h1]
  | (.inr _, _) :: _, ns, h => by cases h
theorem keys_eq {K : PySem.W.Frag} {w : Wd} : ∀ {ks : List (Key × V)} {kvs : List ((Int ⊕ Str) × W)}, Paired (fun p q => p.1 = q.1 ∧ Rv K w p.2 q.2) ks kvs → ks.map (·.1) = kvs.map (·.1)
  | _, _, .nil => rfl
  | _, _, .cons a b => by rw [List.map_cons, List.map_cons, a.1, keys_eq b]
theorem keysP_ok {K : PySem.W.Frag} {H : Hp} {B : Addr → Prop} : ∀ {ks : List (Key × V)} {kvs : List (P × P)} {ns : List Int}, RpKv K H B ks kvs → keysP kvs = some ns → ks.map (·.1) = ns.map Sum.inl
  | _, _, ns, .nil, h => by cases h; rfl
  | _, _, ns, .cons (k := .inl i) (kvs := kvs) r t, h => by
    have h : (keysP kvs).map (i :: ·) = some ns := h
    rw [Option.map_eq_some_iff] at h
    obtain ⟨ms, h1, rfl⟩ := h
    rw [List.map_cons, List.map_cons, keysP_ok t h1]
  | _, _, ns, .cons (k := .inr i) r t, h => by cases h
theorem c_dsrt (hc : X.calm = true) : CallR X (.builtin "sorted") (rL X.K fun ws S => match ws with
    | [x] => srtD x S
    | _ => .stuck) := by
  intro pins s σ H xs us Q I r h
  obtain ⟨w, as, rfl, ok, ra, k⟩ := h
  dsimp only at k
  split at k
  · rename_i x
    cases ra with
    | cons r1 r2 =>
      cases r2
      cases x with
      | pv p =>
        cases p with
        | dict kvs =>
          cases r1 with
          | dct s1 n1 a1 =>
            have k : AfterV X.K (match keysP kvs with
              | some ks => if ks.length < 64 then .ok (.pv (.list ((isort ks).map .int))) w.S else .stuck
              | none => .stuck) w Q := k
            cases q2 : keysP kvs with
            | none => rw [q2] at k; exact k.elim
            | some ks =>
              rw [q2] at k
              dsimp only at k
              by_cases h64 : ks.length < 64
              · rw [if_pos h64] at k
                refine call_sortedDI hc pins s σ w.H _ us Q I r ⟨_, _, ks, rfl, .inl s1, keysP_ok a1 q2, h64, fun ys p hp hs hn => ?_⟩
                have e9 : ys = isort ks := isort_eq hp hs
                subst e9
                obtain ⟨e4, ok4⟩ := laid ok hn (.lst ((isort ks).map V.int))
                exact k ⟨_, w.μ, w.S, w.F⟩ (.ref p) rfl e4 ok4 (Rp.lst upd_same (fun z => ok.nlv hn z) (ints_rp _))
              · rw [if_neg h64] at k; exact k.elim
        | _ => exact k.elim
      | sc _ => exact k.elim
      | rf n =>
        obtain ⟨a, h1, rfl⟩ := r1
        have es : srtD (.rf n) w.S = (match w.S[n]? with
          | some (.dct kvs) => match keysI kvs with
            | some ks => if ks.length < 64 then .ok (.pv (.list ((isort ks).map .int))) w.S else .stuck
            | none => .stuck
          | _ => .stuck) := rfl
        rw [es] at k
        cases q : w.S[n]? with
        | none => rw [q] at k; exact k.elim
        | some ob =>
          rw [q] at k
          cases ob with
          | dead => exact k.elim
          | lst _ => exact k.elim
          | dct kvs =>
            dsimp only at k
            cases q2 : keysI kvs with
            | none => rw [q2] at k; exact k.elim
            | some ks =>
              rw [q2] at k
              dsimp only at k
              by_cases h64 : ks.length < 64
              · rw [if_pos h64] at k
                obtain ⟨kk, e, r4⟩ := ok.obj n a _ h1 q
                refine call_sortedDI hc pins s σ w.H _ us Q I r ⟨a, kk, ks, rfl, .inl e, by rw [keys_eq r4]; exact keysI_ok q2, h64, fun ys p hp hs hn => ?_⟩
                have e9 : ys = isort ks := isort_eq hp hs
                subst e9
                obtain ⟨e4, ok4⟩ := laid ok hn (.lst ((isort ks).map V.int))
                exact k ⟨_, w.μ, w.S, w.F⟩ (.ref p) rfl e4 ok4 (Rp.lst upd_same (fun z => ok.nlv hn z) (ints_rp _))
              · rw [if_neg h64] at k; exact k.elim
  · exact k.elim
theorem noerr_srt (x : W) (S : Sto) : NoErr (srtD x S) := by
  intro e S' h; unfold srtD at h; split at h
  · split at h
    · split at h <;> cases h
    · cases h
  · split at h
    · split at h
      · split at h <;> cases h
      · cases h
    · cases h
  · cases h
/-! ### a def that makes a new list -/
theorem rvs_innerG {K : PySem.W.Frag} {w : Wd} : ∀ {vs : List V} {ws : List W}, Rvs K w vs ws → ws.all argOk = true → Rvs K (inner w) vs ws
  | _, _, .nil, _ => .nil
  | _, .pv p :: ws, .cons r t, e => .cons (inner_rp r) (rvs_innerG t (by simpa [argOk] using e))
  | _, .sc p :: ws, .cons r t, e => .cons (by
      obtain ⟨a, h1, h2⟩ := r
      exact ⟨a, h1, SqLB.keep (fun _ _ h _ => h) (fun a _ n z => n ((inner_lv a).mp z)) h2⟩) (rvs_innerG t (by simpa [argOk] using e))
  | _, .rf p :: ws, .cons r t, e => by simp [argOk] at e
theorem g_call {K : PySem.W.Frag} {E : WX} {w : Wd} {ws : List W} {vs : List V} {σ : L2.St} {Q : VK} {r : List W → Sto → R W} {n : Nat} (ok : Ok K w) (rv : Rvs K w vs ws) (hl : vs.length = n) (hp : ws.all argOk = true) (h : After K E (Rv K) (gcallR (r ws []) w.S) w σ Q) : spMi K r n vs w.H Q (WE E σ) := by
  refine ⟨inner w, ws, rfl, inner_ok ok, rvs_innerG rv hp, hl, ?_⟩
  show After K _ (Rv K) (r ws []) (inner w) [] Q
  cases q : r ws [] with
  | stuck => rw [q] at h; exact h
  | err x S =>
    rw [q] at h
    intro w' cls d h1 h2 h3 h4
    obtain ⟨x1, o1⟩ := outer_ok ok h2 h3
    exact h ⟨w'.H, w.μ, w.S, w.F⟩ cls d rfl x1 o1 h4
  | ok x S =>
    rw [q] at h
    cases x with
    | pv p => exact h.elim
    | sc m => exact h.elim
    | rf m =>
      have h : After K E (Rv K) (match S[m]? with
        | some o => if flatO o then .ok (.rf w.S.length) (w.S ++ [o]) else .stuck
        | none => .stuck) w σ Q := h
      cases q2 : S[m]? with
      | none => rw [q2] at h; exact h.elim
      | some o =>
        rw [q2] at h
        by_cases hf : flatO o = true
        · have h : After K E (Rv K) (if flatO o then .ok (.rf w.S.length) (w.S ++ [o]) else .stuck) w σ Q := h
          rw [if_pos hf] at h
          intro w' v h1 h2 h3 h4
          obtain ⟨a, ha, rfl⟩ := h4
          have q2 : w'.S[m]? = some o := by rw [h1]; exact q2
          have hd : o ≠ .dead := by intro z; subst z; cases hf
          have la : w'.Ld a := ⟨m, o, ha, q2, hd⟩
          have na : w.H a = none := by
            rcases h2.new a la with ⟨_, _, z, _⟩ | z
            · cases z
            · exact z
          obtain ⟨x1, o1⟩ := outer_ok ok h2 h3
          have ro := h3.obj m a o ha q2
          cases o with
          | dead => cases hf
          | dct kvs => cases hf
          | lst xs =>
            obtain ⟨us, hus, rus⟩ := ro
            obtain ⟨ps, hps⟩ := pvs_of (show (asPs xs).isSome = true from hf)
            have rp := Rvs.pure rus hps
            -- the world with the new object
            have nl : ¬ w.Lv a := ok.nlv na
            have lv : ∀ b, (⟨w'.H, w.μ ++ [a], w.S ++ [.lst xs], w.F⟩ : Wd).Ld b → w.Ld b ∨ b = a := fun b ⟨i, y, e1, e2, e3⟩ => by
              rcases get_snoc e1 with ⟨n1, e1⟩ | ⟨n1, e1⟩
              · rcases get_snoc e2 with ⟨n2, e2⟩ | ⟨n2, e2⟩
                · exact .inl ⟨i, y, e1, e2, e3⟩
                · have := ok.len; omega
              · exact .inr e1
            have e : Ext K w ⟨w'.H, w.μ ++ [a], w.S ++ [.lst xs], w.F⟩ :=
              ⟨fun b y h1 h2' => x1.keep b y h1 h2', fun b h1 => (lv b h1).imp (fun z => z) fun z => by rw [z]; exact na, rfl, fun _ _ h1 => snoc_lt h1⟩
            have bk : ∀ b, (∃ o, w'.H b = some o) → ¬ w'.Lv b → ¬ (⟨w'.H, w.μ ++ [a], w.S ++ [.lst xs], w.F⟩ : Wd).Lv b := fun b _ n z => by
              rcases z with z | z
              · rcases lv b z with z | rfl
                · exact n (.inr (by rw [h2.frm]; exact .inl z))
                · exact n (.inl la)
              · exact n (.inr (by rw [h2.frm]; exact .inr z))
            have rp2 : RpAll K (⟨w'.H, w.μ ++ [a], w.S ++ [.lst xs], w.F⟩ : Wd).H (⟨w'.H, w.μ ++ [a], w.S ++ [.lst xs], w.F⟩ : Wd).Lv us ps := rp.keep (fun _ _ z _ => z) bk
            have rvs2 : Rvs K (⟨w'.H, w.μ ++ [a], w.S ++ [.lst xs], w.F⟩ : Wd) us xs := by
              have z := rp2.rvs
              rw [← asPs_map hps] at z
              exact z
            have old : ∀ (i : Nat) (b : Addr) (y : O), w.μ[i]? = some b → w.S[i]? = some y → y ≠ O.dead → b ≠ a := fun i b y h1 h2 h3 z => nl (z ▸ .inl ⟨i, y, h1, h2, h3⟩)
            refine h ⟨w'.H, w.μ ++ [a], w.S ++ [.lst xs], w.F⟩ (.ref a) rfl e ⟨by simp [ok.len], fun i j b y y' g1 g2 g3 g4 g5 g6 => ?_, fun i b y g1 g2 => ?_, o1.frm, fun b g1 g2 => ?_⟩ ⟨a, by rw [← ok.len]; exact snoc_get, rfl⟩
            · rcases get_snoc g1 with ⟨n1, e1⟩ | ⟨n1, e1⟩ <;> rcases get_snoc g2 with ⟨n2, e2⟩ | ⟨n2, e2⟩
              · rcases get_snoc g3 with ⟨n3, e3⟩ | ⟨n3, e3⟩
                · rcases get_snoc g5 with ⟨n5, e5⟩ | ⟨n5, e5⟩
                  · exact ok.inj i j b y y' e1 e2 e3 g4 e5 g6
                  · have := ok.len; omega
                · have := ok.len; omega
              · rcases get_snoc g3 with ⟨n3, e3⟩ | ⟨n3, e3⟩
                · exact absurd e2 (old i b y e1 e3 g4)
                · have := ok.len; omega
              · rcases get_snoc g5 with ⟨n5, e5⟩ | ⟨n5, e5⟩
                · exact absurd e1 (old j b y' e2 e5 g6)
                · have := ok.len; omega
              · omega
            · rcases get_snoc g2 with ⟨n2, e2⟩ | ⟨n2, e2⟩
              · rcases get_snoc g1 with ⟨n1, e1⟩ | ⟨n1, e1⟩
                · have z := ok.obj i b y e1 e2
                  have all : ∀ c o, w.H c = some o → w'.H c = some o := fun c o h => h2.keep c o h fun ⟨n, o, h, _⟩ => by cases h
                  cases y with
                  | lst ws => obtain ⟨vs, e2, r⟩ := z; exact ⟨vs, all _ _ e2, Rvs.ext e r⟩
                  | dct kvs => obtain ⟨vs, e2, r⟩ := z; exact ⟨vs, all _ _ e2, Paired.imp (fun _ _ z => ⟨z.1, Rv.ext e z.2⟩) r⟩
                  | dead => trivial
                · have := ok.len; omega
              · rcases get_snoc g1 with ⟨n1, e1⟩ | ⟨n1, e1⟩
                · have := ok.len; omega
                · subst e1; subst e2
                  exact ⟨us, hus, rvs2⟩
            · rcases lv b g1 with z | rfl
              · exact ok.dis b z g2
              · exact nl (.inr g2)
        · have h : After K E (Rv K) (if flatO o then .ok (.rf w.S.length) (w.S ++ [o]) else .stuck) w σ Q := h
          rw [if_neg hf] at h; exact h.elim
theorem s_gcall {X : Cx} {E : WX} {pos : Pos} {k n : Nat} {fa : Addr} {fd : FuncData} {ps : List Str} {r : List W → Sto → R W} {x : Str} {p : Pos} {e : Expr} {es : List Expr} {g : L → Sto → R (List W)} (F : FnOk X.prog X.w X.K X.mg X.base (L2.CX X.prog X.w) k fa fd ps (spMi X.K r n)) (hr : Room k X.A) (hg : Gl X x) (hm : X.mg x = some (.ref fa)) (hk : PySem.W.keepIn X.K (.ref fa) = true) (hb : Binds X.K fd ps []) (tk : Takes X E)
    (hlen : ∀ l S xs S', g l S = .ok xs S' → xs.length = n)
    (ha : PA X (e :: es) (tA X.K E g)) (hdb : (x == ("__debug__" : Str)) = false) (he : starEach (e :: es) X.env = (false, eval e X.env) :: starEach es X.env) (hpl : (backTo pos (starEach es X.env)).any (·.1) = false) :
    PE X (.Call (.Name x p) (e :: es) [] pos) (tE X.K E fun l S => (g l S).bind fun ws S => if ws.all argOk then gcallR (r ws []) S else .stuck) := by
  refine PE.imp' (pe_callS F hr hg hm hk hb (fun σ => passAt tk σ) ha hdb he hpl) fun σ H Q ⟨w, l, eH, ok, lr, h⟩ => ?_
  refine ⟨w, l, eH, ok, lr, (h.bind (Rvs X.K)).imp fun w' v x S hx hS e1 ok1 r1 q => ?_⟩
  obtain ⟨w1, ws, eH1, e1, ok1, r2, h1⟩ := q
  rw [← eH1]
  by_cases hp : ws.all argOk = true
  · rw [if_pos hp] at h1
    exact g_call ok1 r2 ((Rvs.length r1).trans (hlen _ _ _ _ hx)) hp h1
  · rw [if_neg hp] at h1; exact h1.elim
end
end Mi
set_option Elab.async false
set_option linter.all false
set_option maxRecDepth 100000
set_option autoImplicit false
/-! Mi: calls with keywords. -/
namespace Mi
open PySem PySem.Spec L2
section
variable {X : Cx} {E : WX}
def rMinDef (K : PySem.W.Frag) : List V → List V → Hp → VK → Prop := fun xs zs H Q => zs = [.non] ∧ rL K (biW .minD) xs H Q
theorem c_minD (hc : X.calm = true) (hu : X.A.units + 65 < cLine) : CallRK X (.builtin "min") [Str.ofString "default"] (rMinDef X.K) := by
  intro pins s σ H xs zs us ws Q I r rz h
  obtain ⟨rfl, h⟩ := h
  have ew : ws = [.none] := by
    cases rz with
    | cons r1 r2 => cases r2; cases r1; rfl
  subst ew
  rcases rL_pure h with ⟨w, ps, z, rfl, ok, ra, hz, k⟩ | ⟨w, n, a, ws, vs, rfl, ok, rfl, e1, r3, ⟨hb, k⟩ | ⟨ps, _, ⟨hb, _⟩ | ⟨hb, _⟩⟩⟩
  · unfold biP at hz
    split at hz <;> rename_i e <;> (try cases e) <;> (try (cases hz; done))
    rename_i ys
    obtain ⟨v1, rfl, r1⟩ := ra.one
    cases r1 with
      | lst s1 n1 a1 =>
        cases q : intsOf ys with
        | none => rw [q] at hz; cases hz
        | some ns =>
          rw [q] at hz
          have e2 := a1.toInts q
          subst e2
          rw [Vals.ref1 r]
          cases ns with
          | nil =>
            cases hz
            exact min_def_raw hc hu I (ns := []) (SqL.of s1) (fun _ => k w _ rfl Ext.refl ok .non) (fun n r e => by cases e)
          | cons n rr =>
            cases hz
            exact min_def_raw hc hu I (ns := n :: rr) (SqL.of s1) (fun e => by cases e) (fun n' r' e => by cases e; exact k w _ rfl Ext.refl ok (.int _))
  all_goals cases hb
theorem s_minD {x : Str} {e : Expr} {p kp pos cp : Pos} {kd : Nat} {g : L → Sto → R (List W)} (hc : X.calm = true) (hu : X.A.units + 65 < cLine) (hg : Gl X x) (hm : X.mg x = none) (hv : bootBuiltins x = some (.builtin "min"))
    (ha : PA X [e] (tA X.K E g)) (hx : x ≠ "__name__") (hdb : (x == ("__debug__" : Str)) = false) (he : starEach [e] X.env = [(false, eval e X.env)]) :
    PE X (.Call (.Name x p) [e] [⟨some (Str.ofString "default"), .Constant .none kd cp, kp⟩] pos) (tE X.K E fun l S => (g l S).bind fun ws S => biW .minD ws S) := by
  have hk : PK X [⟨some (Str.ofString "default"), .Constant .none kd cp, kp⟩] (tCons (tC .non) tNil) := pk_cons pe_non pk_nil
  refine PE.imp' (pe_callBK (c_minD hc hu) hg hm hv ha hk hx hdb ?h1 ?h2 rfl rfl rfl) fun σ H Q ⟨w, l, eH, ok, lr, h⟩ => ?_
  case h1 => rw [he]; rfl
  case h2 => rw [he]; rfl
  refine tA.bind (g := fun ws l S => biW .minD ws S) eH ok lr h fun w1 vs ws e1 ok1 lr1 r1 h1 => ?_
  exact ⟨rfl, w1, ws, rfl, ok1, r1, AfterV.of (noerr_bi _ _ _) h1⟩
end
end Mi
set_option Elab.async false
set_option linter.all false
set_option maxRecDepth 100000
set_option autoImplicit false
/-! Mi: dicts as values, dict comprehensions, list.index, a range that goes down. -/
namespace Mi
open PySem PySem.Spec L2
/-! ### dict(d) -/
theorem ksOf_rel {K : PySem.W.Frag} {w : Wd} : ∀ {ks : List (Key × V)} {kvs : List (P × P)} {zs : List ((Int ⊕ Str) × W)}, RpKv K w.H w.Lv ks kvs → ksOf kvs = some zs → Paired (fun p q => p.1 = q.1 ∧ Rv K w p.2 q.2) ks zs
  | _, _, _, .nil, h => by cases h; exact .nil
  | _, _, zs, .cons (k := .inl i) (d := d) (kvs := kvs) r t, h => by
    have h : (ksOf kvs).map ((.inl i, .pv d) :: ·) = some zs := h
    rw [Option.map_eq_some_iff] at h
    obtain ⟨ms, h1, rfl⟩ := h
    exact .cons ⟨rfl, r⟩ (ksOf_rel t h1)
  | _, _, zs, .cons (k := .inr i) (d := d) (kvs := kvs) r t, h => by
    have h : (ksOf kvs).map ((.inr i, .pv d) :: ·) = some zs := h
    rw [Option.map_eq_some_iff] at h
    obtain ⟨ms, h1, rfl⟩ := h
    exact .cons ⟨rfl, r⟩ (ksOf_rel t h1)
section
variable {X : Cx} {E : WX} {a b d : Expr} {f g : L → Sto → R W} {pos : Pos}
theorem c_dcp : CallR X (.type "dict") (rL X.K fun ws S => match ws with
    | [x] => dcpW x S
    | _ => .stuck) := by
  intro pins s σ H xs us Q I r h
  obtain ⟨w, as, rfl, ok, ra, k⟩ := h
  dsimp only at k
  split at k
  · rename_i x
    cases ra with
    | cons r1 r2 =>
      cases r2
      cases x with
      | rf _ => exact k.elim
      | sc _ => exact k.elim
      | pv p =>
        cases p with
        | dict kvs =>
          cases r1 with
          | dct s1 n1 a1 =>
            have k : AfterV X.K (match ksOf kvs with
              | some ks => .ok (.rf w.S.length) (w.S ++ [.dct ks])
              | none => .stuck) w Q := k
            cases q2 : ksOf kvs with
            | none => rw [q2] at k; exact k.elim
            | some zs =>
              rw [q2] at k
              refine call_dictD pins s σ w.H _ us Q I r ⟨_, _, rfl, .inl s1, fun q hq => ?_⟩
              obtain ⟨e2, ok2⟩ := made ok hq (u := .dK _) (x := .dct zs) fun w2 x2 q3 => ⟨_, q3, ksOf_rel (RpKv.ext x2 a1) q2⟩
              exact k ⟨upd w.H q _, w.μ ++ [q], w.S ++ [.dct zs], w.F⟩ (.ref q) rfl e2 ok2 ⟨q, by rw [← ok.len]; exact snoc_get, rfl⟩
        | _ => exact k.elim
  · exact k.elim
theorem noerr_dcp (x : W) (S : Sto) : NoErr (dcpW x S) := by
  intro e S' h; unfold dcpW at h; split at h
  · split at h <;> cases h
  · cases h
/-! ### d.get(k, None) -/
theorem s_dget {o i : Expr} {apos cpos cp : Pos} {kd : Nat} (hu : X.A.units + 65 < cLine) (ho : PE X o (tE X.K E f)) (hi : PE X i (tE X.K E g))
    (hbase : attributeBase o "get" X.env (eval o X.env) = eval o X.env) (hs : starEach [i, .Constant .none kd cp] X.env = [(false, eval i X.env), (false, eval (.Constant .none kd cp) X.env)]) (hline : (apos.endLine == cpos.line) = true) :
    PE X (.Call (.Attribute o "get" apos) [i, .Constant .none kd cp] [] cpos) (tE X.K E fun l S => (f l S).bind fun x S => if isDct x then (g l S).bind fun y S => dgetW x y S else .stuck) := by
  have m : M2 X o "get" apos i (.Constant .none kd cp) cpos := ⟨hbase, by rw [hs]; rfl, hline, by rw [hs]; rfl⟩
  refine PE.imp' (pe_dget2 (by omega) ho hi pe_non m) fun σ H Q ⟨w, l, eH, ok, lr, h⟩ => ?_
  refine tE.bind (g := fun x l S => if isDct x then (g l S).bind fun y S => dgetW x y S else .stuck) eH ok lr h fun w1 v x e1 ok1 lr1 r1 h1 => ?_
  cases x with
  | rf _ => exact h1.elim
  | sc _ => exact h1.elim
  | pv p =>
    cases p with
    | dict kvs =>
      cases r1 with
      | dct s1 n1 a1 =>
        rename_i ad ks
        refine ⟨ad, rfl, .inl ⟨_, .inl s1⟩, ?_⟩
        refine tE.bind (g := fun y l S => dgetW (.pv (.dict kvs)) y S) rfl ok1 lr1 h1 fun w2 u y e2 ok2 lr2 r2 h2 => ?_
        have s2 : w2.H ad = some (.dK ks) := e2.keepV _ _ s1 n1
        have a2 : RpKv X.K w2.H w2.Lv ks kvs := RpKv.ext e2 a1
        have key : ∀ kk : Int ⊕ Str, u = kV kk → After X.K E (Rv X.K) (.ok (.pv ((dgetP kvs kk).getD .none)) w2.S) w2 σ Q → ∃ o, DGet w2.H ad u o ∧ Q (o.getD .non) w2.H := fun kk e h => by
          subst e
          obtain ⟨c1, c2⟩ := a2.val (k := kk)
          refine ⟨_, DGet.k s2, ?_⟩
          cases q : dgetP kvs kk with
          | none => rw [c2 q]; rw [q] at h; exact h w2 _ rfl Ext.refl ok2 .non
          | some p =>
            obtain ⟨z, hz, rz⟩ := c1 p q
            rw [hz]; rw [q] at h; exact h w2 _ rfl Ext.refl ok2 rz
        show ∃ o, DGet w2.H ad u o ∧ Q (o.getD .non) w2.H
        cases y with
        | rf _ => exact h2.elim
        | sc _ => exact h2.elim
        | pv q =>
          cases q with
          | int k => cases r2; exact key (.inl k) rfl h2
          | str k => cases r2; exact key (.inr k) rfl h2
          | _ => exact h2.elim
    | _ => exact h1.elim
/-! ### range(i, j, -1) -/
theorem rngD_length : ∀ (n : Nat) (i : Int), (rngD i n).length = n
  | 0, _ => rfl
  | n + 1, i => by unfold rngD; rw [List.length_cons, rngD_length n]
theorem rngD_get : ∀ (n : Nat) (i : Int) (j : Nat) (p : P), (rngD i n)[j]? = some p → j < n ∧ p = .int (i + (j : Nat) * (-1))
  | 0, _, _, _, h => by cases h
  | n + 1, i, 0, p, h => by cases h; exact ⟨Nat.succ_pos _, by congr 1; omega⟩
  | n + 1, i, j + 1, p, h => by
    obtain ⟨h1, h2⟩ := rngD_get n (i - 1) j p h
    exact ⟨Nat.succ_lt_succ h1, by rw [h2]; congr 1; omega⟩
theorem j_rngD {K : PySem.W.Frag} {w : Wd} (lo : Int) (n : Nat) (hn : n ≤ sizeLine) : JOk K w (Itc lo (-1) n) (rngD lo n) := ⟨fun w1 i e ok => by
  refine ⟨fun p hp => ?_, fun hi => by rw [rngD_length] at hi; exact Nat.le_of_eq hi.symm⟩
  obtain ⟨h1, rfl⟩ := rngD_get _ _ _ _ hp
  exact ⟨h1, fun x H' ⟨h2, h3⟩ => ⟨w1, h2.symm, rfl, Ext.refl, ok, by rw [h3]; exact .int _⟩⟩,
  fun _ => by rw [rngD_length]; exact hn⟩
theorem i_rng3 {tg a b d : Expr} {g : L → Sto → R (List W)} {p : Pos} (hg : Gl X "range") (hm : X.mg "range" = none) (ha : PA X [a, b, d] (tA X.K E g)) (hs : starEach [a, b, d] X.env = (false, eval a X.env) :: starEach [b, d] X.env) (hpl : (backTo pos (starEach [b, d] X.env)).any (·.1) = false) :
    PI X tg (.Call (.Name "range" p) [a, b, d] [] pos) (tI X.K E fun l S => (g l S).bind fun ws S => itR .rng3 ws S) := by
  refine PI.imp' (pi_range3 hg hm ha hs hpl) fun σ H Q ⟨w, l, eH, ok, lr, h⟩ => ?_
  refine tA.bind (RV2 := JOk X.K) (g := fun x l S => itR .rng3 x S) eH ok lr h fun w1 v xs e1 ok1 lr1 r1 h1 => ?_
  cases q : items .rng3 xs with
  | none => unfold itR at h1; rw [q] at h1; exact h1.elim
  | some ps =>
    unfold itR at h1; rw [q] at h1
    unfold items at q
    split at q <;> rename_i e <;> (try cases e) <;> (try (cases q; done))
    obtain ⟨⟨rfl, c1, c2, c3, c4, c5⟩, rfl⟩ := some_if q
    obtain ⟨v0, r, rfl, rv, rr⟩ := Rvs.uncons r1
    obtain ⟨v1, r, rfl, rv1, rr⟩ := Rvs.uncons rr
    obtain ⟨v2, r, rfl, rv2, rr⟩ := Rvs.uncons rr
    cases rr
    cases rv
    cases rv1
    cases rv2
    exact ⟨_, _, _, _, rfl, RgC.neg c1 c2 c3 c4, h1 w1 (Itc _ _ _) rfl Ext.refl ok1 (j_rngD _ _ (by rw [sizeLine_eq]; unfold maxLen at *; omega))⟩
/-! ### l.index(x) -/
theorem posP_spec {x : P} : ∀ {ys : List P} {n m : Nat}, posP x ys n = some m → ∃ j z, m = n + j ∧ ys[j]? = some z ∧ PyData.eqv z x = true ∧ ∀ (i : Nat) (z' : P), i < j → ys[i]? = some z' → PyData.eqv z' x = false
  | [], _, _, h => by cases h
  | y :: r, n, m, h => by
    unfold posP at h
    cases q : PyData.eqv y x with
    | true =>
      rw [q] at h
      cases h
      exact ⟨0, y, rfl, rfl, q, fun i _ h => absurd h (Nat.not_lt_zero i)⟩
    | false =>
      rw [q] at h
      obtain ⟨j, z, h1, h2, h3, h4⟩ := posP_spec (show posP x r (n + 1) = some m from h)
      refine ⟨j + 1, z, by omega, h2, h3, fun i z' hi hz => ?_⟩
      cases i with
      | zero => simp at hz; subst hz; exact q
      | succ i => exact h4 i z' (by omega) (by simpa using hz)
theorem m_lidx (hu : X.A.units + 65 < cLine) : MtR X "list.index" (rM X.K fun x ys S => match ys with
    | [y] => pure2 lidxP x y S
    | _ => .stuck) := by
  intro pins s σ H x xs v us Q I rx rxs h
  obtain ⟨w, a, as, rfl, ok, r1, r2, k⟩ := h
  dsimp only at k
  split at k
  · rename_i y
    cases r2 with
    | cons r2 r3 =>
      cases r3
      cases a with
      | rf _ => exact k.elim
      | sc _ => exact k.elim
      | pv p =>
        cases y with
        | rf _ => exact k.elim
        | sc _ => exact k.elim
        | pv q =>
          have k : AfterV X.K (retP (lidxP p q) w.S) w Q := k
          cases hz : lidxP p q with
          | none => rw [hz] at k; exact k.elim
          | some z =>
            rw [hz] at k
            unfold lidxP at hz
            split at hz
            · rename_i ds
              obtain ⟨hc, hz⟩ : (SeqAt.shaped (.list ds) && SeqAt.shaped q) = true ∧ (posP q ds 0).map (fun n => PyData.int (n : Nat)) = some z := by
                split at hz
                · rename_i hc; exact ⟨hc, hz⟩
                · cases hz
              obtain ⟨h1, h2⟩ := Bool.and_eq_true_iff.mp hc
              rw [Option.map_eq_some_iff] at hz
              obtain ⟨m, hm, rfl⟩ := hz
              obtain ⟨j, z, e, g1, g2, g3⟩ := posP_spec hm
              rw [Nat.zero_add] at e
              subst e
              cases r1 with
              | lst s1 n1 a1 =>
                refine mt_indexD hu pins s σ w.H _ _ v us Q I rx rxs ⟨_, _, q, ds, m, z, rfl, rfl, .lst (SqL.of s1) (a1.dp (by simpa [PyData.canLay0] using SeqAt.canLay_of_shaped h1)), Rp.dp r2 (SeqAt.canLay_of_shaped h2), h1, h2, g1, g2, g3, ?_⟩
                exact k w _ rfl Ext.refl ok (.int _)
            · cases hz
  · exact k.elim
theorem s_lidx {o e : Expr} {apos cpos : Pos} (hu : X.A.units + 65 < cLine) (ho : PE X o (tE X.K E f)) (he : PE X e (tE X.K E g))
    (hbase : attributeBase o "index" X.env (eval o X.env) = eval o X.env) (hs : starEach [e] X.env = (false, eval e X.env) :: starEach [] X.env) (hline : (apos.endLine == cpos.line) = true) :
    PE X (.Call (.Attribute o "index" apos) [e] [] cpos) (tE X.K E fun l S => (f l S).bind fun x S => if isLstP x then (g l S).bind fun y S => pure2 lidxP x y S else .stuck) := by
  have hfew : ((backTo cpos (starEach [e] X.env)).all (fun x => !x.1) && (backToKw cpos (keywordEach [] X.env)).all (fun x => x.1.isSome)
      && decide ([e].length + ([] : List Keyword).length + (if ([] : List Keyword).isEmpty then 0 else 1) < 30)) = true := by rw [hs]; rfl
  refine PE.imp' (pe_bm PySem.F.plainAttrs_list PySem.F.slot_list_index PySem.F.type_list_index (m_lidx hu) ho (s_cons he s_nil hs) hbase hfew hline hs rfl) fun σ H Q ⟨w, l, eH, ok, lr, h⟩ => ?_
  refine tE.bind (g := fun x l S => if isLstP x then (g l S).bind fun y S => pure2 lidxP x y S else .stuck) eH ok lr h fun w1 v x e1 ok1 lr1 r1 h1 => ?_
  cases x with
  | rf _ => exact h1.elim
  | sc _ => exact h1.elim
  | pv p =>
    cases p with
    | list ds =>
      have ty : tyV X.K "list" v w1.H := by
        cases r1 with
        | lst s1 n1 a1 => exact .inl ⟨rfl, _, SqL.of s1⟩
      have h1 : After X.K E (Rv X.K) ((g l w1.S).bind fun y S => pure2 lidxP (.pv (.list ds)) y S) w1 σ Q := h1
      refine ⟨ty, w1, l, rfl, ok1, lr1, ?_⟩
      have h2 := After.bind (Rv X.K) h1
      show After X.K E (Rvs X.K) ((g l w1.S).bind fun x S => (R.ok [] S).bind fun xs S => R.ok (x :: xs) S) w1 σ _
      cases q : g l w1.S with
      | stuck => rw [q] at h2; exact h2
      | err z S => rw [q] at h2; exact h2
      | ok y S =>
        rw [q] at h2
        intro w2 vs h3 h4 h5 h6
        cases h6 with
        | cons r2 r3 =>
          cases r3
          obtain ⟨w3, y', eH3, e3, ok3, r4, h7⟩ := h2 w2 _ h3 h4 h5 r2
          rw [← eH3]
          exact ⟨w3, .pv (.list ds), [y'], rfl, ok3, r1.ext e3, .cons r4 .nil, AfterV.of (noerr2 _ _ _) h7⟩
    | _ => exact h1.elim
end
end Mi
set_option Elab.async false
set_option linter.all false
set_option maxRecDepth 100000
set_option autoImplicit false
/-! Mi: dict comprehensions. -/
namespace Mi
open PySem PySem.Spec L2
section
variable {X : Cx} {E : WX} {pos : Pos}
def dcTurn (g : W → L → Sto → R L) (ft : L → Sto → R Bool) (fk fv : L → Sto → R W) (l : L) : P → Sto → R (Option ((Int ⊕ Str) × P)) := fun x S => ((g (.pv x) l S).bind fun l1 S => (ft l1 S).bind fun k S =>
  if k then (fk l1 S).bind fun y S => (fv l1 S).bind fun z S => dcPair y z S
  else .ok none S).calm
theorem dcPair_ok {y z : W} {S S' : Sto} {o : Option ((Int ⊕ Str) × P)} (h : dcPair y z S = .ok o S') : ∃ k p, y = .pv (kP k) ∧ z = .pv p ∧ o = some (k, p) ∧ S' = S := by
  unfold dcPair at h
  split at h
  · cases h; exact ⟨.inl _, _, rfl, rfl, rfl, rfl⟩
  · cases h; exact ⟨.inr _, _, rfl, rfl, rfl, rfl⟩
  · cases h
theorem rp_key {K : PySem.W.Frag} {H : Hp} {B : Addr → Prop} {v : V} {k : Int ⊕ Str} (r : Rp K H B v (kP k)) : v = kV k := by
  cases k <;> cases r <;> rfl
theorem clm_bind2 {α β : Type} {r : R α} {f : α → Sto → R β} {a : α} {S : Sto} (h : r = .ok a S) : (r.bind f) = f a S := by rw [h]; rfl
theorem clm_ok {α : Type} {r : R α} {a : α} {S : Sto} (h : r.calm = .ok a S) : r = .ok a S := by
  cases r with
  | ok _ _ => exact h
  | err _ _ => cases h
  | stuck => cases h
theorem bnd_ok {α β : Type} {r : R α} {f : α → Sto → R β} {b : β} {S : Sto} (h : r.bind f = .ok b S) : ∃ a S1, r = .ok a S1 ∧ f a S1 = .ok b S := by
  cases r with
  | ok a S1 => exact ⟨a, S1, rfl, h⟩
  | err _ _ => cases h
  | stuck => cases h
theorem dc_read {K : PySem.W.Frag} {f : L → Sto → R (List P)} {g : W → L → Sto → R L} {ft : L → Sto → R Bool} {fk fv : L → Sto → R W} (vs : List Nat) {σ : L2.St} {H : Hp} {Q : VK}
    (h : tE K E (fun l S => (f l S).bind fun ps S => (dcGo (dcTurn g ft fk fv (wipe l vs)) ps [] S).bind fun ys S => .ok (.pv (.dict ys)) S) σ H Q) :
    tDc (tI K E f) (tGw K vs g) (tT K E0 ft) (tE K E0 fk) (tE K E0 fv) vs σ H Q := by
  obtain ⟨w, l, eH, ok, lr, h0⟩ := h
  refine ⟨w, l, eH, ok, lr, (h0.bind (JOk K)).imp fun w' J x S _ _ _ _ _ q => ?_⟩
  obtain ⟨w1, ps, eH1, e1, ok1, jok, h1⟩ := q
  rw [← eH1]
  intro D hD
  generalize hturn : dcTurn g ft fk fv (wipe l vs) = turn at h1
  have lr1 := lr.ext e1
  have F1 : ∀ a, w1.F a → (w1.plus D (.dK [])).F a := fun a z => .inl z
  have nD : ¬ w1.F D := fun z => by obtain ⟨o, z⟩ := ok1.frm D z; rw [hD] at z; cases z
  refine ⟨fun i m H => ∃ (wi : Wd) (acc : List (Key × V)) (qs : List (P × P)), wi.H = H ∧ wi.F = (w1.plus D (.dK [])).F ∧ Ok K wi ∧ H D = some (.dK acc) ∧ RpKv K wi.H wi.Lv acc qs ∧ m = ps.length - i ∧ i ≤ ps.length ∧
    Pres w1 wi ∧ Ext K w1 (wi.out w1.F) ∧ Lr K wi (L2.wipe σ vs) (Mi.wipe l vs) ∧ After K E (Rv K) ((dcGo turn (ps.drop i) qs wi.S).bind fun ys S => .ok (.pv (.dict ys)) S) w1 σ Q, ?_, ?_⟩
  · refine ⟨ps.length, w1.plus D (.dK []), [], [], rfl, rfl, plus_ok ok1 hD _, upd_same, .nil, rfl, Nat.zero_le _, plus_pres ok1 hD _, ?_, (plus_pres ok1 hD _).lr (fun _ _ z => z) (lr1.wipe vs), ?_⟩
    · exact (laid ok1 hD (.dK [])).1
    · exact h1
  rintro i m H ⟨wi, acc, qs, rfl, hF, oki, hacc, racc, rfl, hle, pri, exi, lri, h2⟩
  have Fi : ∀ a, w1.F a → wi.F a := fun a z => by rw [hF]; exact F1 a z
  have FD : wi.F D := by rw [hF]; exact .inr rfl
  obtain ⟨j1, j2⟩ := jok.1 wi i pri oki
  cases hi' : ps[i]? with
  | none =>
    have hl : i = ps.length := by
      have := List.getElem?_eq_none_iff.mp hi'
      omega
    refine .inl ⟨j2 hl, ?_⟩
    rw [List.drop_eq_nil_of_le (by omega)] at h2
    have h3 : After K E (Rv K) (.ok (.pv (.dict qs)) wi.S) w1 σ Q := h2
    refine h3 (wi.out w1.F) (.ref D) rfl exi (out_ok oki Fi) ?_
    exact Rp.dct hacc (fun z => z.elim (fun z => oki.dis D z FD) nD) (racc.keep (out_pres Fi).keep (out_pres Fi).held)
  | some p =>
    obtain ⟨hlt, hget⟩ := List.getElem?_eq_some_iff.mp hi'
    obtain ⟨jg, jy⟩ := j1 p hi'
    have hd : ps.drop i = p :: ps.drop (i + 1) := by rw [List.drop_eq_getElem_cons hlt, hget]
    rw [hd] at h2
    have h2 : After K E (Rv K) (((turn p wi.S).bind fun o S1 => match o with
      | some kv => if qs.length < maxLen then dcGo turn (ps.drop (i + 1)) (putP qs kv.1 kv.2) S1 else .stuck
      | none => dcGo turn (ps.drop (i + 1)) qs S1).bind fun ys S => .ok (.pv (.dict ys)) S) w1 σ Q := h2
    refine .inr ⟨jg, fun H' => ∃ (wi : Wd) (acc : List (Key × V)) (qs : List (P × P)), wi.H = H' ∧ wi.F = (w1.plus D (.dK [])).F ∧ Ok K wi ∧ H' D = some (.dK acc) ∧ RpKv K wi.H wi.Lv acc qs ∧
      Pres w1 wi ∧ Ext K w1 (wi.out w1.F) ∧ Lr K wi (L2.wipe σ vs) (Mi.wipe l vs) ∧ After K E (Rv K) ((dcGo turn (ps.drop (i + 1)) qs wi.S).bind fun ys S => .ok (.pv (.dict ys)) S) w1 σ Q,
      fun H' ⟨w3, a3, q3, b1, b2, b3, b4, b5, b7, b8, b9, b10⟩ => ⟨ps.length - (i + 1), by omega, w3, a3, q3, b1, b2, b3, b4, b5, rfl, hlt, b7, b8, b9, b10⟩, fun x H' hy => ?_⟩
    obtain ⟨w3, rfl, eS3, e3, ok3, rp⟩ := jy x H' hy
    have hacc3 : w3.H D = some (.dK acc) := by
      refine e3.keep D _ hacc fun z => oki.dis D z FD
    have lr3 : Lr K w3 (L2.wipe σ vs) (Mi.wipe l vs) := lri.ext e3
    rw [← eS3] at h2
    have key : turn p w3.S = ((g (.pv p) (Mi.wipe l vs) w3.S).bind fun l1 S => (ft l1 S).bind fun k S =>
      if k then (fk l1 S).bind fun y S => (fv l1 S).bind fun z S => dcPair y z S
      else .ok none S).calm := by rw [← hturn]; rfl
    refine ⟨w3, Mi.wipe l vs, .pv p, rfl, ok3, lr3, rp, ?_⟩
    -- the turn went well
    cases q0 : turn p w3.S with
    | err x S => rw [q0] at key; cases q1 : ((g (.pv p) (Mi.wipe l vs) w3.S).bind fun l1 S => (ft l1 S).bind fun k S =>
      if k then (fk l1 S).bind fun y S => (fv l1 S).bind fun z S => dcPair y z S
      else .ok none S) <;> rw [q1] at key <;> cases key
    | stuck => rw [q0] at h2; exact h2.elim
    | ok o S9 =>
      rw [q0] at h2
      rw [q0] at key
      have key := clm_ok key.symm
      obtain ⟨l4, S4, q1, key⟩ := bnd_ok key
      obtain ⟨k, S5, q2, key⟩ := bnd_ok key
      rw [q1]
      intro w4 σ4 a1 a2 a3 a4 hw4
      refine ⟨hw4.trans (wipe_idem _ _), w4, l4, rfl, a3, a4, ?_⟩
      rw [a1, q2]
      intro w5 k' c1 c2 c3 c4
      cases (show k' = k from c4)
      have e5 := (e3.trans a2).trans c2
      have hacc5 : w5.H D = some (.dK acc) := (a2.trans c2).keep D _ hacc3 fun z => ok3.dis D z (by rw [e3.frm]; exact FD)
      have F5 : w5.F = (w1.plus D (.dK [])).F := by rw [e5.frm, hF]
      cases k with
      | false =>
        have key : R.ok none S5 = R.ok o S9 := key
        cases key
        have h2 : After K E (Rv K) ((dcGo turn (ps.drop (i + 1)) qs S9).bind fun ys S => .ok (.pv (.dict ys)) S) w1 σ Q := h2
        refine ⟨w5, acc, qs, rfl, F5, c3, hacc5, RpKv.ext e5 racc, pri.trans e5.pres, exi.trans (out_ext e5), lri.ext e5, ?_⟩
        rw [c1]
        exact h2
      | true =>
        rw [if_pos rfl]
        obtain ⟨y, S6, q3, key⟩ := bnd_ok key
        obtain ⟨z, S7, q4, key⟩ := bnd_ok key
        obtain ⟨kk, pz, rfl, rfl, rfl, rfl⟩ := dcPair_ok key
        have h2 : After K E (Rv K) ((if qs.length < maxLen then dcGo turn (ps.drop (i + 1)) (putP qs kk pz) S9 else .stuck).bind fun ys S => .ok (.pv (.dict ys)) S) w1 σ Q := h2
        by_cases hlen : qs.length < maxLen
        · rw [if_pos hlen] at h2
          refine ⟨w5, l4, rfl, c3, a4.ext c2, ?_⟩
          rw [c1, q3]
          intro w6 v6 d1 d2 d3 d4
          refine ⟨w6, l4, rfl, d3, (a4.ext c2).ext d2, ?_⟩
          rw [d1, q4]
          intro w7 v7 f1 f2 f3 f4
          have e6 := (e5.trans d2).trans f2
          have F6 : w7.F = (w1.plus D (.dK [])).F := by rw [e6.frm, hF]
          have hD6 : w7.F D := by rw [F6]; exact .inr rfl
          have hacc6 : w7.H D = some (.dK acc) := (d2.trans f2).keep D _ hacc5 fun z => c3.dis D z (by rw [F5]; exact .inr rfl)
          have eo : Ext K w1 ((⟨upd w7.H D (.dK (putK acc kk v7)), w7.μ, w7.S, w7.F⟩ : Wd).out w1.F) := by
            have z0 := exi.trans (out_ext (F := w1.F) e6)
            refine ⟨fun a o z n => ?_, z0.new, rfl, z0.pre⟩
            show upd w7.H D _ a = _
            rw [upd_ne (ne_of_none z hD)]
            exact z0.keep a o z n
          have r7 : Rp K w7.H w7.Lv v7 pz := f4
          have rk := (RpKv.ext e6 racc).put r7 kk
          refine ⟨acc, kk, rp_key d4, hacc6, by rw [racc.length, sizeLine_eq]; exact hlen, ⟨upd w7.H D (.dK (putK acc kk v7)), w7.μ, w7.S, w7.F⟩, putK acc kk v7, putP qs kk pz, rfl, F6, dset_ok f3 hD6 _, upd_same, rk.keep (dset_pres hD6 _).keep (dset_pres hD6 _).held,
            (pri.trans e6.pres).trans (dset_pres hD6 _), eo, (dset_pres hD6 _).lr (fun _ _ z => z) (lri.ext e6), ?_⟩
          show After K E (Rv K) ((dcGo turn (ps.drop (i + 1)) (putP qs kk pz) w7.S).bind fun ys S => .ok (.pv (.dict ys)) S) w1 σ Q
          rw [f1]
          exact h2
        · rw [if_neg hlen] at h2; exact h2.elim
theorem s_dcomp {kx vx tg iter : Expr} {ifs : List Expr} {scope : Scope} {own : List (Str × Nat)} {f : L → Sto → R (List P)} {g : W → L → Sto → R L} {ft : L → Sto → R Bool} {fk fv : L → Sto → R W} {vs : List Nat} (hvs : own.map (·.2) = vs)
    (hc : X.calm = true) (hN : X.N.Nodup) (hi : PI X tg iter (tI X.K E f)) (ok : BlkOk X.N X.env.scope scope own)
    (hg : ∀ (s : Shared) (H : Hp) (C : Addr) (cl : List (Str × Addr)) (fp : List Addr), PG (X.blk s H scope (compEnvC scope cl C X.env) fp) tg (tGw X.K vs g)) (ht : ∀ (s : Shared) (H : Hp) (C : Addr) (cl : List (Str × Addr)) (fp : List Addr), PTs (X.blk s H scope (compEnvC scope cl C X.env) fp) ifs (tT X.K E0 ft))
    (hk : ∀ (s : Shared) (H : Hp) (C : Addr) (cl : List (Str × Addr)) (fp : List Addr), PE (X.blk s H scope (compEnvC scope cl C X.env) fp) kx (tE X.K E0 fk))
    (he : ∀ (s : Shared) (H : Hp) (C : Addr) (cl : List (Str × Addr)) (fp : List Addr), PE (X.blk s H scope (compEnvC scope cl C X.env) fp) vx (tE X.K E0 fv)) (hs : ∀ x, foldedSetIterable iter X.env x = pure x) :
    PE X (.DictComp kx vx [⟨tg, iter, ifs, 0⟩] scope pos) (tE X.K E fun l S => (f l S).bind fun ps S => (dcGo (dcTurn g ft fk fv (wipe l vs)) ps [] S).bind fun ys S => .ok (.pv (.dict ys)) S) := by
  subst hvs
  exact PE.imp' (pe_dc hc hN hi ok hg ht hk he hs) fun σ H Q h => dc_read _ h
/-- name = {..: .. for ..} on one line -/
theorem s_setDc {i : Nat} {y : Str} {py spos : Pos} {kx vx tg iter : Expr} {ifs : List Expr} {scope : Scope} {own : List (Str × Nat)} {f : L → Sto → R (List P)} {g : W → L → Sto → R L} {ft : L → Sto → R Bool} {fk fv : L → Sto → R W} {vs : List Nat} (hvs : own.map (·.2) = vs)
    (hc : X.calm = true) (hN : X.N.Nodup) (hy : X.N[i]? = some y) (hyl : X.env.scope.names.lookup y = some .local)
    (hsw : swapsWith (.DictComp kx vx [⟨tg, iter, ifs, 0⟩] scope pos) (some (.Name y py)) spos.line X.env = pure true) (hi : PI X tg iter (tI X.K E f)) (ok : BlkOk X.N X.env.scope scope own)
    (hg : ∀ (s : Shared) (H : Hp) (C : Addr) (cl : List (Str × Addr)) (fp : List Addr), PG (X.blk s H scope (compEnvC scope cl C X.env) fp) tg (tGw X.K vs g)) (ht : ∀ (s : Shared) (H : Hp) (C : Addr) (cl : List (Str × Addr)) (fp : List Addr), PTs (X.blk s H scope (compEnvC scope cl C X.env) fp) ifs (tT X.K E0 ft))
    (hk : ∀ (s : Shared) (H : Hp) (C : Addr) (cl : List (Str × Addr)) (fp : List Addr), PE (X.blk s H scope (compEnvC scope cl C X.env) fp) kx (tE X.K E0 fk))
    (he : ∀ (s : Shared) (H : Hp) (C : Addr) (cl : List (Str × Addr)) (fp : List Addr), PE (X.blk s H scope (compEnvC scope cl C X.env) fp) vx (tE X.K E0 fv)) (hs : ∀ x, foldedSetIterable iter X.env x = pure x) :
    PS X (.Assign [.Name y py] (.DictComp kx vx [⟨tg, iter, ifs, 0⟩] scope pos) spos) (tS X.K E fun l S => SR.thenR ((f l S).bind fun ps S => (dcGo (dcTurn g ft fk fv (wipe l vs)) ps [] S).bind fun ys S => .ok (.pv (.dict ys)) S) l fun w S => SR.thenR (R.calm (.ok (l.set i (some w)) S)) l fun l1 S => .nx l1 S) := by
  subst hvs
  have base : PS X (.Assign [.Name y py] (.DictComp kx vx [⟨tg, iter, ifs, 0⟩] scope pos) spos) (tAsg (tDc (tI X.K E f) (tGw X.K (own.map (·.2)) g) (tT X.K E0 ft) (tE X.K E0 fk) (tE X.K E0 fv) (own.map (·.2))) (gName i)) := by
    refine ⟨fun pins s σ H D I h => ?_⟩
    rw [exec_Assign_Name_used _ _ _ _ hsw]; refine wpAny_bind (wpAny_standAt (wpAny_bind ?_))
    show wpAny _ X.A (do let _ ← comprehension (.DictComp kx vx [⟨tg, iter, ifs, 0⟩] scope pos) scope X.env _ newDict false (eval iter X.env) (some (assign (.Name y py) X.env))) _ _ s
    have h : tDc (tI X.K E f) (tGw X.K (own.map (·.2)) g) (tT X.K E0 ft) (tE X.K E0 fk) (tE X.K E0 fv) (own.map (·.2)) σ H (fun x H1 => gName i x σ H1 D.nx) := h
    refine wpAny_bind (thn (dc_core (Qf := fun _ s' => SP X pins D .next s') hc hN I hi ok hg ht hk he hs h fun Dn C s' m H' I' q hn fo => ?_) fun _ s' hq => wpAny_pure (wpAny_pure hq))
    show wpAny _ _ (assign (.Name y py) X.env (.ref Dn)) _ _ _
    obtain ⟨z0, z1, z2, z3, z4, z5⟩ := fo
    refine wpAny_assign_Name (store_ok2 (v := V.ref Dn) I' hN hy (.inl hyl) rfl (fun s2 I2 ⟨a, sb, ha⟩ => ?_) (.inr hyl))
    have nCa : C ≠ a := by
      rcases ha with z | z
      · rw [z]; exact z1
      · intro e; exact z4 y a z e.symm
    exact ⟨m, hn.sameBut sb nCa, fun h3 sb3 => ⟨_, H', I2.turned (t' := s2.toks) (fun b o hb e => (sb3.2 b hb).trans e) z0 z1 z3 z4 z5, q⟩⟩
  exact s_setT (f := fun l S => (f l S).bind fun ps S => (dcGo (dcTurn g ft fk fv (wipe l (own.map (·.2)))) ps [] S).bind fun ys S => .ok (.pv (.dict ys)) S) base fun σ H Q h => dc_read _ h
end
end Mi
set_option Elab.async false
set_option linter.all false
set_option maxRecDepth 100000
set_option autoImplicit false
/-! Mi: list comprehensions of two clauses; setdefault with a new list. -/
namespace Mi
open PySem PySem.Spec L2
section
variable {X : Cx} {E : WX} {pos : Pos}
theorem rb_assoc {α β γ : Type} (r : R α) (f : α → Sto → R β) (g : β → Sto → R γ) : (r.bind f).bind g = r.bind fun a S => (f a S).bind g := by cases r <;> rfl
def lc2Turn (g : W → L → Sto → R L) (ft : L → Sto → R Bool) (f1 : L → Sto → R (List P)) (g1 : W → L → Sto → R L) (ft1 : L → Sto → R Bool) (fe : L → Sto → R W) (vs1 : List Nat) (l : L) : P → Sto → R (List P) := fun x S => ((g (.pv x) l S).bind fun l1 S => (ft l1 S).bind fun k S =>
  if k then (f1 l1 S).bind fun ps S => lcGo (lcTurn g1 ft1 fe (wipe l1 vs1)) ps S
  else .ok [] S).calm
theorem calm_noerr {α : Type} (r : R α) (x : Ex) (S : Sto) : r.calm ≠ .err x S := by cases r <;> intro h <;> cases h
theorem lcTurn_calm {g : W → L → Sto → R L} {ft : L → Sto → R Bool} {fe : L → Sto → R W} {l : L} : ∀ p S x S', lcTurn g ft fe l p S ≠ .err x S' := fun _ _ _ _ => calm_noerr _ _ _
theorem lcGo_noerr {turn : P → Sto → R (Option P)} (h : ∀ p S x S', turn p S ≠ .err x S') : ∀ (ps : List P) (S : Sto) (x : Ex) (S' : Sto), lcGo turn ps S ≠ .err x S'
  | [], S, x, S' => fun e => by cases e
  | p :: r, S, x, S' => fun e => by
    have e : ((turn p S).bind fun o S1 => (lcGo turn r S1).bind fun ys S2 => match o with
      | some y => .ok (y :: ys) S2
      | none => .ok ys S2) = .err x S' := e
    cases q : turn p S with
    | err y S1 => exact h _ _ _ _ q
    | stuck => rw [q] at e; cases e
    | ok o S1 =>
      rw [q] at e
      have e : ((lcGo turn r S1).bind fun ys S2 => match o with
        | some y => .ok (y :: ys) S2
        | none => .ok ys S2) = .err x S' := e
      cases q2 : lcGo turn r S1 with
      | err y S2 => exact lcGo_noerr h _ _ _ _ q2
      | stuck => rw [q2] at e; cases e
      | ok ys S2 => rw [q2] at e; cases o <;> cases e
theorem lc2Turn_calm {g g1 : W → L → Sto → R L} {ft ft1 : L → Sto → R Bool} {f1 : L → Sto → R (List P)} {fe : L → Sto → R W} {vs1 : List Nat} {l : L} : ∀ p S x S', lc2Turn g ft f1 g1 ft1 fe vs1 l p S ≠ .err x S' := fun _ _ _ _ => calm_noerr _ _ _
theorem lc2Go_noerr {turn : P → Sto → R (List P)} (h : ∀ p S x S', turn p S ≠ .err x S') : ∀ (ps : List P) (S : Sto) (x : Ex) (S' : Sto), lc2Go turn ps S ≠ .err x S'
  | [], S, x, S' => fun e => by cases e
  | p :: r, S, x, S' => fun e => by
    have e : ((turn p S).bind fun o S1 => (lc2Go turn r S1).bind fun ys S2 => .ok (o ++ ys) S2) = .err x S' := e
    cases q : turn p S with
    | err y S1 => exact h _ _ _ _ q
    | stuck => rw [q] at e; cases e
    | ok o S1 =>
      rw [q] at e
      have e : ((lc2Go turn r S1).bind fun ys S2 => .ok (o ++ ys) S2) = .err x S' := e
      cases q2 : lc2Go turn r S1 with
      | err y S2 => exact lc2Go_noerr h _ _ _ _ q2
      | stuck => rw [q2] at e; cases e
      | ok ys S2 => rw [q2] at e; cases e
theorem lc2_read {K : PySem.W.Frag} {f f1 : L → Sto → R (List P)} {g g1 : W → L → Sto → R L} {ft ft1 : L → Sto → R Bool} {fe : L → Sto → R W} (vs vs1 : List Nat) {σ : L2.St} {H : Hp} {Q : VK}
    (h : tE K E (fun l S => (f l S).bind fun ps S => (lc2Go (lc2Turn g ft f1 g1 ft1 fe vs1 (wipe l vs)) ps S).bind lc2End) σ H Q) :
    tLc2 (tI K E f) (tGw K vs g) (tT K E0 ft) (tI K E0 f1) (tGw K vs1 g1) (tT K E0 ft1) (tE K E0 fe) vs vs1 σ H Q := by
  obtain ⟨w, l, eH, ok, lr, h0⟩ := h
  refine ⟨w, l, eH, ok, lr, (h0.bind (JOk K)).imp fun w' J x S _ _ _ _ _ q => ?_⟩
  obtain ⟨w1, ps, eH1, e1, ok1, jok, h1⟩ := q
  rw [← eH1]
  intro D hD
  generalize hturn : lc2Turn g ft f1 g1 ft1 fe vs1 (wipe l vs) = turn at h1
  have lr1 := lr.ext e1
  have F1 : ∀ a, w1.F a → (w1.plus D (.lst [])).F a := fun a z => .inl z
  have nD : ¬ w1.F D := fun z => by obtain ⟨o, z⟩ := ok1.frm D z; rw [hD] at z; cases z
  refine ⟨fun i m H => ∃ (wi : Wd) (acc : List V) (qs : List P), wi.H = H ∧ wi.F = (w1.plus D (.lst [])).F ∧ Ok K wi ∧ H D = some (.lst acc) ∧ RpAll K wi.H wi.Lv acc qs ∧ m = ps.length - i ∧ i ≤ ps.length ∧
    Pres w1 wi ∧ Ext K w1 (wi.out w1.F) ∧ Lr K wi (L2.wipe σ vs) (Mi.wipe l vs) ∧ After K E (Rv K) ((lc2Go turn (ps.drop i) wi.S).bind fun ys S => lc2End (qs ++ ys) S) w1 σ Q, ?_, ?_⟩
  · refine ⟨ps.length, w1.plus D (.lst []), [], [], rfl, rfl, plus_ok ok1 hD _, upd_same, .nil, rfl, Nat.zero_le _, plus_pres ok1 hD _, ?_, (plus_pres ok1 hD _).lr (fun _ _ z => z) (lr1.wipe vs), ?_⟩
    · exact (laid ok1 hD (.lst [])).1
    · exact h1
  rintro i m H ⟨wi, acc, qs, rfl, hF, oki, hacc, racc, rfl, hle, pri, exi, lri, h2⟩
  have Fi : ∀ a, w1.F a → wi.F a := fun a z => by rw [hF]; exact F1 a z
  have FD : wi.F D := by rw [hF]; exact .inr rfl
  obtain ⟨j1, j2⟩ := jok.1 wi i pri oki
  cases hi' : ps[i]? with
  | none =>
    have hl : i = ps.length := by
      have := List.getElem?_eq_none_iff.mp hi'
      omega
    refine .inl ⟨j2 hl, ?_⟩
    rw [List.drop_eq_nil_of_le (by omega)] at h2
    have h3 : After K E (Rv K) (lc2End (qs ++ []) wi.S) w1 σ Q := h2
    rw [List.append_nil] at h3
    unfold lc2End at h3
    split at h3
    · exact h3 (wi.out w1.F) (.ref D) rfl exi (out_ok oki Fi) (Rp.lst hacc (fun z => z.elim (fun z => oki.dis D z FD) nD) ((out_pres Fi).rpa racc))
    · exact h3.elim
  | some p =>
    obtain ⟨hlt, hget⟩ := List.getElem?_eq_some_iff.mp hi'
    obtain ⟨jg, jy⟩ := j1 p hi'
    have hd : ps.drop i = p :: ps.drop (i + 1) := by rw [List.drop_eq_getElem_cons hlt, hget]
    rw [hd] at h2
    have hform : ((lc2Go turn (p :: ps.drop (i + 1)) wi.S).bind fun ys S => lc2End (qs ++ ys) S) = ((turn p wi.S).bind fun o S1 => (lc2Go turn (ps.drop (i + 1)) S1).bind fun ys S2 => lc2End (qs ++ (o ++ ys)) S2) := by
      show (((turn p wi.S).bind fun o S1 => (lc2Go turn (ps.drop (i + 1)) S1).bind fun ys S2 => .ok (o ++ ys) S2).bind _) = _
      rw [rb_assoc]
      congr 1
      funext o S1
      rw [rb_assoc]
      rfl
    rw [hform] at h2
    clear hform
    refine .inr ⟨jg, fun H' => ∃ (wi : Wd) (acc : List V) (qs : List P), wi.H = H' ∧ wi.F = (w1.plus D (.lst [])).F ∧ Ok K wi ∧ H' D = some (.lst acc) ∧ RpAll K wi.H wi.Lv acc qs ∧
      Pres w1 wi ∧ Ext K w1 (wi.out w1.F) ∧ Lr K wi (L2.wipe σ vs) (Mi.wipe l vs) ∧ After K E (Rv K) ((lc2Go turn (ps.drop (i + 1)) wi.S).bind fun ys S => lc2End (qs ++ ys) S) w1 σ Q,
      fun H' ⟨w3, a3, q3, b1, b2, b3, b4, b5, b7, b8, b9, b10⟩ => ⟨ps.length - (i + 1), by omega, w3, a3, q3, b1, b2, b3, b4, b5, rfl, hlt, b7, b8, b9, b10⟩, fun x H' hy => ?_⟩
    obtain ⟨w3, rfl, eS3, e3, ok3, rp⟩ := jy x H' hy
    have hacc3 : w3.H D = some (.lst acc) := e3.keep D _ hacc fun z => oki.dis D z FD
    have lr3 : Lr K w3 (L2.wipe σ vs) (Mi.wipe l vs) := lri.ext e3
    have racc3 := RpAll.ext e3 racc
    rw [← eS3] at h2
    have key : turn p w3.S = ((g (.pv p) (Mi.wipe l vs) w3.S).bind fun l1 S => (ft l1 S).bind fun k S =>
      if k then (f1 l1 S).bind fun ps S => lcGo (lcTurn g1 ft1 fe (wipe l1 vs1)) ps S
      else .ok [] S).calm := by rw [← hturn]; rfl
    refine ⟨w3, Mi.wipe l vs, .pv p, rfl, ok3, lr3, rp, ?_⟩
    cases q1 : g (.pv p) (Mi.wipe l vs) w3.S with
    | err x S => rw [key, q1] at h2; exact h2.elim
    | stuck => rw [key, q1] at h2; exact h2.elim
    | ok l4 S4 =>
      rw [q1] at key
      have key : turn p w3.S = ((ft l4 S4).bind fun k S =>
        if k then (f1 l4 S).bind fun ps S => lcGo (lcTurn g1 ft1 fe (wipe l4 vs1)) ps S
        else .ok [] S).calm := key
      intro w4 σ4 a1 a2 a3 a4 hw4
      refine ⟨hw4.trans (wipe_idem _ _), w4, l4, rfl, a3, a4, ?_⟩
      rw [a1]
      cases q2 : ft l4 S4 with
      | err x S => rw [key, q2] at h2; exact h2.elim
      | stuck => rw [key, q2] at h2; exact h2.elim
      | ok k S5 =>
        rw [q2] at key
        intro w5 k' c1 c2 c3 c4
        cases (show k' = k from c4)
        have e5 := (e3.trans a2).trans c2
        have hacc5 : w5.H D = some (.lst acc) := (a2.trans c2).keep D _ hacc3 fun z => ok3.dis D z (by rw [e3.frm]; exact FD)
        have F5 : w5.F = (w1.plus D (.lst [])).F := by rw [e5.frm, hF]
        cases k with
        | false =>
          have key : turn p w3.S = .ok [] S5 := key
          rw [key] at h2
          exact ⟨w5, acc, qs, rfl, F5, c3, hacc5, RpAll.ext e5 racc, pri.trans e5.pres, exi.trans (out_ext e5), lri.ext e5, by rw [c1]; exact h2⟩
        | true =>
          have key : turn p w3.S = ((f1 l4 S5).bind fun ps S => lcGo (lcTurn g1 ft1 fe (wipe l4 vs1)) ps S).calm := key
          rw [if_pos rfl]
          refine ⟨w5, l4, rfl, c3, a4.ext c2, ?_⟩
          rw [c1]
          cases q3 : f1 l4 S5 with
          | err x S => rw [key, q3] at h2; exact h2.elim
          | stuck => rw [key, q3] at h2; exact h2.elim
          | ok ps1 S6 =>
            rw [q3] at key
            generalize hturn1 : lcTurn g1 ft1 fe (wipe l4 vs1) = turn1 at key
            have key : turn p w3.S = (lcGo turn1 ps1 S6).calm := key
            rw [key] at h2
            have h3 : After K E (Rv K) ((lcGo turn1 ps1 S6).bind fun o S1 => (lc2Go turn (ps.drop (i + 1)) S1).bind fun ys S2 => lc2End (qs ++ (o ++ ys)) S2) w1 σ Q := by
              cases q4 : lcGo turn1 ps1 S6 with
              | ok o S7 => rw [q4] at h2; exact h2
              | err x S => rw [q4] at h2; exact h2.elim
              | stuck => rw [q4] at h2; exact h2.elim
            intro w6 J1 d1 d2 d3 jok1
            have e6 := e5.trans d2
            have F6 : w6.F = (w1.plus D (.lst [])).F := by rw [e6.frm, hF]
            have hacc6 : w6.H D = some (.lst acc) := d2.keep D _ hacc5 fun z => c3.dis D z (by rw [F5]; exact .inr rfl)
            refine ⟨fun j m H => ∃ (wj : Wd) (acc : List V) (qs : List P), wj.H = H ∧ wj.F = (w1.plus D (.lst [])).F ∧ Ok K wj ∧ H D = some (.lst acc) ∧ RpAll K wj.H wj.Lv acc qs ∧ m = ps1.length - j ∧ j ≤ ps1.length ∧
              Pres w1 wj ∧ Pres w6 wj ∧ Ext K w1 (wj.out w1.F) ∧ Lr K wj (L2.wipe σ vs) (Mi.wipe l vs) ∧ Lr K wj (L2.wipe σ4 vs1) (Mi.wipe l4 vs1) ∧
              After K E (Rv K) ((lcGo turn1 (ps1.drop j) wj.S).bind fun o S1 => (lc2Go turn (ps.drop (i + 1)) S1).bind fun ys S2 => lc2End (qs ++ (o ++ ys)) S2) w1 σ Q, ?_, ?_⟩
            · exact ⟨ps1.length, w6, acc, qs, rfl, F6, d3, hacc6, RpAll.ext e6 racc, rfl, Nat.zero_le _, pri.trans e6.pres, (Ext.refl (K := K)).pres, exi.trans (out_ext e6), lri.ext e6, ((a4.ext c2).ext d2).wipe vs1, by rw [d1]; exact h3⟩
            rintro j m H ⟨wj, acc, qs, rfl, hFj, okj, haccj, raccj, rfl, hlej, prj, prj6, exj, lrj, lrj1, hj⟩
            have FDj : wj.F D := by rw [hFj]; exact .inr rfl
            obtain ⟨k1, k2⟩ := jok1.1 wj j prj6 okj
            cases hj' : ps1[j]? with
            | none =>
              have hl : j = ps1.length := by
                have := List.getElem?_eq_none_iff.mp hj'
                omega
              refine .inl ⟨k2 hl, ?_⟩
              rw [List.drop_eq_nil_of_le (by omega)] at hj
              exact ⟨wj, acc, qs, rfl, hFj, okj, haccj, raccj, prj, exj, lrj, hj⟩
            | some p1 =>
              obtain ⟨hlt1, hget1⟩ := List.getElem?_eq_some_iff.mp hj'
              obtain ⟨kg, ky⟩ := k1 p1 hj'
              have hd1 : ps1.drop j = p1 :: ps1.drop (j + 1) := by rw [List.drop_eq_getElem_cons hlt1, hget1]
              rw [hd1] at hj
              have hform : ((lcGo turn1 (p1 :: ps1.drop (j + 1)) wj.S).bind fun o S1 => (lc2Go turn (ps.drop (i + 1)) S1).bind fun ys S2 => lc2End (qs ++ (o ++ ys)) S2) = ((turn1 p1 wj.S).bind fun o S1 => (lcGo turn1 (ps1.drop (j + 1)) S1).bind fun zs S2 =>
                (lc2Go turn (ps.drop (i + 1)) S2).bind fun ys S2 => lc2End (qs ++ ((match o with | some y => y :: zs | none => zs) ++ ys)) S2) := by
                show (((turn1 p1 wj.S).bind fun o S1 => (lcGo turn1 (ps1.drop (j + 1)) S1).bind fun ys S2 => match o with | some y => .ok (y :: ys) S2 | none => .ok ys S2).bind _) = _
                rw [rb_assoc]
                congr 1
                funext o S1
                rw [rb_assoc]
                cases o <;> rfl
              rw [hform] at hj
              clear hform
              refine .inr ⟨kg, fun H' => ∃ (wj : Wd) (acc : List V) (qs : List P), wj.H = H' ∧ wj.F = (w1.plus D (.lst [])).F ∧ Ok K wj ∧ H' D = some (.lst acc) ∧ RpAll K wj.H wj.Lv acc qs ∧
                Pres w1 wj ∧ Pres w6 wj ∧ Ext K w1 (wj.out w1.F) ∧ Lr K wj (L2.wipe σ vs) (Mi.wipe l vs) ∧ Lr K wj (L2.wipe σ4 vs1) (Mi.wipe l4 vs1) ∧
                After K E (Rv K) ((lcGo turn1 (ps1.drop (j + 1)) wj.S).bind fun o S1 => (lc2Go turn (ps.drop (i + 1)) S1).bind fun ys S2 => lc2End (qs ++ (o ++ ys)) S2) w1 σ Q,
                fun H' ⟨w3, a3, q3, b1, b2, b3, b4, b5, b7, b8, b9, b10, b11, b12⟩ => ⟨ps1.length - (j + 1), by omega, w3, a3, q3, b1, b2, b3, b4, b5, rfl, hlt1, b7, b8, b9, b10, b11, b12⟩, fun x1 H'' hy1 => ?_⟩
              obtain ⟨w7, rfl, eS7, e7, ok7, rp1⟩ := ky x1 H'' hy1
              have hacc7 : w7.H D = some (.lst acc) := e7.keep D _ haccj fun z => okj.dis D z FDj
              have lr7 : Lr K w7 (L2.wipe σ4 vs1) (Mi.wipe l4 vs1) := lrj1.ext e7
              rw [← eS7] at hj
              have key1 : turn1 p1 w7.S = ((g1 (.pv p1) (Mi.wipe l4 vs1) w7.S).bind fun l1 S => (ft1 l1 S).bind fun k S =>
                if k then (fe l1 S).bind fun y S => match y with
                  | .pv p => .ok (some p) S
                  | _ => .stuck
                else .ok none S).calm := by rw [← hturn1]; rfl
              refine ⟨w7, Mi.wipe l4 vs1, .pv p1, rfl, ok7, lr7, rp1, ?_⟩
              cases r1 : g1 (.pv p1) (Mi.wipe l4 vs1) w7.S with
              | err x S => rw [key1, r1] at hj; exact hj.elim
              | stuck => rw [key1, r1] at hj; exact hj.elim
              | ok l8 S8 =>
                rw [r1] at key1
                have key1 : turn1 p1 w7.S = ((ft1 l8 S8).bind fun k S =>
                  if k then (fe l8 S).bind fun y S => match y with
                    | .pv p => .ok (some p) S
                    | _ => .stuck
                  else .ok none S).calm := key1
                intro w8 σ8 g1' g2' g3' g4' hw8
                refine ⟨hw8.trans (wipe_idem _ _), w8, l8, rfl, g3', g4', ?_⟩
                rw [g1']
                cases r2 : ft1 l8 S8 with
                | err x S => rw [key1, r2] at hj; exact hj.elim
                | stuck => rw [key1, r2] at hj; exact hj.elim
                | ok k S9 =>
                  rw [r2] at key1
                  intro w9 k' i1 i2 i3 i4
                  cases (show k' = k from i4)
                  have e9 := (e7.trans g2').trans i2
                  have hacc9 : w9.H D = some (.lst acc) := (g2'.trans i2).keep D _ hacc7 fun z => ok7.dis D z (by rw [e7.frm]; exact FDj)
                  have F9 : w9.F = (w1.plus D (.lst [])).F := by rw [e9.frm, hFj]
                  cases k with
                  | false =>
                    have key1 : turn1 p1 w7.S = .ok none S9 := key1
                    rw [key1] at hj
                    exact ⟨w9, acc, qs, rfl, F9, i3, hacc9, RpAll.ext e9 raccj, prj.trans e9.pres, prj6.trans e9.pres, exj.trans (out_ext e9), lrj.ext e9, lrj1.ext e9, by rw [i1]; exact hj⟩
                  | true =>
                    have key1 : turn1 p1 w7.S = ((fe l8 S9).bind fun y S => match y with
                      | .pv p => .ok (some p) S
                      | _ => .stuck).calm := key1
                    rw [if_pos rfl]
                    refine ⟨w9, l8, rfl, i3, g4'.ext i2, ?_⟩
                    rw [i1]
                    cases r3 : fe l8 S9 with
                    | err x S => rw [key1, r3] at hj; exact hj.elim
                    | stuck => rw [key1, r3] at hj; exact hj.elim
                    | ok y S10 =>
                      rw [r3] at key1
                      cases y with
                      | rf _ => rw [key1] at hj; exact hj.elim
                      | sc _ => rw [key1] at hj; exact hj.elim
                      | pv y =>
                      have key1 : turn1 p1 w7.S = .ok (some y) S10 := key1
                      rw [key1] at hj
                      have hj : After K E (Rv K) ((lcGo turn1 (ps1.drop (j + 1)) S10).bind fun zs S2 => (lc2Go turn (ps.drop (i + 1)) S2).bind fun ys S2 => lc2End (qs ++ ((y :: zs) ++ ys)) S2) w1 σ Q := hj
                      have hlen : qs.length < sizeLine := by
                        have hj2 := hj
                        cases s1 : lcGo turn1 (ps1.drop (j + 1)) S10 with
                        | err x S => exact absurd s1 (lcGo_noerr (by rw [← hturn1]; exact lcTurn_calm) _ _ _ _)
                        | stuck => rw [s1] at hj2; exact hj2.elim
                        | ok zs S11 =>
                          rw [s1] at hj2
                          have hj2 : After K E (Rv K) ((lc2Go turn (ps.drop (i + 1)) S11).bind fun ys S2 => lc2End (qs ++ ((y :: zs) ++ ys)) S2) w1 σ Q := hj2
                          cases s2 : lc2Go turn (ps.drop (i + 1)) S11 with
                          | err x S => exact absurd s2 (lc2Go_noerr (by rw [← hturn]; exact lc2Turn_calm) _ _ _ _)
                          | stuck => rw [s2] at hj2; exact hj2.elim
                          | ok ys S12 =>
                            rw [s2] at hj2
                            have hj2 : After K E (Rv K) (lc2End (qs ++ ((y :: zs) ++ ys)) S12) w1 σ Q := hj2
                            unfold lc2End at hj2
                            split at hj2
                            · rename_i hm
                              rw [sizeLine_eq]
                              simp only [List.length_append, List.length_cons] at hm
                              unfold maxLen at hm
                              omega
                            · exact hj2.elim
                      intro w10 v10 m1 m2 m3 m4
                      have e10 := e9.trans m2
                      have F10 : w10.F = (w1.plus D (.lst [])).F := by rw [e10.frm, hFj]
                      have hD10 : w10.F D := by rw [F10]; exact .inr rfl
                      have hacc10 : w10.H D = some (.lst acc) := m2.keep D _ hacc9 fun z => i3.dis D z (by rw [F9]; exact .inr rfl)
                      have eo : Ext K w1 ((⟨upd w10.H D (.lst (acc ++ [v10])), w10.μ, w10.S, w10.F⟩ : Wd).out w1.F) := by
                        have z0 := exj.trans (out_ext (F := w1.F) e10)
                        refine ⟨fun a o z n => ?_, z0.new, rfl, z0.pre⟩
                        show upd w10.H D _ a = _
                        rw [upd_ne (ne_of_none z hD)]
                        exact z0.keep a o z n
                      refine ⟨acc, hacc10, by rw [raccj.length]; exact hlen, ⟨upd w10.H D (.lst (acc ++ [v10])), w10.μ, w10.S, w10.F⟩, acc ++ [v10], qs ++ [y], rfl, F10, dset_ok m3 hD10 _, upd_same, (dset_pres hD10 _).rpa ((RpAll.ext e10 raccj).append (.cons m4 .nil)),
                        (prj.trans e10.pres).trans (dset_pres hD10 _), (prj6.trans e10.pres).trans (dset_pres hD10 _), eo, (dset_pres hD10 _).lr (fun _ _ z => z) (lrj.ext e10), (dset_pres hD10 _).lr (fun _ _ z => z) (lrj1.ext e10), ?_⟩
                      show After K E (Rv K) ((lcGo turn1 (ps1.drop (j + 1)) w10.S).bind fun o S1 => (lc2Go turn (ps.drop (i + 1)) S1).bind fun ys S2 => lc2End (qs ++ [y] ++ (o ++ ys)) S2) w1 σ Q
                      rw [m1]
                      have ee : (fun (o : List P) (S1 : Sto) => (lc2Go turn (ps.drop (i + 1)) S1).bind fun ys S2 => lc2End (qs ++ [y] ++ (o ++ ys)) S2) = fun (zs : List P) (S2 : Sto) => (lc2Go turn (ps.drop (i + 1)) S2).bind fun ys S2 => lc2End (qs ++ ((y :: zs) ++ ys)) S2 := by
                        funext o S1
                        congr 1
                        funext ys S2
                        simp
                      rw [ee]
                      exact hj
theorem s_lc2 {elt tg iter tg1 iter1 : Expr} {ifs ifs1 : List Expr} {scope : Scope} {own : List (Str × Nat)} {f f1 : L → Sto → R (List P)} {g g1 : W → L → Sto → R L} {ft ft1 : L → Sto → R Bool} {fe : L → Sto → R W} {vs vs1 : List Nat} (hvs : own.map (·.2) = vs) (hv : ∀ i ∈ vs1, i ∈ vs)
    (hc : X.calm = true) (hN : X.N.Nodup) (hi : PI X tg iter (tI X.K E f)) (ok : BlkOk X.N X.env.scope scope own)
    (hg : ∀ (s : Shared) (H : Hp) (C : Addr) (cl : List (Str × Addr)) (fp : List Addr), PG (X.blk s H scope (compEnvC scope cl C X.env) fp) tg (tGw X.K vs g)) (ht : ∀ (s : Shared) (H : Hp) (C : Addr) (cl : List (Str × Addr)) (fp : List Addr), PTs (X.blk s H scope (compEnvC scope cl C X.env) fp) ifs (tT X.K E0 ft))
    (hi1 : ∀ (s : Shared) (H : Hp) (C : Addr) (cl : List (Str × Addr)) (fp : List Addr), PI (X.blk s H scope (compEnvC scope cl C X.env) fp) tg1 iter1 (tI X.K E0 f1))
    (hg1 : ∀ (s : Shared) (H : Hp) (C : Addr) (cl : List (Str × Addr)) (fp : List Addr), PG (X.blk s H scope (compEnvC scope cl C X.env) fp) tg1 (tGw X.K vs1 g1)) (ht1 : ∀ (s : Shared) (H : Hp) (C : Addr) (cl : List (Str × Addr)) (fp : List Addr), PTs (X.blk s H scope (compEnvC scope cl C X.env) fp) ifs1 (tT X.K E0 ft1))
    (he : ∀ (s : Shared) (H : Hp) (C : Addr) (cl : List (Str × Addr)) (fp : List Addr), PE (X.blk s H scope (compEnvC scope cl C X.env) fp) elt (tE X.K E0 fe)) (hs : ∀ x, foldedSetIterable iter X.env x = pure x) (hs1 : ∀ env x, foldedSetIterable iter1 env x = pure x) :
    PE X (.ListComp elt [⟨tg, iter, ifs, 0⟩, ⟨tg1, iter1, ifs1, 0⟩] scope pos) (tE X.K E fun l S => (f l S).bind fun ps S => (lc2Go (lc2Turn g ft f1 g1 ft1 fe vs1 (wipe l vs)) ps S).bind lc2End) := by
  subst hvs
  exact PE.imp' (pe_lc2 hc hN hi ok hv hg ht hi1 hg1 ht1 he hs hs1) fun σ H Q h => lc2_read _ _ h
/-- name = [.. for .. for ..] on one line -/
theorem s_setLc2 {i : Nat} {y : Str} {py spos : Pos} {elt tg iter tg1 iter1 : Expr} {ifs ifs1 : List Expr} {scope : Scope} {own : List (Str × Nat)} {f f1 : L → Sto → R (List P)} {g g1 : W → L → Sto → R L} {ft ft1 : L → Sto → R Bool} {fe : L → Sto → R W} {vs vs1 : List Nat} (hvs : own.map (·.2) = vs) (hv : ∀ i ∈ vs1, i ∈ vs)
    (hc : X.calm = true) (hN : X.N.Nodup) (hy : X.N[i]? = some y) (hyl : X.env.scope.names.lookup y = some .local)
    (hsw : swapsWith (.ListComp elt [⟨tg, iter, ifs, 0⟩, ⟨tg1, iter1, ifs1, 0⟩] scope pos) (some (.Name y py)) spos.line X.env = pure true) (hi : PI X tg iter (tI X.K E f)) (ok : BlkOk X.N X.env.scope scope own)
    (hg : ∀ (s : Shared) (H : Hp) (C : Addr) (cl : List (Str × Addr)) (fp : List Addr), PG (X.blk s H scope (compEnvC scope cl C X.env) fp) tg (tGw X.K vs g)) (ht : ∀ (s : Shared) (H : Hp) (C : Addr) (cl : List (Str × Addr)) (fp : List Addr), PTs (X.blk s H scope (compEnvC scope cl C X.env) fp) ifs (tT X.K E0 ft))
    (hi1 : ∀ (s : Shared) (H : Hp) (C : Addr) (cl : List (Str × Addr)) (fp : List Addr), PI (X.blk s H scope (compEnvC scope cl C X.env) fp) tg1 iter1 (tI X.K E0 f1))
    (hg1 : ∀ (s : Shared) (H : Hp) (C : Addr) (cl : List (Str × Addr)) (fp : List Addr), PG (X.blk s H scope (compEnvC scope cl C X.env) fp) tg1 (tGw X.K vs1 g1)) (ht1 : ∀ (s : Shared) (H : Hp) (C : Addr) (cl : List (Str × Addr)) (fp : List Addr), PTs (X.blk s H scope (compEnvC scope cl C X.env) fp) ifs1 (tT X.K E0 ft1))
    (he : ∀ (s : Shared) (H : Hp) (C : Addr) (cl : List (Str × Addr)) (fp : List Addr), PE (X.blk s H scope (compEnvC scope cl C X.env) fp) elt (tE X.K E0 fe)) (hs : ∀ x, foldedSetIterable iter X.env x = pure x) (hs1 : ∀ env x, foldedSetIterable iter1 env x = pure x) :
    PS X (.Assign [.Name y py] (.ListComp elt [⟨tg, iter, ifs, 0⟩, ⟨tg1, iter1, ifs1, 0⟩] scope pos) spos) (tS X.K E fun l S => SR.thenR ((f l S).bind fun ps S => (lc2Go (lc2Turn g ft f1 g1 ft1 fe vs1 (wipe l vs)) ps S).bind lc2End) l fun w S => SR.thenR (R.calm (.ok (l.set i (some w)) S)) l fun l1 S => .nx l1 S) := by
  subst hvs
  exact s_setT (f := fun l S => (f l S).bind fun ps S => (lc2Go (lc2Turn g ft f1 g1 ft1 fe vs1 (wipe l (own.map (·.2)))) ps S).bind lc2End) (ps_setLc2 hc hN hy hyl hsw hi ok hv hg ht hi1 hg1 ht1 he hs hs1) fun σ H Q h => lc2_read _ _ h
/-! ### d.setdefault(k, []) -/
theorem keyP_is {p : P} {k : Int ⊕ Str} (h : keyP p = some k) : p = kP k := by
  cases p <;> first | (cases h; rfl) | cases h
theorem s_dsetd {o i : Expr} {apos cpos lp : Pos} {f g : L → Sto → R W} (ho : PE X o (tE X.K E f)) (hi : PE X i (tE X.K E g))
    (hbase : attributeBase o "setdefault" X.env (eval o X.env) = eval o X.env) (hs : starEach [i, .List [] lp] X.env = [(false, eval i X.env), (false, eval (.List [] lp) X.env)]) (hline : (apos.endLine == cpos.line) = true) :
    PE X (.Call (.Attribute o "setdefault" apos) [i, .List [] lp] [] cpos) (tE X.K E fun l S => (f l S).bind fun x S => if isDctS x S then (g l S).bind fun y S => dsetdW x y S else .stuck) := by
  have m : M2 X o "setdefault" apos i (.List [] lp) cpos := ⟨hbase, by rw [hs]; rfl, hline, by rw [hs]; rfl⟩
  refine PE.imp' (pe_dsetd ho hi (pe_lst pa_nil) m) fun σ H Q ⟨w, l, eH, ok, lr, h⟩ => ?_
  refine tE.bind (g := fun x l S => if isDctS x S then (g l S).bind fun y S => dsetdW x y S else .stuck) eH ok lr h fun w1 v x e1 ok1 lr1 r1 h1 => ?_
  cases x with
  | pv _ => exact h1.elim
  | sc _ => exact h1.elim
  | rf n =>
    obtain ⟨a, ha, rfl⟩ := r1
    by_cases hd : isDctS (.rf n) w1.S = true
    · rw [if_pos hd] at h1
      have hd' : ∃ kvs, w1.S[n]? = some (.dct kvs) := by
        unfold isDctS at hd
        dsimp only at hd
        split at hd
        · rename_i kvs e; exact ⟨kvs, e⟩
        · cases hd
      obtain ⟨kvs0, hk0⟩ := hd'
      obtain ⟨ks0, s1, _⟩ := ok1.obj n a _ ha hk0
      refine ⟨a, rfl, .inl ⟨_, .inl s1⟩, ?_⟩
      refine tE.bind (g := fun y l S => dsetdW (.rf n) y S) rfl ok1 lr1 h1 fun w2 u y e2 ok2 lr2 r2 h2 => ?_
      have ha2 := e2.pre n a ha
      show (tLst tNil) σ w2.H _
      show ([] : List V).length ≤ sizeLine ∧ _
      refine ⟨Nat.zero_le _, fun p hp => ?_⟩
      cases y with
      | rf _ => exact h2.elim
      | sc _ => exact h2.elim
      | pv q =>
        have h9 : After X.K E (Rv X.K) (match w2.S[n]?, keyP q with
          | some (.dct kvs), some k => if kvs.length < maxLen then (match getW kvs k with
            | some w => .ok w w2.S
            | none => .ok (.rf w2.S.length) ((w2.S ++ [O.lst []]).set n (O.dct (putW kvs k (.rf w2.S.length))))) else .stuck
          | _, _ => .stuck) w2 σ Q := h2
        cases hS : w2.S[n]? with
        | none => rw [hS] at h9; exact h9.elim
        | some ob =>
          rw [hS] at h9
          cases ob with
          | lst _ => exact h9.elim
          | dead => exact h9.elim
          | dct kvs =>
            cases hq : keyP q with
            | none => rw [hq] at h9; exact h9.elim
            | some k =>
              rw [hq] at h9
              dsimp only at h9
              obtain ⟨ks, s2, r3⟩ := ok2.obj n a _ ha2 hS
              have hne : a ≠ p := ne_of_none s2 hp
              by_cases hl : kvs.length < maxLen
              · rw [if_pos hl] at h9
                obtain rfl := keyP_is hq
                refine ⟨ks, k, by rw [upd_ne hne]; exact s2, rp_key r2, by rw [Paired.length r3, sizeLine_eq]; exact hl, fun v hv => ?_, fun hv => ?_⟩
                · cases hw : getW kvs k with
                  | none =>
                    rw [(dwk_get r3 k).2 hw] at hv
                    cases hv
                  | some x0 =>
                    rw [hw] at h9
                    obtain ⟨z, hz, rz⟩ := (dwk_get r3 k).1 _ hw
                    rw [hz] at hv
                    have hv := Option.some.inj hv
                    obtain ⟨e3, ok3⟩ := laid ok2 hp (.lst [])
                    rw [← hv]
                    exact h9 ⟨upd w2.H p (.lst []), w2.μ, w2.S, w2.F⟩ z rfl e3 ok3 (Rv.ext e3 rz)
                · cases hw : getW kvs k with
                  | some x0 =>
                    obtain ⟨z, hz, rz⟩ := (dwk_get r3 k).1 _ hw
                    rw [hz] at hv
                    cases hv
                  | none =>
                    rw [hw] at h9
                    obtain ⟨e3, ok3⟩ := made ok2 hp (u := .lst []) (x := .lst []) fun w4 x4 q4 => ⟨[], q4, .nil⟩
                    have hn : n < w2.S.length := (List.getElem?_eq_some_iff.mp hS).1
                    have hS3 : (w2.S ++ [O.lst []])[n]? = some (.dct kvs) := by rw [List.getElem?_append_left hn]; exact hS
                    have rp : Rv X.K ⟨upd w2.H p (.lst []), w2.μ ++ [p], w2.S ++ [.lst []], w2.F⟩ (.ref p) (.rf w2.S.length) := ⟨p, by rw [← ok2.len]; exact snoc_get, rfl⟩
                    have r4 := Paired.imp (fun _ _ z => (⟨z.1, Rv.ext e3 z.2⟩ : _ ∧ _)) r3
                    obtain ⟨e4, ok4⟩ := wrote ok3 (e3.pre n a ha2) hS3 (by intro z; cases z) (u := .dK (putK ks k (.ref p))) (y := .dct (putW kvs k (.rf w2.S.length))) fun w5 x5 q5 => ⟨_, q5, put_rel (Rv.ext x5 rp) k (Paired.imp (fun _ _ z => ⟨z.1, Rv.ext x5 z.2⟩) r4)⟩
                    exact h9 ⟨upd (upd w2.H p (.lst [])) a (.dK (putK ks k (.ref p))), w2.μ ++ [p], (w2.S ++ [O.lst []]).set n (O.dct (putW kvs k (.rf w2.S.length))), w2.F⟩ (.ref p) rfl (e3.trans e4) ok4 (Rv.ext e4 rp)
              · rw [if_neg hl] at h9; exact h9.elim
    · rw [if_neg hd] at h1; exact h1.elim
theorem noerr_dsetd (x y : W) (S : Sto) : NoErr (dsetdW x y S) := by
  intro e S' h; unfold dsetdW at h; split at h
  · split at h
    · split at h
      · split at h <;> cases h
      · cases h
    · cases h
  · cases h
end
end Mi
set_option Elab.async false
set_option linter.all false
set_option maxRecDepth 100000
set_option maxHeartbeats 4000000
set_option autoImplicit false
/-! Mi: sorted(set(xs)), xs a list of ints. -/
namespace Mi
open PySem PySem.Spec L2 PyProof.Rows
/-- the set that set.__new__ lays -/
abbrev blank (w : World) : Obj := { cls := .type "set", dict := none, data := .set #[] 0 (.fresh 0 0 (!w.params.followText "set-order")) }
abbrev Sh (s : Shared) (w : World) : Shared := { s with heap := s.heap.push (blank w) }
section
variable {P : Program} {w : World} {A : Around} {E : Value → Shared → Prop} {s : Shared}
/-- what set.__init__ leaves upon a list of ints -/
def Filled (w : World) (s : Shared) (ns : List Int) (r : Value) (s2 : Shared) : Prop := r = .none ∧ ∃ h' tk c, s2 = { s with heap := h', toks := tk } ∧ SetR w h' s.heap.objs.size (fun j => decide (j ∈ ns)) c ∧ c ≤ ns.length ∧ ∀ b o, s.heap.get? b = some o → h'.get? b = some o
theorem set_ints {l : Addr} {items : Array Value} (ns : List Int) {Q : Value → Shared → Prop} (hh : A.handled = none) (hl : s.heap.IsList l items) (hit : IntsAre items.toList ns) (hb : ns.length + 1 < scanBound)
    (h : ∀ (h' : Heap) (tk c : Nat), SetR w h' s.heap.objs.size (fun j => decide (j ∈ ns)) c → c ≤ ns.length → (∀ b o, s.heap.get? b = some o → h'.get? b = some o) → Q (.ref s.heap.objs.size) { s with heap := h', toks := tk }) :
    wpAny (model P w) A (call (.type "set") [.ref l]) Q E s := by
  have size : items.size = ns.length := by
    have q := IntsAre.length hit
    rwa [Array.length_toList] at q
  obtain ⟨mc, mt, hmro⟩ := PySem.F.called_set.mro
  have hmade := PySem.F.called_set.made
  have hsub := PySem.F.called_set.sub
  refine wpAny_call (codeAny_of_tree ?_)
  show wpAny _ _ (callAny (.type "set") _) _ _ _
  refine wpAny_pure ⟨Code.quiet_builtin _ (by decide +kernel), codeAny_builtin PySem.F.entry_type_call ?_⟩
  rw [Around.under_plain (weight_type_call_type "set" [.ref l] []) rfl]
  have k1 := PySem.F.called_set.notType
  have k2 := PySem.F.called_set.canCreate
  have k3 := PySem.F.typeCall_set_1 (.ref l)
  repeat (any_goals (first | assumption | wp_step))
  -- the empty set
  refine codeAny_mono (code_set_led1 (.ref l) (E := E) (Q₁ := fun obj s₁ => obj = .ref s.heap.objs.size ∧ s₁ = Sh s w) ⟨rfl, rfl⟩) fun r s₁ hr => ?_
  cases r with
  | error e => exact hr
  | ok fl =>
    cases fl with
    | next => exact hr.elim
    | brk => exact hr.elim
    | cont => exact hr.elim
    | ret obj =>
    obtain ⟨rfl, rfl⟩ := hr
    have hS : (Sh s w).heap.get? s.heap.objs.size = some (blank w) := Heap.get?_push_size _ rfl
    have hT : Shared.TypeIs (Sh s w) (.ref s.heap.objs.size) "set" := ⟨_, hS, rfl⟩
    have k4 := PySem.F.called_set.init.lookup
    have k5 := PySem.F.called_set.init.bind (.ref s.heap.objs.size)
    repeat (any_goals (first | assumption | wp_step))
    -- it is filled
    refine codeAny_mono (codeAny_call_builtin (R := wants (Filled w s ns) E) PySem.F.called_set.init.plain PySem.F.entry_set_init (check_set_init_1 hT ?_)) fun r₂ s₂ hr₂ => ?_
    · obtain ⟨⟨oc, od, dt, osl⟩, hol, hcl, nl, hdl⟩ := hl
      simp only at hcl hdl
      subst hcl; subst hdl
      have hol' : (Sh s w).heap.get? l = some { cls := .type "list", dict := od, data := .seq items nl, slots := osl } := Heap.get?_push_of_some _ hol
      have k6 := PySem.F.sub_list_set
      have k7 := PySem.F.sub_list_frozenset
      have k8 : (Value.type "list" == Value.type "dict") = false := by decide
      have hl1 : (Sh s w).heap.IsList l items := ⟨_, hol', rfl, nl, rfl⟩
      have lS : l < s.heap.objs.size := Heap.lt_size hol
      unfold Builtin.«set.__init__» noKeywords Builtin.Frozenset.updateFrom
      generalize hPI : pyIter = PI
      wp_walk
      subst hPI
      refine wpAny_pyIter_list hl1 ?_
      refine wpAny_bind (wpAny_runValue ?_)
      have sz : (Sh s w).heap.objs.size = s.heap.objs.size + 1 := Heap.size_push ..
      have nI : l ≠ (Sh s w).heap.objs.size := by rw [sz]; exact Nat.ne_of_lt (Nat.lt_succ_of_lt lS)
      have nS : s.heap.objs.size ∉ [(Sh s w).heap.objs.size, l] := by
        rw [sz]
        simp only [List.mem_cons, List.not_mem_nil, or_false, not_or]
        exact ⟨Nat.ne_of_lt (Nat.lt_succ_self _), Nat.ne_of_gt lS⟩
      have val : ∀ (i : Nat) (v : Value), items[i]? = some v → ∃ k t, ns[i]? = some k ∧ v = .int k t := fun i v hv => by
        have hi : i < ns.length := by rw [← size]; exact (Array.getElem?_eq_some_iff.mp hv).1
        obtain ⟨t, e⟩ := PyProof.Rows.IntsAre.int_at hit i v (by rw [Array.getElem?_toList]; exact hv)
        exact ⟨ns[i], t, List.getElem?_eq_getElem hi, by rw [e, List.getD_eq_getElem?_getD, List.getElem?_eq_getElem hi]; rfl⟩
      have hh3 : A.in1.in1.in1.handled = none := by simp [hh]
      refine set_update_ints ((Walks.list hh3 _ l nI items).toS) s.heap.objs.size nS ns size hb val (items.size - 0) 0 _ (by omega) (Nat.zero_le _) ⟨⟨_, Heap.get?_push_size _ rfl, rfl, rfl⟩, hl1.push _⟩ ?hS0 ?hR
      case hS0 =>
        have g : ((Sh s w).heap.push { cls := .type "list_iterator", data := .fields #[.ref l, .int 0 0] }).get? s.heap.objs.size = some (blank w) := Heap.get?_push_of_some _ hS
        exact ⟨0, Nat.le_refl 0, setR_new_at g⟩
      case hR =>
        intro s' c' hm hc' hS'
        obtain ⟨h', g2, d', tk', os'⟩ := s'
        have eg : g2 = s.gens := hm.gens
        have ed : d' = s.drawn := hm.drawn
        have eo : os' = s.os := hm.os
        subst eg; subst ed; subst eo
        show wpAny _ _ _ _ _ _
        refine wpAny_pure ?_
        show wpAny _ _ (PySem.ret Value.none) _ _ _
        rw [size] at hc'
        refine wpAny_pure ⟨rfl, h', tk', c', rfl, hS', hc', fun b o e => ?_⟩
        have b0 : b < s.heap.objs.size := Heap.lt_size e
        refine hm.heap b o ?_ (Heap.get?_push_of_some _ (Heap.get?_push_of_some _ e))
        rw [sz]
        simp only [List.mem_cons, List.not_mem_nil, or_false, not_or]
        exact ⟨Nat.ne_of_lt b0, Nat.ne_of_lt (Nat.lt_succ_of_lt b0)⟩
    · cases r₂ with
      | error e => exact hr₂
      | ok fl₂ =>
        cases fl₂ with
        | next => exact hr₂.elim
        | brk => exact hr₂.elim
        | cont => exact hr₂.elim
        | ret r =>
          obtain ⟨rfl, h', tk, c', rfl, hS', hc', hk'⟩ := hr₂
          repeat (any_goals (first | assumption | wp_step))
          exact h _ _ _ hS' hc' hk'
end
end Mi
set_option Elab.async false
set_option linter.all false
set_option maxRecDepth 100000
set_option maxHeartbeats 4000000
set_option autoImplicit false
/-! Mi: sorted(set(xs)), xs a tuple of ints. -/
namespace Mi
open PySem PySem.Spec L2 PyProof.Rows
section
variable {P : Program} {w : World} {A : Around} {E : Value → Shared → Prop} {s : Shared}
theorem set_intsT {l : Addr} {items : Array Value} (ns : List Int) {Q : Value → Shared → Prop} (hh : A.handled = none) (hl : s.heap.IsTuple l items) (hit : IntsAre items.toList ns) (hb : ns.length + 1 < scanBound)
    (h : ∀ (h' : Heap) (tk c : Nat), SetR w h' s.heap.objs.size (fun j => decide (j ∈ ns)) c → c ≤ ns.length → (∀ b o, s.heap.get? b = some o → h'.get? b = some o) → Q (.ref s.heap.objs.size) { s with heap := h', toks := tk }) :
    wpAny (model P w) A (call (.type "set") [.ref l]) Q E s := by
  have size : items.size = ns.length := by
    have q := IntsAre.length hit
    rwa [Array.length_toList] at q
  obtain ⟨mc, mt, hmro⟩ := PySem.F.called_set.mro
  have hmade := PySem.F.called_set.made
  have hsub := PySem.F.called_set.sub
  refine wpAny_call (codeAny_of_tree ?_)
  show wpAny _ _ (callAny (.type "set") _) _ _ _
  refine wpAny_pure ⟨Code.quiet_builtin _ (by decide +kernel), codeAny_builtin PySem.F.entry_type_call ?_⟩
  rw [Around.under_plain (weight_type_call_type "set" [.ref l] []) rfl]
  have k1 := PySem.F.called_set.notType
  have k2 := PySem.F.called_set.canCreate
  have k3 := PySem.F.typeCall_set_1 (.ref l)
  repeat (any_goals (first | assumption | wp_step))
  -- the empty set
  refine codeAny_mono (code_set_led1 (.ref l) (E := E) (Q₁ := fun obj s₁ => obj = .ref s.heap.objs.size ∧ s₁ = Sh s w) ⟨rfl, rfl⟩) fun r s₁ hr => ?_
  cases r with
  | error e => exact hr
  | ok fl =>
    cases fl with
    | next => exact hr.elim
    | brk => exact hr.elim
    | cont => exact hr.elim
    | ret obj =>
    obtain ⟨rfl, rfl⟩ := hr
    have hS : (Sh s w).heap.get? s.heap.objs.size = some (blank w) := Heap.get?_push_size _ rfl
    have hT : Shared.TypeIs (Sh s w) (.ref s.heap.objs.size) "set" := ⟨_, hS, rfl⟩
    have k4 := PySem.F.called_set.init.lookup
    have k5 := PySem.F.called_set.init.bind (.ref s.heap.objs.size)
    repeat (any_goals (first | assumption | wp_step))
    -- it is filled
    refine codeAny_mono (codeAny_call_builtin (R := wants (Filled w s ns) E) PySem.F.called_set.init.plain PySem.F.entry_set_init (check_set_init_1 hT ?_)) fun r₂ s₂ hr₂ => ?_
    · obtain ⟨⟨oc, od, dt, osl⟩, hol, hcl, nl, hdl⟩ := hl
      simp only at hcl hdl
      subst hcl; subst hdl
      have hol' : (Sh s w).heap.get? l = some { cls := .type "tuple", dict := od, data := .seq items nl, slots := osl } := Heap.get?_push_of_some _ hol
      have k6 := PySem.F.sub_tuple_set
      have k7 := PySem.F.sub_tuple_frozenset
      have k8 : (Value.type "tuple" == Value.type "dict") = false := by decide
      have hl1 : (Sh s w).heap.IsTuple l items := ⟨_, hol', rfl, nl, rfl⟩
      have lS : l < s.heap.objs.size := Heap.lt_size hol
      unfold Builtin.«set.__init__» noKeywords Builtin.Frozenset.updateFrom
      generalize hPI : pyIter = PI
      wp_walk
      subst hPI
      refine wpAny_pyIter_tuple hl1 ?_
      refine wpAny_bind (wpAny_runValue ?_)
      have sz : (Sh s w).heap.objs.size = s.heap.objs.size + 1 := Heap.size_push ..
      have nI : l ≠ (Sh s w).heap.objs.size := by rw [sz]; exact Nat.ne_of_lt (Nat.lt_succ_of_lt lS)
      have nS : s.heap.objs.size ∉ [(Sh s w).heap.objs.size, l] := by
        rw [sz]
        simp only [List.mem_cons, List.not_mem_nil, or_false, not_or]
        exact ⟨Nat.ne_of_lt (Nat.lt_succ_self _), Nat.ne_of_gt lS⟩
      have val : ∀ (i : Nat) (v : Value), items[i]? = some v → ∃ k t, ns[i]? = some k ∧ v = .int k t := fun i v hv => by
        have hi : i < ns.length := by rw [← size]; exact (Array.getElem?_eq_some_iff.mp hv).1
        obtain ⟨t, e⟩ := PyProof.Rows.IntsAre.int_at hit i v (by rw [Array.getElem?_toList]; exact hv)
        exact ⟨ns[i], t, List.getElem?_eq_getElem hi, by rw [e, List.getD_eq_getElem?_getD, List.getElem?_eq_getElem hi]; rfl⟩
      have hh3 : A.in1.in1.in1.handled = none := by simp [hh]
      refine set_update_ints ((Walks.tuple hh3 _ l nI items).toS) s.heap.objs.size nS ns size hb val (items.size - 0) 0 _ (by omega) (Nat.zero_le _) ⟨⟨_, Heap.get?_push_size _ rfl, rfl, rfl⟩, hl1.push _⟩ ?hS0 ?hR
      case hS0 =>
        have g : ((Sh s w).heap.push { cls := .type "tuple_iterator", data := .fields #[.ref l, .int 0 0] }).get? s.heap.objs.size = some (blank w) := Heap.get?_push_of_some _ hS
        exact ⟨0, Nat.le_refl 0, setR_new_at g⟩
      case hR =>
        intro s' c' hm hc' hS'
        obtain ⟨h', g2, d', tk', os'⟩ := s'
        have eg : g2 = s.gens := hm.gens
        have ed : d' = s.drawn := hm.drawn
        have eo : os' = s.os := hm.os
        subst eg; subst ed; subst eo
        show wpAny _ _ _ _ _ _
        refine wpAny_pure ?_
        show wpAny _ _ (PySem.ret Value.none) _ _ _
        rw [size] at hc'
        refine wpAny_pure ⟨rfl, h', tk', c', rfl, hS', hc', fun b o e => ?_⟩
        have b0 : b < s.heap.objs.size := Heap.lt_size e
        refine hm.heap b o ?_ (Heap.get?_push_of_some _ (Heap.get?_push_of_some _ e))
        rw [sz]
        simp only [List.mem_cons, List.not_mem_nil, or_false, not_or]
        exact ⟨Nat.ne_of_lt b0, Nat.ne_of_lt (Nat.lt_succ_of_lt b0)⟩
    · cases r₂ with
      | error e => exact hr₂
      | ok fl₂ =>
        cases fl₂ with
        | next => exact hr₂.elim
        | brk => exact hr₂.elim
        | cont => exact hr₂.elim
        | ret r =>
          obtain ⟨rfl, h', tk, c', rfl, hS', hc', hk'⟩ := hr₂
          repeat (any_goals (first | assumption | wp_step))
          exact h _ _ _ hS' hc' hk'
end
end Mi
set_option Elab.async false
set_option linter.all false
set_option maxRecDepth 100000
set_option maxHeartbeats 4000000
set_option autoImplicit false
namespace Mi
open PySem PySem.Spec L2 PyProof.Rows
/-! ### sorted, as sets are -/
theorem insU_mem (x y : Int) : ∀ l : List Int, y ∈ insU x l ↔ y = x ∨ y ∈ l
  | [] => by simp [insU]
  | z :: r => by
    unfold insU
    split
    · simp
    · split
      · rename_i e; subst e; simp
      · simp [insU_mem x y r]; constructor
        · rintro (h | h | h)
          · exact .inr (.inl h)
          · exact .inl h
          · exact .inr (.inr h)
        · rintro (h | h | h)
          · exact .inr (.inl h)
          · exact .inl h
          · exact .inr (.inr h)
theorem insU_sorted (x : Int) : ∀ {l : List Int}, l.Pairwise (· < ·) → (insU x l).Pairwise (· < ·)
  | [], _ => by simp [insU]
  | z :: r, h => by
    rw [List.pairwise_cons] at h
    unfold insU
    split
    · rename_i hx
      rw [List.pairwise_cons]
      refine ⟨fun y hy => ?_, List.pairwise_cons.mpr h⟩
      rcases List.mem_cons.mp hy with rfl | hy
      · exact hx
      · exact Int.lt_trans hx (h.1 y hy)
    · split
      · exact List.pairwise_cons.mpr h
      · rename_i h1 h2
        rw [List.pairwise_cons]
        refine ⟨fun y hy => ?_, insU_sorted x h.2⟩
        rcases (insU_mem x y r).mp hy with rfl | hy
        · omega
        · exact h.1 y hy
theorem usort_mem (y : Int) : ∀ l : List Int, y ∈ usort l ↔ y ∈ l
  | [] => Iff.rfl
  | x :: r => by
    show y ∈ insU x (usort r) ↔ _
    rw [insU_mem, usort_mem y r, List.mem_cons]
theorem usort_sorted : ∀ l : List Int, (usort l).Pairwise (· < ·)
  | [] => .nil
  | x :: r => insU_sorted x (usort_sorted r)
theorem strict_one : ∀ {a b : List Int}, a.Pairwise (· < ·) → b.Pairwise (· < ·) → (∀ k, k ∈ a ↔ k ∈ b) → a = b
  | [], [], _, _, _ => rfl
  | [], y :: b, _, _, h => by have := (h y).mpr List.mem_cons_self; simp at this
  | x :: a, [], _, _, h => by have := (h x).mp List.mem_cons_self; simp at this
  | x :: a, y :: b, p, q, h => by
    rw [List.pairwise_cons] at p q
    have e : x = y := by
      rcases List.mem_cons.mp ((h x).mp List.mem_cons_self) with e | e
      · exact e
      · rcases List.mem_cons.mp ((h y).mpr List.mem_cons_self) with e' | e'
        · exact e'.symm
        · have := q.1 x e; have := p.1 y e'; omega
    subst e
    congr 1
    refine strict_one p.2 q.2 fun k => ?_
    have hk := h k
    simp only [List.mem_cons] at hk
    constructor
    · intro hka
      rcases hk.mp (.inr hka) with e | e
      · subst e; have := p.1 k hka; omega
      · exact e
    · intro hkb
      rcases hk.mpr (.inr hkb) with e | e
      · subst e; have := q.1 k hkb; omega
      · exact e
theorem scan64 {n : Nat} (h : n < 64) : n + 1 < scanBound := by unfold scanBound; omega
def rSetI (K : PySem.W.Frag) (w : World) : List V → Hp → VK → Prop := fun xs H Q => ∃ (l : Addr) (ns : List Int), xs = [.ref l] ∧ (SqL K H l (ns.map V.int) ∨ SqT K H l (ns.map V.int)) ∧ ns.length < 64 ∧ ∀ (p : Addr) (c : Nat), H p = none → c ≤ ns.length → Q (.ref p) (upd H p (SetO w p (fun j => decide (j ∈ ns)) c))
section
variable {X : Cx} {E : WX} {a : Expr} {f : L → Sto → R W} {p p2 pos pos2 : Pos}
theorem cr_setI (hc : X.calm = true) : CallR X (.type "set") (rSetI X.K X.w) := by
  intro pins s σ H xs us Q I r h
  obtain ⟨l, ns, rfl, hq, h64, k⟩ := h
  obtain ⟨u, rfl, rx⟩ := vals1 r
  cases rx
  have fin : ∀ (h' : Heap) (tk c : Nat), SetR X.w h' s.heap.objs.size (fun j => decide (j ∈ ns)) c → c ≤ ns.length → (∀ b o, s.heap.get? b = some o → h'.get? b = some o) → EP X pins σ Q (.ref s.heap.objs.size) { s with heap := h', toks := tk } := fun h' tk c hS hcn hk =>
    ⟨.ref s.heap.objs.size, upd H s.heap.objs.size (SetO X.w s.heap.objs.size (fun j => decide (j ∈ ns)) c), I.laid (t' := tk) hk (Nat.le_refl _) (setO_new hS), rfl, k _ c (I.hok.fresh (Nat.le_refl _)) hcn⟩
  rcases hq with hq | hq
  · obtain ⟨its, rv, pl, hz⟩ := I.list hq
    exact set_ints ns (I.ok.hd hc) pl.isList (by simpa using ints_of_vals rv) (scan64 h64) fin
  · obtain ⟨its, rv, pl, hz⟩ := I.tuple hq
    exact set_intsT ns (I.ok.hd hc) pl (by simpa using ints_of_vals rv) (scan64 h64) fin
theorem b_set : bootBuiltins ("set" : Str) = some (.type "set") := by decide +kernel
theorem b_sorted0 : bootBuiltins ("sorted" : Str) = some (.builtin "sorted") := by decide +kernel
theorem s_srtset (hc : X.calm = true) (hg : Gl X "sorted") (hm : X.mg "sorted" = none) (hg2 : Gl X "set") (hm2 : X.mg "set" = none) (ha : PE X a (tE X.K E f)) (st : starEach [a] X.env = (false, eval a X.env) :: starEach [] X.env) :
    PE X (.Call (.Name "sorted" p) [.Call (.Name "set" p2) [a] [] pos2] [] pos) (tE X.K E fun l S => (f l S).bind fun x S => biW .sortedset [x] S) := by
  have inner := pe_callTy (pos := pos2) (p := p2) (cr_setI hc) hg2 hm2 b_set (pa_cons ha pa_nil st) (by decide) (by decide) st rfl
  refine PE.imp' (pe_callB (pos := pos) (p := p) (cr_sortedSet hc) hg hm b_sorted0 (pa_cons inner pa_nil rfl) (by decide) (by decide) rfl rfl) fun σ H Q ⟨w, l, eH, ok, lr, h⟩ => ?_
  refine tE.bind (g := fun x l S => biW .sortedset [x] S) eH ok lr h fun w1 v x e1 ok1 lr1 r1 h1 => ?_
  cases x with
  | rf _ => exact h1.elim
  | sc _ => exact h1.elim
  | pv q =>
    have h1 : After X.K E (Rv X.K) (retP (biP .sortedset [q]) w1.S) w1 σ Q := h1
    cases q with
    | list ys =>
      have h1 : After X.K E (Rv X.K) (retP ((intsOf ys).bind fun ns => if ns.length < 64 then some (.list ((usort ns).map PyData.int)) else none) w1.S) w1 σ Q := h1
      cases q2 : intsOf ys with
      | none => rw [q2] at h1; exact h1.elim
      | some ns =>
        rw [q2] at h1
        have h1 : After X.K E (Rv X.K) (retP (if ns.length < 64 then some (.list ((usort ns).map PyData.int)) else none) w1.S) w1 σ Q := h1
        by_cases h64 : ns.length < 64
        · rw [if_pos h64] at h1
          cases r1 with
          | lst s1 n1 a1 =>
            have e2 := a1.toInts q2
            subst e2
            refine ⟨_, ns, rfl, .inl (SqL.of s1), h64, fun p c hp hcn => ⟨p, _, c, rfl, upd_same, by omega, fun ns' q hs hm hl hn => ?_⟩⟩
            have e3 : ns' = usort ns := strict_one hs (usort_sorted ns) fun k => by rw [hm k, usort_mem]; simp
            subst e3
            obtain ⟨x2, o2⟩ := laid ok1 hp (SetO X.w p (fun j => decide (j ∈ ns)) c)
            obtain ⟨x3, o3⟩ := laid o2 hn (.lst ((usort ns).map V.int))
            exact h1 ⟨_, w1.μ, w1.S, w1.F⟩ (.ref q) rfl (x2.trans x3) o3 (Rp.lst upd_same (fun z => o2.nlv hn z) (ints_rp _))
        · rw [if_neg h64] at h1; exact h1.elim
    | tuple ys =>
      have h1 : After X.K E (Rv X.K) (retP ((intsOf ys).bind fun ns => if ns.length < 64 then some (.list ((usort ns).map PyData.int)) else none) w1.S) w1 σ Q := h1
      cases q2 : intsOf ys with
      | none => rw [q2] at h1; exact h1.elim
      | some ns =>
        rw [q2] at h1
        have h1 : After X.K E (Rv X.K) (retP (if ns.length < 64 then some (.list ((usort ns).map PyData.int)) else none) w1.S) w1 σ Q := h1
        by_cases h64 : ns.length < 64
        · rw [if_pos h64] at h1
          cases r1 with
          | tup s1 n1 a1 =>
            have e2 := a1.toInts q2
            subst e2
            refine ⟨_, ns, rfl, .inr s1.sq, h64, fun p c hp hcn => ⟨p, _, c, rfl, upd_same, by omega, fun ns' q hs hm hl hn => ?_⟩⟩
            have e3 : ns' = usort ns := strict_one hs (usort_sorted ns) fun k => by rw [hm k, usort_mem]; simp
            subst e3
            obtain ⟨x2, o2⟩ := laid ok1 hp (SetO X.w p (fun j => decide (j ∈ ns)) c)
            obtain ⟨x3, o3⟩ := laid o2 hn (.lst ((usort ns).map V.int))
            exact h1 ⟨_, w1.μ, w1.S, w1.F⟩ (.ref q) rfl (x2.trans x3) o3 (Rp.lst upd_same (fun z => o2.nlv hn z) (ints_rp _))
        · rw [if_neg h64] at h1; exact h1.elim
    | _ => exact h1.elim
end
end Mi
set_option Elab.async false
set_option linter.all false
set_option maxRecDepth 100000
set_option autoImplicit false
/-! Mi: the check of a small text against the program's. -/
namespace Mi
open PySem PySem.Spec L2
/-! ### equality of pure values -/
mutual
def pEq : P → P → Bool
  | .none, .none => true
  | .bool a, .bool b => a == b
  | .int a, .int b => decide (a = b)
  | .str a, .str b => decide (a = b)
  | .list a, .list b => pEqs a b
  | .tuple a, .tuple b => pEqs a b
  | _, _ => false
def pEqs : List P → List P → Bool
  | [], [] => true
  | a :: r, b :: s => pEq a b && pEqs r s
  | _, _ => false
end
mutual
theorem pEq_ok : ∀ (a b : P), pEq a b = true → a = b
  | .none, .none, _ => rfl
  | .bool a, .bool b, h => by
    have h : (a == b) = true := h
    rw [eq_of_beq h]
  | .int a, .int b, h => by
    have h : decide (a = b) = true := h
    rw [of_decide_eq_true h]
  | .str a, .str b, h => by
    have h : decide (a = b) = true := h
    rw [of_decide_eq_true h]
  | .list a, .list b, h => by rw [pEqs_ok a b h]
  | .tuple a, .tuple b, h => by rw [pEqs_ok a b h]
  | .dict a, b, h => by cases b <;> cases h
  | .none, .bool _, h => by cases h
  | .none, .int _, h => by cases h
  | .none, .str _, h => by cases h
  | .none, .list _, h => by cases h
  | .none, .tuple _, h => by cases h
  | .none, .dict _, h => by cases h
  | .bool _, .none, h => by cases h
  | .bool _, .int _, h => by cases h
  | .bool _, .str _, h => by cases h
  | .bool _, .list _, h => by cases h
  | .bool _, .tuple _, h => by cases h
  | .bool _, .dict _, h => by cases h
  | .int _, .none, h => by cases h
  | .int _, .bool _, h => by cases h
  | .int _, .str _, h => by cases h
  | .int _, .list _, h => by cases h
  | .int _, .tuple _, h => by cases h
  | .int _, .dict _, h => by cases h
  | .str _, .none, h => by cases h
  | .str _, .bool _, h => by cases h
  | .str _, .int _, h => by cases h
  | .str _, .list _, h => by cases h
  | .str _, .tuple _, h => by cases h
  | .str _, .dict _, h => by cases h
  | .list _, .none, h => by cases h
  | .list _, .bool _, h => by cases h
  | .list _, .int _, h => by cases h
  | .list _, .str _, h => by cases h
  | .list _, .tuple _, h => by cases h
  | .list _, .dict _, h => by cases h
  | .tuple _, .none, h => by cases h
  | .tuple _, .bool _, h => by cases h
  | .tuple _, .int _, h => by cases h
  | .tuple _, .str _, h => by cases h
  | .tuple _, .list _, h => by cases h
  | .tuple _, .dict _, h => by cases h
theorem pEqs_ok : ∀ (a b : List P), pEqs a b = true → a = b
  | [], [], _ => rfl
  | a :: r, b :: s, h => by
    have h : (pEq a b && pEqs r s) = true := h
    rw [Bool.and_eq_true] at h
    rw [pEq_ok a b h.1, pEqs_ok r s h.2]
  | [], _ :: _, h => by cases h
  | _ :: _, [], h => by cases h
end
/-! ### what is known around -/
structure Tab where
  fns : List Fn
  consts : List (Str × P)
  free : List Str
  exc : List Str
/-- where a piece stands: a def's own block, a comprehension's, an except suite -/
inductive Md where
  | top | blk | hot
  deriving DecidableEq
structure Sc where
  sc : List (Str × NameKind)
  N : List Str
  md : Md
  fb : List (Str × NameKind)
def glB (c : Sc) (x : Str) : Bool := decide (c.sc.lookup x = some .globalImplicit)
def visB (c : Sc) (x : Str) : Bool := decide (c.sc.lookup x = some .local) || (decide (c.sc.lookup x = some .cell) || decide (c.sc.lookup x = some .free))
def okn (x : Str) : Bool := !(x == ("__debug__" : Str)) && !(x == ("__classdict__" : Str))
/-- a name that may be written -/
def locB (c : Sc) (x : Str) : Bool := decide (c.sc.lookup x = some .local) || (decide (c.sc.lookup x = some .cell) && (decide (c.md = .top) || decide (c.fb.lookup x = some .cell)))
def isStar : Expr → Bool
  | .Starred _ _ => true
  | _ => false
def isSlice : Expr → Bool
  | .Slice _ _ _ _ => true
  | _ => false
def isSet : Expr → Bool
  | .Set _ _ _ => true
  | _ => false
def isComp : Expr → Bool
  | .ListComp _ _ _ _ => true
  | .SetComp _ _ _ _ => true
  | .DictComp _ _ _ _ _ => true
  | _ => false
def isTup : Expr → Bool
  | .Tuple _ _ _ => true
  | .List _ _ => true
  | _ => false
def isTupT : Expr → Bool
  | .Tuple _ _ _ => true
  | _ => false
def isBool : Expr → Bool
  | .BoolOp _ _ _ => true
  | _ => false
def noBase : Expr → Bool
  | .Call (.Attribute _ _ _) _ _ _ => true
  | .Name _ _ => true
  | .Subscript _ _ _ => true
  | _ => false
def cstB : P → Const → Bool
  | .none, .none => true
  | .bool a, .bool b => a == b
  | .int a, .int b => decide (a = b)
  | .str a, .str b => decide (a = b)
  | _, _ => false
def tailE (op : BoolOp) (y : Expr) (rest : List Expr) (pos : Pos) : Expr := match rest with
  | [] => y
  | z :: r => .BoolOp op (y :: z :: r) pos
def elLen : EL → Nat
  | .nil => 0
  | .cons _ r => elLen r + 1
def relN (bn sc : List (Str × NameKind)) : List (Str × NameKind) := bn.map fun (n, k) => if (k == .free && sc.lookup n == some .cell) then (n, .cell) else (n, k)
def tyStr : Ty → Str
  | .tint => "int" | .tbool => "bool" | .tstr => "str" | .ttuple => "tuple" | .tlist => "list" | .tdict => "dict"
def tyOk : Ty → Bool
  | .tdict => false
  | _ => true
def biOk (c : Sc) : B → Bool
  | .minD | .range | .sortedset | .lenset => false
  | .min | .max | .sum | .all | .any => !decide (c.md = .hot)
  | _ => true
/-- may stand as a test -/
def tb : E → Bool
  | .ife _ _ _ => false
  | .and_ a b => tb a && tb b
  | .or_ a b => tb a && tb b
  | .not_ a => tb a
  | .frz _ => false
  | _ => true
def ownOf (N : List Str) (vs : List Nat) : List (Str × Nat) := vs.filterMap fun i => N[i]?.map fun x => (x, i)
mutual
def chkE (M : Tab) : E → Sc → Expr → Bool
  | .var i => fun c x => match x with
    | .Name x _ => decide (c.N[i]? = some x) && (visB c x && okn x)
    | _ => false
  | .cst p => fun c x => match x with
    | .Constant k _ _ => cstB p k
    | _ => false
  | .gcst y p => fun c x => match x with
    | .Name x _ => decide (x = y) && (glB c x && (okn x && (match M.consts.lookup y with
      | some q => pEq p q
      | none => false)))
    | _ => false
  | .bin o a b => fun c x => match x with
    | .BinOp x op y _ => decide (op = o) && (chkE M a c x && chkE M b c y)
    | _ => false
  | .un o a => fun c x => match x with
    | .UnaryOp op x _ => decide (op = o) && ((decide (o = .USub) || decide (o = .Invert)) && chkE M a c x)
    | _ => false
  | .cmp o a b => fun c x => match x with
    | .Compare x [op] [y] _ => decide (op = o) && (!behindInMarks op y && (chkE M a c x && chkE M b c y))
    | _ => false
  | .cmp2 o o' a b d => fun c x => match x with
    | .Compare x [op, op'] [y, z] _ => decide (op = o) && (decide (op' = o') && (!lastMarks [op, op'] [y, z] && (chkE M a c x && (chkE M b c y && chkE M d c z))))
    | _ => false
  | .and_ a b => fun c x => match x with
    | .BoolOp .And (x :: y :: rest) pos => chkE M a c x && chkE M b c (tailE .And y rest pos)
    | _ => false
  | .or_ a b => fun c x => match x with
    | .BoolOp .Or (x :: y :: rest) pos => chkE M a c x && chkE M b c (tailE .Or y rest pos)
    | _ => false
  | .not_ a => fun c x => match x with
    | .UnaryOp .Not x _ => chkE M a c x
    | _ => false
  | .ife d a b => fun c x => match x with
    | .IfExp z x y _ => tb d && (chkE M d c z && (chkE M a c x && chkE M b c y))
    | _ => false
  | .tup es => fun c x => match x with
    | .Tuple xs _ _ => decide (elLen es ≤ maxLen) && chkEL M es c xs
    | _ => false
  | .lstv es => fun c x => match x with
    | .List xs _ => decide (elLen es ≤ maxLen) && chkEL M es c xs
    | _ => false
  | .lstm es => fun c x => match x with
    | .List xs _ => decide (elLen es ≤ maxLen) && chkEL M es c xs
    | _ => false
  | .idx a i => fun c x => match x with
    | .Subscript x y _ => !isSlice y && (chkE M a c x && chkE M i c y)
    | _ => false
  | .slc a lo hi => fun c x => match x with
    | .Subscript x (.Slice y z none _) _ => chkE M a c x && (chkO M lo c y && chkO M hi c z)
    | _ => false
  | .pcall f es => fun c x => match x with
    | .Call (.Name x _) (y :: ys) [] _ => !decide (c.md = .hot) && (glB c x && (okn x && (chkEL M es c (y :: ys) && (match M.fns[f]? with
      | some fn => decide (fn.name = x) && decide (elLen es = fn.params.length)
      | none => false))))
    | _ => false
  | .hcall f es => fun c x => match x with
    | .Call (.Name x _) (y :: ys) [] _ => !decide (c.md = .hot) && (glB c x && (okn x && (chkEL M es c (y :: ys) && (match M.fns[f]? with
      | some fn => decide (fn.name = x) && decide (elLen es = fn.params.length)
      | none => false))))
    | _ => false
  | .gcall f es => fun c x => match x with
    | .Call (.Name x _) (y :: ys) [] _ => !decide (c.md = .hot) && (glB c x && (okn x && (chkEL M es c (y :: ys) && (match M.fns[f]? with
      | some fn => decide (fn.name = x) && decide (elLen es = fn.params.length)
      | none => false))))
    | _ => false
  | .bi b es => fun c x => match x with
    | .Call (.Name x _) (y :: ys) [] _ => biOk c b && (decide (x = bname b) && (glB c x && (decide (x ∈ M.free) && chkEL M es c (y :: ys))))
    | .Call (.Name x _) [y] [⟨some z, .Constant .none _ _, _⟩] _ => decide (b = .minD) && (!decide (c.md = .hot) && (decide (x = ("min" : Str)) && (decide (z = ("default" : Str)) && (glB c x && (decide (x ∈ M.free) && chkEL M es c [y])))))
    | _ => false
  | .isi a t => fun c x => match x with
    | .Call (.Name f _) [x, .Name y _] [] _ => tyOk t && (decide (f = ("isinstance" : Str)) && (decide (y = tyStr t) && (glB c f && (glB c y && (decide (f ∈ M.free) && (decide (y ∈ M.free) && (!isStar x && chkE M a c x)))))))
    | _ => false
  | .isi2 _ _ _ => fun _ _ => false
  | .lc t k it ifs elt own => fun c x => match x with
    | .ListComp ex [⟨tg, iter, xs, 0⟩] scope _ => !decide (c.md = .hot) && (decide ((ownOf c.N own).map (·.2) = own) && (blkC c.N ⟨.function, c.sc, false, false, []⟩ scope (ownOf c.N own) && (!isSet iter && (chkI M k it c tg iter &&
      (chkGw M t ⟨relN scope.names c.sc, c.N, .blk, scope.names⟩ own tg && (chkIf M ifs ⟨relN scope.names c.sc, c.N, .blk, scope.names⟩ xs && chkE M elt ⟨relN scope.names c.sc, c.N, .blk, scope.names⟩ ex))))))
    | _ => false
  | .frz a => fun c x => chkE M a c x
  | .app o e => fun c x => match x with
    | .Call (.Attribute x m ap) [y] [] cp => decide (m = ("append" : Str)) && ((ap.endLine == cp.line) && (noBase x && (!isStar y && (chkE M o c x && chkE M e c y))))
    | _ => false
  | .ext o e => fun c x => match x with
    | .Call (.Attribute x m ap) [y] [] cp => decide (m = ("extend" : Str)) && ((ap.endLine == cp.line) && (noBase x && (!isStar y && (chkE M o c x && chkE M e c y))))
    | _ => false
  | .pop o => fun c x => match x with
    | .Call (.Attribute x m ap) [] [] cp => decide (m = ("pop" : Str)) && ((ap.endLine == cp.line) && (noBase x && chkE M o c x))
    | _ => false
  | .popi o e => fun c x => match x with
    | .Call (.Attribute x m ap) [y] [] cp => decide (m = ("pop" : Str)) && ((ap.endLine == cp.line) && (noBase x && (!isStar y && (chkE M o c x && chkE M e c y))))
    | _ => false
  | .lrng k (.cons a .nil) => fun c x => match x with
    | .Call (.Name f _) [.Call (.Name g _) [y] [] _] [] _ => !decide (c.md = .hot) && (decide (f = (if k then ("tuple" : Str) else ("list" : Str))) && (decide (g = ("range" : Str)) && (glB c f && (glB c g && (decide (f ∈ M.free) && (decide (g ∈ M.free) && (!isStar y && chkE M a c y)))))))
    | _ => false
  | .lrng _ .nil => fun _ _ => false
  | .lrng _ (.cons _ (.cons _ _)) => fun _ _ => false
  | .dnew => fun c x => match x with
    | .Dict [] [] _ => true
    | _ => false
  | .dsrt a => fun c x => match x with
    | .Call (.Name f _) [y] [] _ => !decide (c.md = .hot) && (decide (f = ("sorted" : Str)) && (glB c f && (decide (f ∈ M.free) && (!isStar y && chkE M a c y))))
    | _ => false
  | .sset a => fun c x => match x with
    | .Call (.Name f _) [.Call (.Name g _) [y] [] _] [] _ => !decide (c.md = .hot) && (decide (f = ("sorted" : Str)) && (decide (g = ("set" : Str)) && (glB c f && (glB c g && (decide (f ∈ M.free) && (decide (g ∈ M.free) && (!isStar y && chkE M a c y)))))))
    | _ => false
  | .dcp e => fun c x => match x with
    | .Call (.Name f _) [y] [] _ => decide (f = ("dict" : Str)) && (glB c f && (decide (f ∈ M.free) && (!isStar y && chkE M e c y)))
    | _ => false
  | .dget o e => fun c x => match x with
    | .Call (.Attribute x m ap) [y, .Constant .none _ _] [] cp => decide (m = ("get" : Str)) && ((ap.endLine == cp.line) && (noBase x && (!isStar y && (chkE M o c x && chkE M e c y))))
    | _ => false
  | .lidx o e => fun c x => match x with
    | .Call (.Attribute x m ap) [y] [] cp => decide (m = ("index" : Str)) && ((ap.endLine == cp.line) && (noBase x && (!isStar y && (chkE M o c x && chkE M e c y))))
    | _ => false
  | .catm a b => fun c x => match x with
    | .BinOp x op y _ => decide (op = .Add) && (chkE M a c x && chkE M b c y)
    | _ => false
  | .lrep a b => fun c x => match x with
    | .BinOp x op y _ => decide (op = .Mult) && (chkE M a c x && chkE M b c y)
    | _ => false
  | .dsetd o e => fun c x => match x with
    | .Call (.Attribute x m ap) [y, .List [] _] [] cp => decide (m = ("setdefault" : Str)) && ((ap.endLine == cp.line) && (noBase x && (!isStar y && (chkE M o c x && chkE M e c y))))
    | _ => false
  | .lc2 t k it ifs t1 k1 it1 ifs1 elt own own1 => fun c x => match x with
    | .ListComp ex [⟨tg, iter, xs, 0⟩, ⟨tg1, iter1, xs1, 0⟩] scope _ => !decide (c.md = .hot) && (decide ((ownOf c.N own).map (·.2) = own) && (own1.all (fun i => own.contains i) && (blkC c.N ⟨.function, c.sc, false, false, []⟩ scope (ownOf c.N own) && (!isSet iter && (!isSet iter1 && (chkI M k it c tg iter &&
      (chkGw M t ⟨relN scope.names c.sc, c.N, .blk, scope.names⟩ own tg && (chkIf M ifs ⟨relN scope.names c.sc, c.N, .blk, scope.names⟩ xs && (chkI M k1 it1 ⟨relN scope.names c.sc, c.N, .blk, scope.names⟩ tg1 iter1 && (chkGw M t1 ⟨relN scope.names c.sc, c.N, .blk, scope.names⟩ own1 tg1 &&
      (chkIf M ifs1 ⟨relN scope.names c.sc, c.N, .blk, scope.names⟩ xs1 && chkE M elt ⟨relN scope.names c.sc, c.N, .blk, scope.names⟩ ex)))))))))))
    | _ => false
  | .dcomp t k it ifs ke ve own => fun c x => match x with
    | .DictComp kx vx [⟨tg, iter, xs, 0⟩] scope _ => !decide (c.md = .hot) && (decide ((ownOf c.N own).map (·.2) = own) && (blkC c.N ⟨.function, c.sc, false, false, []⟩ scope (ownOf c.N own) && (!isSet iter && (chkI M k it c tg iter &&
      (chkGw M t ⟨relN scope.names c.sc, c.N, .blk, scope.names⟩ own tg && (chkIf M ifs ⟨relN scope.names c.sc, c.N, .blk, scope.names⟩ xs && (chkE M ke ⟨relN scope.names c.sc, c.N, .blk, scope.names⟩ kx && chkE M ve ⟨relN scope.names c.sc, c.N, .blk, scope.names⟩ vx)))))))
    | _ => false
  | .lmk e => fun c x => match x with
    | .Call (.Name f _) [y] [] _ => decide (f = ("list" : Str)) && (glB c f && (decide (f ∈ M.free) && (!isStar y && chkE M e c y)))
    | _ => false
def chkEL (M : Tab) : EL → Sc → List Expr → Bool
  | .nil => fun c xs => match xs with
    | [] => true
    | _ => false
  | .cons e r => fun c xs => match xs with
    | x :: xs => !isStar x && (chkE M e c x && chkEL M r c xs)
    | _ => false
/-- at most one test of a clause -/
def chkIf (M : Tab) : EL → Sc → List Expr → Bool
  | .nil => fun c xs => match xs with
    | [] => true
    | _ => false
  | .cons e .nil => fun c xs => match xs with
    | [x] => tb e && chkE M e c x
    | _ => false
  | .cons _ (.cons _ _) => fun _ _ => false
def chkO (M : Tab) : OE → Sc → Option Expr → Bool
  | .no => fun c x => match x with
    | none => true
    | _ => false
  | .some e => fun c x => match x with
    | some x => chkE M e c x
    | _ => false
/-- a clause's iterable -/
def chkI (M : Tab) (k : IK) : EL → Sc → Expr → Expr → Bool
  | .nil => fun _ _ _ => false
  | .cons a .nil => fun c tg x => match k with
    | .seq => chkE M a c x
    | .rng1 => (match x with
      | .Call (.Name f _) [y] [] _ => decide (f = ("range" : Str)) && (glB c f && (decide (f ∈ M.free) && (!isStar y && chkE M a c y)))
      | _ => false)
    | .enum => isTupT tg && (match x with
      | .Call (.Name f _) [y] [] _ => decide (f = ("enumerate" : Str)) && (glB c f && (decide (f ∈ M.free) && (!isStar y && chkE M a c y)))
      | _ => false)
    | _ => false
  | .cons a (.cons b .nil) => fun c tg x => match k with
    | .rng2 => (match x with
      | .Call (.Name f _) [y, z] [] _ => decide (f = ("range" : Str)) && (glB c f && (decide (f ∈ M.free) && (!isStar y && (!isStar z && (chkE M a c y && chkE M b c z)))))
      | _ => false)
    | .zip => isTupT tg && (match x with
      | .Call (.Name f _) [y, z] [] _ => decide (f = ("zip" : Str)) && (glB c f && (decide (f ∈ M.free) && (!isStar y && (!isStar z && (chkE M a c y && chkE M b c z)))))
      | _ => false)
    | _ => false
  | .cons a (.cons b (.cons d .nil)) => fun c tg x => match k with
    | .rng3 => (match x with
      | .Call (.Name f _) [y, z, u] [] _ => decide (f = ("range" : Str)) && (glB c f && (decide (f ∈ M.free) && (!isStar y && (!isStar z && (!isStar u && (chkE M a c y && (chkE M b c z && chkE M d c u)))))))
      | _ => false)
    | _ => false
  | .cons _ (.cons _ (.cons _ (.cons _ _))) => fun _ _ _ => false
/-- a target of names (a comprehension's) -/
def chkGw (M : Tab) : G → Sc → List Nat → Expr → Bool
  | .nm i => fun c vs x => match x with
    | .Name x _ => decide (i ∈ vs) && (decide (c.N[i]? = some x) && locB c x)
    | _ => false
  | .tup ts => fun c vs x => match x with
    | .Tuple xs _ _ => chkGws M ts c vs xs
    | _ => false
  | .sub _ _ => fun _ _ _ => false
def chkGws (M : Tab) : GL → Sc → List Nat → List Expr → Bool
  | .nil => fun c vs xs => match xs with
    | [] => true
    | _ => false
  | .cons t r => fun c vs xs => match xs with
    | x :: xs => !isStar x && (chkGw M t c vs x && chkGws M r c vs xs)
    | _ => false
end
mutual
def chkG (M : Tab) : G → Sc → Expr → Bool
  | .nm i => fun c x => match x with
    | .Name x _ => decide (c.N[i]? = some x) && locB c x
    | _ => false
  | .tup ts => fun c x => match x with
    | .Tuple xs _ _ => !decide (c.md = .hot) && chkGs M ts c xs
    | _ => false
  | .sub o i => fun c x => match x with
    | .Subscript x y _ => !isSlice y && (chkE M o c x && chkE M i c y)
    | _ => false
def chkGs (M : Tab) : GL → Sc → List Expr → Bool
  | .nil => fun c xs => match xs with
    | [] => true
    | _ => false
  | .cons t r => fun c xs => match xs with
    | x :: xs => !isStar x && (chkG M t c x && chkGs M r c xs)
    | _ => false
end
def isListComp : Expr → Bool
  | .ListComp _ _ _ _ => true
  | _ => false
def isNil : EL → Bool
  | .nil => true
  | _ => false
def isLc : E → Bool
  | .lc _ _ _ _ _ _ => true
  | .lc2 _ _ _ _ _ _ _ _ _ _ _ => true
  | _ => false
/-- whether name = [.. for ..] exchanges the stores -/
def isDictComp : Expr → Bool
  | .DictComp _ _ _ _ _ => true
  | _ => false
def isDc : E → Bool
  | .dcomp _ _ _ _ _ _ _ => true
  | _ => false
def swB (c : Sc) (tg e : Expr) : Bool := match tg, e with
  | .Name t pos, .DictComp _ _ _ s p => decide (c.sc.lookup t = some .local) && ((pos.line == p.line) && !(s.names.any fun (n, k) => n == t && (k == .local || k == .cell)))
  | .Name t pos, .ListComp _ _ s p => decide (c.sc.lookup t = some .local) && ((pos.line == p.line) && !(s.names.any fun (n, k) => n == t && (k == .local || k == .cell)))
  | _, _ => false
def pathB (c : Sc) (N : List Str) (i j : Nat) (a b x y : Expr) : Bool := match a, b with
  | .Name p pp, .Name q qp => decide (i ≠ j) && (decide (c.N[i]? = some p) && (decide (c.N[j]? = some q) && (decide (c.sc.lookup p = some .local) && (decide (c.sc.lookup q = some .local) && ((qp.line == pp.line) &&
      (!(foldedForSure 8 x && foldedForSure 8 y) && (!(constantsAlone 8 x && constantsAlone 8 y) && (!isStar x && !isStar y))))))))
  | _, _ => false
def pathC (c : Sc) (i j : Nat) (a b x y : Expr) : Bool := match a, b with
  | .Name p pp, .Name q qp => decide (c.N[i]? = some p) && (decide (c.N[j]? = some q) && (locB c p && (locB c q && (!(decide (c.sc.lookup p = some .local) && decide (c.sc.lookup q = some .local)) && (!isStar x && !isStar y)))))
  | _, _ => false
mutual
def chkT (M : Tab) : T → Sc → Stmt → Bool
  | .pass => fun c x => match x with
    | .Pass _ => true
    | _ => false
  | .brk => fun c x => match x with
    | .Break _ => true
    | _ => false
  | .cont => fun c x => match x with
    | .Continue _ => true
    | _ => false
  | .retn => fun c x => match x with
    | .Return none _ => true
    | _ => false
  | .ret e => fun c x => match x with
    | .Return (some x) _ => chkE M e c x
    | _ => false
  | .expr e => fun c x => match x with
    | .Expr x _ => !isComp x && chkE M e c x
    | _ => false
  | .asg t e => fun c x => match x with
    | .Assign [tg] x _ => !(isTup tg && isTup x) && (!isStar tg && ((!isComp x || ((isListComp x && (!swB c tg x || isLc e)) || (isDictComp x && (!swB c tg x || isDc e)))) && (chkG M t c tg && chkE M e c x)))
    | _ => false
  | .par2 i j a b => fun c x => match x with
    | .Assign [.Tuple [p, q] _ _] (.Tuple [x, y] _ _) _ => decide (c.md = .top) && ((pathB c c.N i j p q x y || pathC c i j p q x y) && (chkE M a c x && chkE M b c y))
    | _ => false
  | .aug i o e => fun c x => match x with
    | .AugAssign (.Name x _) op y _ => (decide (op = o) && (decide (o = .Add) || decide (o = .Sub))) && (decide (c.N[i]? = some x) && (locB c x && chkE M e c y))
    | _ => false
  | .if_ d a b => fun c x => match x with
    | .If x y z _ => tb d && (chkE M d c x && (chkTL M a c y && chkTL M b c z))
    | _ => false
  | .for_ t k it body => fun c x => match x with
    | .For tg iter y [] _ => decide (c.md = .top) && (!isSet iter && (chkI M k it c tg iter && (chkG M t c tg && chkTL M body c y)))
    | _ => false
  | .while_ d body => fun c x => match x with
    | .While x y [] _ => decide (c.md = .top) && (tb d && (chkE M d c x && chkTL M body c y))
    | _ => false
  | .raise n es => fun c x => isNil es && (match x with
    | .Raise (some (.Call (.Name y _) [] [] _)) none _ => decide (c.md = .top) && (decide (y = n) && (decide (n ∈ M.exc) && (glB c y && okn y)))
    | _ => false)
  | .try_ body hs => fun c x => match x with
    | .Try y (h :: r) [] [] _ => decide (c.md = .top) && (chkTL M body c y && chkH M hs c (h :: r))
    | _ => false
def chkTL (M : Tab) : TL → Sc → List Stmt → Bool
  | .nil => fun c xs => match xs with
    | [] => true
    | _ => false
  | .cons t r => fun c xs => match xs with
    | x :: xs => chkT M t c x && chkTL M r c xs
    | _ => false
def chkH (M : Tab) : HL → Sc → List ExceptHandler → Bool
  | .nil => fun c xs => match xs with
    | [] => true
    | _ => false
  | .cons n s r => fun c xs => match xs with
    | .ExceptHandler (some (.Name y _)) none (b :: bs) _ :: xs => decide (y = n) && (decide (n ∈ M.exc) && (glB c y && (okn y && (chkTL M s { c with md := .hot, fb := c.sc } (b :: bs) && chkH M r c xs))))
    | _ => false
  | .named n i s r => fun c xs => match xs with
    | .ExceptHandler (some (.Name y _)) (some z) (b :: bs) _ :: xs => decide (y = n) && (decide (n ∈ M.exc) && (glB c y && (okn y && (decide (c.N[i]? = some z) && (decide (c.sc.lookup z = some .local) && (chkTL M s { c with md := .hot, fb := c.sc } (b :: bs) && chkH M r c xs))))))
    | _ => false
end
end Mi
set_option Elab.async false
set_option linter.all false
set_option maxRecDepth 100000
set_option autoImplicit false
/-! Mi: what holds around a piece of code. -/
namespace Mi
open PySem PySem.Spec L2
structure Good (M : Tab) (cf : Cf) (k : Nat) (U : WX) (X : Cx) (c : Sc) : Prop where
  cst : ∀ x p, M.consts.lookup x = some p → ∃ u v, X.mg x = some u ∧ RelV v u ∧ ∀ H B, Rp X.K H B v p
  free : ∀ x, x ∈ M.free → X.mg x = none
  exc : ∀ x, x ∈ M.exc → X.mg x = some (.ref (He.ga X.K x)) ∧ (He.Fa.exc x).ok X.K = true
  fns : ∀ f fn, M.fns[f]? = some fn → ∃ fd, FnOk X.prog X.w X.K X.mg X.base (L2.CX X.prog X.w) k (He.ga X.K fn.name) fd fn.params (spMi X.K (cf.call f) fn.params.length) ∧ Binds X.K fd fn.params [] ∧ X.mg fn.name = some (.ref (He.ga X.K fn.name)) ∧ PySem.W.keepIn X.K (.ref (He.ga X.K fn.name)) = true
  sub : ∀ x y b, cf.sub x y = some b → PySem.W.exmOne X.K (.ref (He.ga X.K x)) (.ref (He.ga X.K y)) = some b
  nm : X.env.scope.names = c.sc
  kind : X.env.scope.kind = .function
  N : X.N = c.N
  nd : X.N.Nodup
  hu : X.A.units + 65 < cLine
  fn : ∀ x, (c.md = .top ∨ c.fb.lookup x = some .cell) → X.fn x = true
  psO : c.md = .top → PassesOwn (model X.prog X.w) X.A X.env X.xe
  calm : c.md ≠ .hot → X.calm = true
  room : c.md ≠ .hot → Room k X.A
  tk : c.md ≠ .hot → Takes X U
  top : c.md = .top → X.stack = X.env :: X.outer ∧ X.env.frame = some X.env.locals
section
variable {M : Tab} {cf : Cf} {k : Nat} {U : WX} {X : Cx} {c : Sc}
theorem Good.gl (G : Good M cf k U X c) {x : Str} (h : glB c x = true) : Gl X x := by
  unfold Gl Env.kindOf; rw [G.nm]; exact of_decide_eq_true h
theorem Good.vis (G : Good M cf k U X c) {x : Str} (h : visB c x = true) : Vis X.env.scope x := by
  unfold Vis; rw [G.nm]
  unfold visB at h
  simp only [Bool.or_eq_true, decide_eq_true_eq] at h
  exact h
theorem Good.loc (G : Good M cf k U X c) {x : Str} (h : locB c x = true) : L2.Loc X.env.scope x ∧ (X.fn x = true ∨ X.env.scope.names.lookup x = some .local) := by
  unfold L2.Loc; rw [G.nm]
  unfold locB at h
  simp only [Bool.or_eq_true, Bool.and_eq_true, decide_eq_true_eq] at h
  rcases h with h | ⟨h, h'⟩
  · exact ⟨.inl h, .inr h⟩
  · exact ⟨.inr h, .inl (G.fn x h')⟩
theorem okn_ok {x : Str} (h : okn x = true) : (x == ("__debug__" : Str)) = false ∧ (x == ("__classdict__" : Str)) = false := by
  unfold okn at h
  simp only [Bool.and_eq_true, Bool.not_eq_true'] at h
  exact h
theorem relN_eq (scope sc : Scope) (h : sc.kind = .function) : (relS scope sc).names = relN scope.names sc.names := by
  unfold relS relN
  simp only [h]
  congr 1
  funext ⟨n, k⟩
  simp
theorem blk_as {N : List Str} {sc sc' scope : Scope} {own : List (Str × Nat)} (h : BlkOk N sc scope own) (e : sc.names = sc'.names) : BlkOk N sc' scope own := ⟨h.kind, h.uniq, h.ix, by rw [← e]; exact h.free, h.own⟩
theorem Good.blk (G : Good M cf k U X c) (hm : c.md ≠ .hot) {scope : Scope} {own : List (Str × Nat)} (b : BlkOk X.N X.env.scope scope own) (s : Shared) (H : Hp) (C : Addr) (cl : List (Str × Addr)) (fp : List Addr) :
    Good M cf k E0 (X.blk s H scope (compEnvC scope cl C X.env) fp) ⟨relN scope.names c.sc, c.N, .blk, scope.names⟩ where
  cst := G.cst
  free := G.free
  exc := G.exc
  fns := G.fns
  sub := G.sub
  nm := by
    show (relS scope X.env.scope).names = _
    rw [relN_eq _ _ G.kind, G.nm]
  kind := b.kind
  N := G.N
  nd := G.nd
  hu := G.hu
  fn := fun x h => by
    rcases h with h | h
    · cases h
    · show (scope.names.lookup x == some NameKind.cell) = true
      have h : scope.names.lookup x = some .cell := h
      rw [h]; rfl
  psO := fun h => by cases h
  calm := fun _ => G.calm hm
  room := fun _ => G.room hm
  tk := fun _ => takes_none5
  top := fun h => by cases h
theorem Good.tr (G : Good M cf k U X c) (hm : c.md = .top) {W : WX} {pn : List (Addr × Obj)} {xe : Value → Shared → Prop} (t : Takes (X.tr pn xe) W) (p : PassesOwn (model X.prog X.w) X.A X.env xe) : Good M cf k W (X.tr pn xe) c where
  cst := G.cst
  free := G.free
  exc := G.exc
  fns := G.fns
  sub := G.sub
  nm := G.nm
  kind := G.kind
  N := G.N
  nd := G.nd
  hu := G.hu
  fn := G.fn
  psO := fun _ => p
  calm := G.calm
  room := G.room
  tk := fun _ => t
  top := G.top
theorem Good.suite (G : Good M cf k U X c) (hm : c.md = .top) (a : Addr) (pn : List (Addr × Obj)) : Good M cf k E0 (X.suite a pn) { c with md := .hot, fb := c.sc } where
  cst := G.cst
  free := G.free
  exc := G.exc
  fns := G.fns
  sub := G.sub
  nm := G.nm
  kind := G.kind
  N := G.N
  nd := G.nd
  hu := G.hu
  fn := fun x _ => G.fn x (.inl hm)
  psO := fun h => by cases h
  calm := fun h => absurd rfl h
  room := fun h => absurd rfl h
  tk := fun h => absurd rfl h
  top := fun h => by cases h
end
/-! ### little facts of the text -/
theorem star_cons {x : Expr} {xs : List Expr} {env : Env} (h : isStar x = false) : starEach (x :: xs) env = (false, eval x env) :: starEach xs env := by
  cases x <;> first | rfl | cases h
theorem star_all {pos : Pos} {env : Env} : ∀ {xs : List Expr}, xs.all (fun x => !isStar x) = true → (backTo pos (starEach xs env)).any (·.1) = false
  | [], _ => rfl
  | x :: xs, h => by
    simp only [List.all_cons, Bool.and_eq_true, Bool.not_eq_true'] at h
    rw [star_cons h.1]
    have ih := star_all (pos := pos) (env := env) (xs := xs) h.2
    show (false || (backTo pos (starEach xs env)).any (·.1)) = false
    rw [ih]; rfl
theorem plainIx {y : Expr} (h : isSlice y = false) : PlainIx y := by
  intro o i
  cases y <;> first | rfl | cases h
theorem noset {e : Expr} {env : Env} (h : isSet e = false) : ∀ x, foldedSetIterable e env x = pure x := by
  intro x
  cases e <;> first | rfl | cases h
theorem nobase {o : Expr} {name : Str} {env : Env} (h : noBase o = true) : attributeBase o name env (eval o env) = eval o env := by
  cases o with
  | Call f _ _ _ => cases f <;> first | rfl | cases h
  | _ => first | rfl | cases h
theorem nocomp {e : Expr} {t : Option Expr} {n : Nat} {env : Env} (h : isComp e = false) : swapsWith e t n env = pure false := by
  cases e <;> first | rfl | cases h
theorem evs_len (cf : Cf) : ∀ (es : EL) (l : L) (S : Sto) (xs : List W) (S' : Sto), evs cf es l S = .ok xs S' → xs.length = elLen es
  | .nil, l, S, xs, S', h => by cases h; rfl
  | .cons e r, l, S, xs, S', h => by
    have h : ((ev cf e l S).bind fun x S => (evs cf r l S).bind fun xs S => .ok (x :: xs) S) = .ok xs S' := h
    cases q : ev cf e l S with
    | err x S => rw [q] at h; cases h
    | stuck => rw [q] at h; cases h
    | ok a S1 =>
      rw [q] at h
      have h : ((evs cf r l S1).bind fun xs S => .ok (a :: xs) S) = .ok xs S' := h
      cases q2 : evs cf r l S1 with
      | err x S => rw [q2] at h; cases h
      | stuck => rw [q2] at h; cases h
      | ok b S2 =>
        rw [q2] at h
        cases h
        show b.length + 1 = elLen r + 1
        rw [evs_len cf r l S1 b _ q2]
end Mi
set_option Elab.async false
set_option linter.all false
set_option maxRecDepth 100000
set_option autoImplicit false
/-! Mi: what is checked runs as its meaning says: expressions. -/
namespace Mi
open PySem PySem.Spec L2
def ResE (cf : Cf) (U : WX) (X : Cx) (e : E) (x : Expr) : Prop := PE X x (tE X.K U (ev cf e)) ∧ (tb e = true → PT X x (tT X.K U (te cf e)) ∧ (isBool x = true → PW X x (tT X.K U (te cf e))))
def OkE (M : Tab) (cf : Cf) (k : Nat) (e : E) : Prop := ∀ (U : WX) (X : Cx) (c : Sc) (x : Expr), Good M cf k U X c → chkE M e c x = true → ResE cf U X e x
def OkEL (M : Tab) (cf : Cf) (k : Nat) (es : EL) : Prop := ∀ (U : WX) (X : Cx) (c : Sc) (xs : List Expr), Good M cf k U X c → chkEL M es c xs = true → PA X xs (tA X.K U (evs cf es)) ∧ xs.all (fun x => !isStar x) = true
def OkIf (M : Tab) (cf : Cf) (k : Nat) (es : EL) : Prop := ∀ (U : WX) (X : Cx) (c : Sc) (xs : List Expr), Good M cf k U X c → chkIf M es c xs = true → PTs X xs (tT X.K U (tes cf es))
def OkO (M : Tab) (cf : Cf) (k : Nat) (e : OE) : Prop := ∀ (U : WX) (X : Cx) (c : Sc) (x : Option Expr), Good M cf k U X c → chkO M e c x = true → PO X x (tO X.K U (evo cf e))
def OkI (M : Tab) (cf : Cf) (k : Nat) (es : EL) : Prop := ∀ (U : WX) (X : Cx) (c : Sc) (kk : IK) (tg x : Expr), Good M cf k U X c → chkI M kk es c tg x = true → PI X tg x (tI X.K U fun l S => (evs cf es l S).bind fun ws S => itR kk ws S)
def OkGw (M : Tab) (cf : Cf) (k : Nat) (t : G) : Prop := ∀ (U : WX) (X : Cx) (c : Sc) (vs : List Nat) (x : Expr), Good M cf k U X c → c.md ≠ .hot → chkGw M t c vs x = true → PG X x (tGw X.K vs (gt cf t))
def OkGws (M : Tab) (cf : Cf) (k : Nat) (t : GL) : Prop := ∀ (U : WX) (X : Cx) (c : Sc) (vs : List Nat) (xs : List Expr), Good M cf k U X c → c.md ≠ .hot → chkGws M t c vs xs = true → PGs X xs (tGsw X.K vs fun ws l S => gts cf t ws l S) ∧ (assignEach xs X.env).length = gcount t ∧ (assignEach xs X.env).findIdx? (·.1) = none ∧ xs.all (fun x => !isStar x) = true
section
variable {M : Tab} {cf : Cf} {k : Nat} {U : WX} {X : Cx} {c : Sc}
theorem plain {e : E} {x : Expr} (hx : ∀ whole, isTrue x X.env whole = (do let v ← whole; standAt x.pos; holding [v] (truthy v))) (nb : isBool x = false) (ht : te cf e = fun l S => truthR (ev cf e l S)) (h : PE X x (tE X.K U (ev cf e))) : ResE cf U X e x :=
  ⟨h, fun _ => ⟨by rw [ht]; exact s_truth hx h, fun q => by rw [nb] at q; cases q⟩⟩
theorem ba2 {a b : Bool} (h : (a && b) = true) : a = true ∧ b = true := Bool.and_eq_true_iff.mp h
theorem nt {a : Bool} (h : (!a) = true) : a = false := by cases a <;> first | rfl | cases h
theorem noh {c : Sc} (h : (!decide (c.md = .hot)) = true) : c.md ≠ .hot := of_decide_eq_false (nt h)
theorem e_var (i : Nat) : OkE M cf k (.var i) := fun U X c x G h => by
  cases x with
  | Name y p =>
    obtain ⟨h1, h2⟩ := ba2 (show (decide (c.N[i]? = some y) && (visB c y && okn y)) = true from h)
    obtain ⟨h2, h3⟩ := ba2 h2
    obtain ⟨h4, h5⟩ := okn_ok h3
    exact plain (fun _ => rfl) rfl rfl (s_var (by rw [G.N]; exact of_decide_eq_true h1) (G.vis h2) h4 h5)
  | _ => cases h
theorem e_cst (p : P) : OkE M cf k (.cst p) := fun U X c x G h => by
  cases x with
  | Constant q j ps =>
    have h : cstB p q = true := h
    refine plain (fun _ => rfl) rfl rfl ?_
    cases p <;> cases q <;> first | cases h | skip
    · exact s_cstV pe_non fun _ _ => .non
    · have h := eq_of_beq (show (_ == _) = true from h)
      subst h
      exact s_cstV pe_bl fun _ _ => .bl _
    · have h := of_decide_eq_true (show decide (_ = _) = true from h)
      subst h
      exact s_cstV pe_int fun _ _ => .int _
    · have h := of_decide_eq_true (show decide (_ = _) = true from h)
      subst h
      exact s_cstV pe_str fun _ _ => .str _
  | _ => cases h
theorem e_gcst (y : Str) (p : P) : OkE M cf k (.gcst y p) := fun U X c x G h => by
  cases x with
  | Name z ps =>
    have h : (decide (z = y) && (glB c z && (okn z && (match M.consts.lookup y with
      | some q => pEq p q
      | none => false)))) = true := h
    obtain ⟨h1, g2⟩ := ba2 h
    obtain ⟨h2, g3⟩ := ba2 g2
    obtain ⟨h3, h4⟩ := ba2 g3
    clear h g2 g3
    have h1 := of_decide_eq_true h1
    subst h1
    cases q : M.consts.lookup z with
    | none => rw [q] at h4; cases h4
    | some r =>
      rw [q] at h4
      have e := pEq_ok _ _ h4
      subst e
      obtain ⟨u, v, g1, g2, g3⟩ := G.cst z p q
      exact plain (fun _ => rfl) rfl rfl (s_cstV (pe_glob (G.gl h2) g1 g2 (okn_ok h3).1) g3)
  | _ => cases h
theorem e_bin {o : Operator} {a b : E} (ha : OkE M cf k a) (hb : OkE M cf k b) : OkE M cf k (.bin o a b) := fun U X c x G h => by
  cases x with
  | BinOp x op y ps =>
    obtain ⟨h1, h2⟩ := ba2 (show (decide (op = o) && (chkE M a c x && chkE M b c y)) = true from h)
    obtain ⟨h2, h3⟩ := ba2 h2
    have h1 := of_decide_eq_true h1
    subst h1
    exact plain (fun _ => rfl) rfl rfl (s_bin (o_bin op) (fun _ _ _ => noerr2 _ _ _) (ha U X c x G h2).1 (hb U X c y G h3).1)
  | _ => cases h
theorem e_catm {a b : E} (ha : OkE M cf k a) (hb : OkE M cf k b) : OkE M cf k (.catm a b) := fun U X c x G h => by
  cases x with
  | BinOp x op y ps =>
    obtain ⟨h1, h2⟩ := ba2 (show (decide (op = .Add) && (chkE M a c x && chkE M b c y)) = true from h)
    obtain ⟨h2, h3⟩ := ba2 h2
    have h1 := of_decide_eq_true h1
    subst h1
    exact plain (fun _ => rfl) rfl rfl (s_bin o_catm (fun _ _ _ => noerr_catm _ _ _) (ha U X c x G h2).1 (hb U X c y G h3).1)
  | _ => cases h
theorem e_lrep {a b : E} (ha : OkE M cf k a) (hb : OkE M cf k b) : OkE M cf k (.lrep a b) := fun U X c x G h => by
  cases x with
  | BinOp x op y ps =>
    obtain ⟨h1, h2⟩ := ba2 (show (decide (op = .Mult) && (chkE M a c x && chkE M b c y)) = true from h)
    obtain ⟨h2, h3⟩ := ba2 h2
    have h1 := of_decide_eq_true h1
    subst h1
    exact plain (fun _ => rfl) rfl rfl (s_bin o_rep (fun _ _ _ => noerr_rep _ _ _) (ha U X c x G h2).1 (hb U X c y G h3).1)
  | _ => cases h
theorem e_un {o : UnaryOp} {a : E} (ha : OkE M cf k a) : OkE M cf k (.un o a) := fun U X c x G h => by
  cases x with
  | UnaryOp op x ps =>
    obtain ⟨h1, h2⟩ := ba2 (show (decide (op = o) && ((decide (o = .USub) || decide (o = .Invert)) && chkE M a c x)) = true from h)
    obtain ⟨h2, h3⟩ := ba2 h2
    have h1 := of_decide_eq_true h1
    subst h1
    cases op with
    | USub => exact plain (fun _ => rfl) rfl rfl (s_un o_neg (fun _ _ => noerr1 _ _) (ha U X c x G h3).1)
    | Invert => exact plain (fun _ => rfl) rfl rfl (s_un o_inv (fun _ _ => noerr1 _ _) (ha U X c x G h3).1)
    | Not => cases h2
    | UAdd => cases h2
  | _ => cases h
theorem e_cmp {o : CmpOp} {a b : E} (ha : OkE M cf k a) (hb : OkE M cf k b) : OkE M cf k (.cmp o a b) := fun U X c x G h => by
  cases x with
  | Compare x ops ys ps =>
    cases ops with
    | nil => cases h
    | cons op ops =>
      cases ops with
      | cons _ _ => cases ys with
        | nil => cases h
        | cons _ ys => cases ys <;> cases h
      | nil =>
        cases ys with
        | nil => cases h
        | cons y ys =>
          cases ys with
          | cons _ _ => cases h
          | nil =>
            obtain ⟨h1, h2⟩ := ba2 (show (decide (op = o) && (!behindInMarks op y && (chkE M a c x && chkE M b c y))) = true from h)
            obtain ⟨h2, h3⟩ := ba2 h2
            obtain ⟨h3, h4⟩ := ba2 h3
            have h1 := of_decide_eq_true h1
            subst h1
            refine ⟨s_cmp (o_cmp G.hu op) (noerrC op) (ha U X c x G h3).1 (hb U X c y G h4).1 (nt h2), fun _ => ⟨t_cmp (o_cmp G.hu op) (noerrC op) (ha U X c x G h3).1 (hb U X c y G h4).1 (nt h2), fun q => by cases q⟩⟩
  | _ => cases h
theorem e_cmp2 {o o' : CmpOp} {a b d : E} (ha : OkE M cf k a) (hb : OkE M cf k b) (hd : OkE M cf k d) : OkE M cf k (.cmp2 o o' a b d) := fun U X c x G h => by
  cases x with
  | Compare x ops ys ps =>
    have h : (match Expr.Compare x ops ys ps with
      | .Compare x [op, op'] [y, z] _ => decide (op = o) && (decide (op' = o') && (!lastMarks [op, op'] [y, z] && (chkE M a c x && (chkE M b c y && chkE M d c z))))
      | _ => false) = true := h
    split at h
    · rename_i x op op' y z ps e
      cases e
      obtain ⟨h1, h2⟩ := ba2 h
      obtain ⟨h2, h3⟩ := ba2 h2
      obtain ⟨h3, h4⟩ := ba2 h3
      obtain ⟨h4, h5⟩ := ba2 h4
      obtain ⟨h5, h6⟩ := ba2 h5
      have h1 := of_decide_eq_true h1
      have h2 := of_decide_eq_true h2
      subst h1; subst h2
      exact ⟨s_cmp2 (o_cmp G.hu op) (o_cmp G.hu op') (noerrC op) (noerrC op') (ha U X c _ G h4).1 (hb U X c _ G h5).1 (hd U X c _ G h6).1 (nt h3), fun _ => ⟨t_cmp2 (o_cmp G.hu op) (o_cmp G.hu op') (ha U X c _ G h4).1 (hb U X c _ G h5).1 (hd U X c _ G h6).1 (nt h3), fun q => by cases q⟩⟩
    · cases h
  | _ => cases h
theorem tail_pe {op : BoolOp} {y : Expr} {rest : List Expr} {ps : Pos} {t : TE} (h : PE X (tailE op y rest ps) t) : PE X (.BoolOp op (y :: rest) ps) t := by
  cases rest with
  | nil => exact pe_one h
  | cons z r => exact h
theorem tail_pw {op : BoolOp} {y : Expr} {rest : List Expr} {ps : Pos} {t : TT} (h : PT X (tailE op y rest ps) t) (h' : isBool (tailE op y rest ps) = true → PW X (tailE op y rest ps) t) : PW X (.BoolOp op (y :: rest) ps) t := by
  cases rest with
  | nil => cases op with
    | And => exact pw_and1 h
    | Or => exact pw_or1 h
  | cons z r => exact h' rfl
theorem e_and {a b : E} (ha : OkE M cf k a) (hb : OkE M cf k b) : OkE M cf k (.and_ a b) := fun U X c x G h => by
  cases x with
  | BoolOp op xs ps =>
    cases op with
    | Or => cases xs with
      | nil => cases h
      | cons _ xs => cases xs <;> cases h
    | And =>
      cases xs with
      | nil => cases h
      | cons x xs =>
        cases xs with
        | nil => cases h
        | cons y rest =>
          obtain ⟨h1, h2⟩ := ba2 (show (chkE M a c x && chkE M b c (tailE .And y rest ps)) = true from h)
          have A := ha U X c x G h1
          have B := hb U X c _ G h2
          refine ⟨s_and A.1 (tail_pe B.1), fun q => ?_⟩
          obtain ⟨q1, q2⟩ := ba2 (show (tb a && tb b) = true from q)
          have R := s_tand (A.2 q1).1 (tail_pw (B.2 q2).1 (B.2 q2).2)
          exact ⟨R.pt, fun _ => R⟩
  | _ => cases h
theorem e_or {a b : E} (ha : OkE M cf k a) (hb : OkE M cf k b) : OkE M cf k (.or_ a b) := fun U X c x G h => by
  cases x with
  | BoolOp op xs ps =>
    cases op with
    | And => cases xs with
      | nil => cases h
      | cons _ xs => cases xs <;> cases h
    | Or =>
      cases xs with
      | nil => cases h
      | cons x xs =>
        cases xs with
        | nil => cases h
        | cons y rest =>
          obtain ⟨h1, h2⟩ := ba2 (show (chkE M a c x && chkE M b c (tailE .Or y rest ps)) = true from h)
          have A := ha U X c x G h1
          have B := hb U X c _ G h2
          refine ⟨s_or A.1 (tail_pe B.1), fun q => ?_⟩
          obtain ⟨q1, q2⟩ := ba2 (show (tb a && tb b) = true from q)
          have R := s_tor (A.2 q1).1 (tail_pw (B.2 q2).1 (B.2 q2).2)
          exact ⟨R.pt, fun _ => R⟩
  | _ => cases h
theorem e_not {a : E} (ha : OkE M cf k a) : OkE M cf k (.not_ a) := fun U X c x G h => by
  cases x with
  | UnaryOp op x ps =>
    cases op with
    | Not =>
      have A := ha U X c x G (show chkE M a c x = true from h)
      exact ⟨s_not A.1, fun q => ⟨s_tnot (A.2 q).1, fun q => by cases q⟩⟩
    | _ => cases h
  | _ => cases h
theorem e_ife {d a b : E} (hd : OkE M cf k d) (ha : OkE M cf k a) (hb : OkE M cf k b) : OkE M cf k (.ife d a b) := fun U X c x G h => by
  refine ⟨?_, fun q => by cases q⟩
  cases x with
  | IfExp z x y ps =>
    obtain ⟨h1, h2⟩ := ba2 (show (tb d && (chkE M d c z && (chkE M a c x && chkE M b c y))) = true from h)
    obtain ⟨h2, h3⟩ := ba2 h2
    obtain ⟨h3, h4⟩ := ba2 h3
    exact s_ife ((hd U X c z G h2).2 h1).1 (ha U X c x G h3).1 (hb U X c y G h4).1
  | _ => cases h
theorem e_tup {es : EL} (hs : OkEL M cf k es) : OkE M cf k (.tup es) := fun U X c x G h => by
  cases x with
  | Tuple xs j ps =>
    obtain ⟨h1, h2⟩ := ba2 (show (decide (elLen es ≤ maxLen) && chkEL M es c xs) = true from h)
    exact plain (fun _ => rfl) rfl rfl (s_tup (fun l S xs S' e => by rw [evs_len cf es l S xs S' e]; exact of_decide_eq_true h1) (hs U X c xs G h2).1)
  | _ => cases h
theorem e_lstv {es : EL} (hs : OkEL M cf k es) : OkE M cf k (.lstv es) := fun U X c x G h => by
  cases x with
  | List xs ps =>
    obtain ⟨h1, h2⟩ := ba2 (show (decide (elLen es ≤ maxLen) && chkEL M es c xs) = true from h)
    exact plain (fun _ => rfl) rfl rfl (s_lstv (fun l S xs S' e => by rw [evs_len cf es l S xs S' e]; exact of_decide_eq_true h1) (hs U X c xs G h2).1)
  | _ => cases h
theorem e_lstm {es : EL} (hs : OkEL M cf k es) : OkE M cf k (.lstm es) := fun U X c x G h => by
  cases x with
  | List xs ps =>
    obtain ⟨h1, h2⟩ := ba2 (show (decide (elLen es ≤ maxLen) && chkEL M es c xs) = true from h)
    exact plain (fun _ => rfl) rfl rfl (s_lstm (fun l S xs S' e => by rw [evs_len cf es l S xs S' e]; exact of_decide_eq_true h1) (hs U X c xs G h2).1)
  | _ => cases h
theorem e_idx {a b : E} (ha : OkE M cf k a) (hb : OkE M cf k b) : OkE M cf k (.idx a b) := fun U X c x G h => by
  cases x with
  | Subscript x y ps =>
    obtain ⟨h1, h2⟩ := ba2 (show (!isSlice y && (chkE M a c x && chkE M b c y)) = true from h)
    obtain ⟨h2, h3⟩ := ba2 h2
    exact plain (fun _ => rfl) rfl rfl (s_idx G.hu (ha U X c x G h2).1 (hb U X c y G h3).1 (plainIx (nt h1)))
  | _ => cases h
theorem e_slc {a : E} {lo hi : OE} (ha : OkE M cf k a) (hl : OkO M cf k lo) (hh : OkO M cf k hi) : OkE M cf k (.slc a lo hi) := fun U X c x G h => by
  cases x with
  | Subscript x y ps =>
    cases y with
    | Slice y z st p2 =>
      cases st with
      | some _ => cases h
      | none =>
        obtain ⟨h1, h2⟩ := ba2 (show (chkE M a c x && (chkO M lo c y && chkO M hi c z)) = true from h)
        obtain ⟨h2, h3⟩ := ba2 h2
        exact plain (fun _ => rfl) rfl rfl (s_slc (ha U X c x G h1).1 (hl U X c y G h2) (hh U X c z G h3))
    | _ => cases h
  | _ => cases h

/-! calls -/
theorem call_case {f : Nat} {es : EL} {x : Expr} {P' : Str → Expr → List Expr → Pos → Pos → Prop} (h : (match x with
    | .Call (.Name x _) (y :: ys) [] _ => !decide (c.md = .hot) && (glB c x && (okn x && (chkEL M es c (y :: ys) && (match M.fns[f]? with
      | some fn => decide (fn.name = x) && decide (elLen es = fn.params.length)
      | none => false))))
    | _ => false) = true) :
    ∃ (n : Str) (p ps : Pos) (y : Expr) (ys : List Expr) (fn : Fn), x = .Call (.Name n p) (y :: ys) [] ps ∧ c.md ≠ .hot ∧ glB c n = true ∧ okn n = true ∧ chkEL M es c (y :: ys) = true ∧ M.fns[f]? = some fn ∧ fn.name = n ∧ elLen es = fn.params.length := by
  split at h
  · rename_i n p y ys ps
    obtain ⟨h1, g2⟩ := ba2 h
    obtain ⟨h2, g3⟩ := ba2 g2
    obtain ⟨h3, g4⟩ := ba2 g3
    obtain ⟨h4, h5⟩ := ba2 g4
    cases q : M.fns[f]? with
    | none => rw [q] at h5; cases h5
    | some fn =>
      rw [q] at h5
      obtain ⟨h6, h7⟩ := ba2 h5
      exact ⟨n, p, ps, y, ys, fn, rfl, noh h1, h2, h3, h4, rfl, of_decide_eq_true h6, of_decide_eq_true h7⟩
  · cases h
theorem allstar {y : Expr} {ys : List Expr} (h : (y :: ys).all (fun x => !isStar x) = true) : isStar y = false ∧ ys.all (fun x => !isStar x) = true := by
  rw [List.all_cons] at h
  obtain ⟨h1, h2⟩ := ba2 h
  exact ⟨nt h1, h2⟩
theorem e_pcall {f : Nat} {es : EL} (hs : OkEL M cf k es) : OkE M cf k (.pcall f es) := fun U X c x G h => by
  obtain ⟨n, p, ps, y, ys, fn, rfl, hm, h1, h2, h3, h4, h5, h6⟩ := call_case (P' := fun _ _ _ _ _ => True) h
  obtain ⟨fd, F, hb, hg, hk⟩ := G.fns f fn h4
  obtain ⟨ha, hst⟩ := hs U X c _ G h3
  obtain ⟨s1, s2⟩ := allstar hst
  rw [h5] at hg
  refine plain (fun _ => rfl) rfl rfl ?_
  exact s_pcall F (G.room hm) (G.gl h1) (by rw [h5]; exact hg) hk hb (G.tk hm) (fun l S xs S' e => by rw [evs_len cf es l S xs S' e]; exact h6) ha (okn_ok h2).1 (star_cons s1) (star_all s2)
theorem e_hcall {f : Nat} {es : EL} (hs : OkEL M cf k es) : OkE M cf k (.hcall f es) := fun U X c x G h => by
  obtain ⟨n, p, ps, y, ys, fn, rfl, hm, h1, h2, h3, h4, h5, h6⟩ := call_case (P' := fun _ _ _ _ _ => True) h
  obtain ⟨fd, F, hb, hg, hk⟩ := G.fns f fn h4
  obtain ⟨ha, hst⟩ := hs U X c _ G h3
  obtain ⟨s1, s2⟩ := allstar hst
  rw [h5] at hg
  refine plain (fun _ => rfl) rfl rfl ?_
  exact s_hcall F (G.room hm) (G.gl h1) (by rw [h5]; exact hg) hk hb (G.tk hm) (fun l S xs S' e => by rw [evs_len cf es l S xs S' e]; exact h6) ha (okn_ok h2).1 (star_cons s1) (star_all s2)
theorem e_gcall {f : Nat} {es : EL} (hs : OkEL M cf k es) : OkE M cf k (.gcall f es) := fun U X c x G h => by
  obtain ⟨n, p, ps, y, ys, fn, rfl, hm, h1, h2, h3, h4, h5, h6⟩ := call_case (P' := fun _ _ _ _ _ => True) h
  obtain ⟨fd, F, hb, hg, hk⟩ := G.fns f fn h4
  obtain ⟨ha, hst⟩ := hs U X c _ G h3
  obtain ⟨s1, s2⟩ := allstar hst
  rw [h5] at hg
  refine plain (fun _ => rfl) rfl rfl ?_
  exact s_gcall F (G.room hm) (G.gl h1) (by rw [h5]; exact hg) hk hb (G.tk hm) (fun l S xs S' e => by rw [evs_len cf es l S xs S' e]; exact h6) ha (okn_ok h2).1 (star_cons s1) (star_all s2)
theorem b_len : bootBuiltins ("len" : Str) = some (.builtin "len") := by decide +kernel
theorem b_int : bootBuiltins ("int" : Str) = some (.type "int") := by decide +kernel
theorem b_abs : bootBuiltins ("abs" : Str) = some (.builtin "abs") := by decide +kernel
theorem b_min : bootBuiltins ("min" : Str) = some (.builtin "min") := by decide +kernel
theorem b_max : bootBuiltins ("max" : Str) = some (.builtin "max") := by decide +kernel
theorem b_sum : bootBuiltins ("sum" : Str) = some (.builtin "sum") := by decide +kernel
theorem b_all : bootBuiltins ("all" : Str) = some (.builtin "all") := by decide +kernel
theorem b_any : bootBuiltins ("any" : Str) = some (.builtin "any") := by decide +kernel
theorem b_sorted : bootBuiltins ("sorted" : Str) = some (.builtin "sorted") := by decide +kernel
theorem b_tuple : bootBuiltins ("tuple" : Str) = some (.type "tuple") := by decide +kernel
theorem b_list : bootBuiltins ("list" : Str) = some (.type "list") := by decide +kernel
theorem b_bool : bootBuiltins ("bool" : Str) = some (.type "bool") := by decide +kernel
theorem b_str : bootBuiltins ("str" : Str) = some (.type "str") := by decide +kernel
theorem e_bi {b : B} {es : EL} (hs : OkEL M cf k es) : OkE M cf k (.bi b es) := fun U X c x G h => by
  have h' : ∀ x, chkE M (.bi b es) c x = (match x with
    | .Call (.Name x _) (y :: ys) [] _ => biOk c b && (decide (x = bname b) && (glB c x && (decide (x ∈ M.free) && chkEL M es c (y :: ys))))
    | .Call (.Name x _) [y] [⟨some z, .Constant .none _ _, _⟩] _ => decide (b = .minD) && (!decide (c.md = .hot) && (decide (x = ("min" : Str)) && (decide (z = ("default" : Str)) && (glB c x && (decide (x ∈ M.free) && chkEL M es c [y])))))
    | _ => false) := fun _ => rfl
  rw [h'] at h
  clear h'
  split at h
  · rename_i n p y ys ps
    obtain ⟨h1, g2⟩ := ba2 h
    obtain ⟨h2, g3⟩ := ba2 g2
    obtain ⟨h3, g4⟩ := ba2 g3
    obtain ⟨h4, h5⟩ := ba2 g4
    have h2 := of_decide_eq_true h2
    have h4 := G.free _ (of_decide_eq_true h4)
    obtain ⟨ha, hst⟩ := hs U X c _ G h5
    obtain ⟨s1, s2⟩ := allstar hst
    clear h g2 g3 g4 h5
    refine plain (fun _ => rfl) rfl rfl ?_
    subst h2
    have G1 := G.gl h3
    cases b with
    | len => exact s_callB (k := biW .len) c_len (fun _ _ => noerr_bi _ _ _) G1 h4 b_len ha (by decide) (by decide) (star_cons s1) (star_all s2)
    | int => exact s_callTy (k := biW .int) c_int (fun _ _ => noerr_bi _ _ _) G1 h4 b_int ha (by decide) (by decide) (star_cons s1) (star_all s2)
    | abs => exact s_callB (k := biW .abs) c_abs (fun _ _ => noerr_bi _ _ _) G1 h4 b_abs ha (by decide) (by decide) (star_cons s1) (star_all s2)
    | min => exact s_callB (k := biW .min) (c_min (G.calm (noh h1)) G.hu) (fun _ _ => noerr_bi _ _ _) G1 h4 b_min ha (by decide) (by decide) (star_cons s1) (star_all s2)
    | max => exact s_callB (k := biW .max) (c_max (G.calm (noh h1)) G.hu) (fun _ _ => noerr_bi _ _ _) G1 h4 b_max ha (by decide) (by decide) (star_cons s1) (star_all s2)
    | sum => exact s_callB (k := biW .sum) (c_sum (G.calm (noh h1))) (fun _ _ => noerr_bi _ _ _) G1 h4 b_sum ha (by decide) (by decide) (star_cons s1) (star_all s2)
    | all => exact s_callB (k := biW .all) (c_all (G.calm (noh h1))) (fun _ _ => noerr_bi _ _ _) G1 h4 b_all ha (by decide) (by decide) (star_cons s1) (star_all s2)
    | any => exact s_callB (k := biW .any) (c_any (G.calm (noh h1))) (fun _ _ => noerr_bi _ _ _) G1 h4 b_any ha (by decide) (by decide) (star_cons s1) (star_all s2)
    | sorted => exact s_callB (k := biW .sorted) c_sorted (fun _ _ => noerr_bi _ _ _) G1 h4 b_sorted ha (by decide) (by decide) (star_cons s1) (star_all s2)
    | tuple => exact s_callTy (k := biW .tuple) c_tuple (fun _ _ => noerr_bi _ _ _) G1 h4 b_tuple ha (by decide) (by decide) (star_cons s1) (star_all s2)
    | list => exact s_callTy (k := biW .list) c_list (fun _ _ => noerr_bi _ _ _) G1 h4 b_list ha (by decide) (by decide) (star_cons s1) (star_all s2)
    | str => exact s_callTy (k := biW .str) c_str (fun _ _ => noerr_bi _ _ _) G1 h4 b_str ha (by decide) (by decide) (star_cons s1) (star_all s2)
    | minD => cases h1
    | range => cases h1
    | sortedset => cases h1
    | lenset => cases h1
  · rename_i n p y z kd cp kp ps
    obtain ⟨h1, g2⟩ := ba2 h
    obtain ⟨h2, g3⟩ := ba2 g2
    obtain ⟨h3, g4⟩ := ba2 g3
    obtain ⟨h4, g5⟩ := ba2 g4
    obtain ⟨h5, g6⟩ := ba2 g5
    obtain ⟨h6, h7⟩ := ba2 g6
    have h1 := of_decide_eq_true h1
    have h3 := of_decide_eq_true h3
    have h4 := of_decide_eq_true h4
    have h6 := G.free _ (of_decide_eq_true h6)
    obtain ⟨ha, hst⟩ := hs U X c _ G h7
    obtain ⟨s1, s2⟩ := allstar hst
    clear h g2 g3 g4 g5 g6 h7
    refine plain (fun _ => rfl) rfl rfl ?_
    subst h1; subst h3; subst h4
    exact s_minD (G.calm (noh h2)) G.hu (G.gl h5) h6 b_min ha (by decide) (by decide) (star_cons s1)
  · cases h
theorem e_isi {a : E} {t : Ty} (ha : OkE M cf k a) : OkE M cf k (.isi a t) := fun U X c x G h => by
  have h' : ∀ x, chkE M (.isi a t) c x = (match x with
    | .Call (.Name f _) [x, .Name y _] [] _ => tyOk t && (decide (f = ("isinstance" : Str)) && (decide (y = tyStr t) && (glB c f && (glB c y && (decide (f ∈ M.free) && (decide (y ∈ M.free) && (!isStar x && chkE M a c x)))))))
    | _ => false) := fun _ => rfl
  rw [h'] at h
  clear h'
  split at h
  · rename_i f p x y p2 ps
    obtain ⟨h1, g2⟩ := ba2 h
    obtain ⟨h2, g3⟩ := ba2 g2
    obtain ⟨h3, g4⟩ := ba2 g3
    obtain ⟨h4, g5⟩ := ba2 g4
    obtain ⟨h5, g6⟩ := ba2 g5
    obtain ⟨h6, g7⟩ := ba2 g6
    obtain ⟨h7, g8⟩ := ba2 g7
    obtain ⟨h8, h9⟩ := ba2 g8
    have h2 := of_decide_eq_true h2
    have h3 := of_decide_eq_true h3
    have h6 := G.free _ (of_decide_eq_true h6)
    have h7 := G.free _ (of_decide_eq_true h7)
    have A := (ha U X c x G h9).1
    clear h g2 g3 g4 g5 g6 g7 g8 h9
    subst h2; subst h3
    refine plain (fun _ => rfl) rfl rfl ?_
    cases t with
    | tint => exact s_isi (t := .tint) A (G.gl h4) h6 (G.gl h5) h7 b_int (by decide) (by decide) (star_cons (nt h8))
    | tbool => exact s_isi (t := .tbool) A (G.gl h4) h6 (G.gl h5) h7 b_bool (by decide) (by decide) (star_cons (nt h8))
    | tstr => exact s_isi (t := .tstr) A (G.gl h4) h6 (G.gl h5) h7 b_str (by decide) (by decide) (star_cons (nt h8))
    | ttuple => exact s_isi (t := .ttuple) A (G.gl h4) h6 (G.gl h5) h7 b_tuple (by decide) (by decide) (star_cons (nt h8))
    | tlist => exact s_isi (t := .tlist) A (G.gl h4) h6 (G.gl h5) h7 b_list (by decide) (by decide) (star_cons (nt h8))
    | tdict => cases h1
  · cases h
theorem e_frz {a : E} (ha : OkE M cf k a) : OkE M cf k (.frz a) := fun U X c x G h => ⟨s_frz (ha U X c x G h).1, fun q => by cases q⟩
theorem e_app {o e : E} (ho : OkE M cf k o) (he : OkE M cf k e) : OkE M cf k (.app o e) := fun U X c x G h => by
  have h' : ∀ x, chkE M (.app o e) c x = (match x with
    | .Call (.Attribute x m ap) [y] [] cp => decide (m = ("append" : Str)) && ((ap.endLine == cp.line) && (noBase x && (!isStar y && (chkE M o c x && chkE M e c y))))
    | _ => false) := fun _ => rfl
  rw [h'] at h
  clear h'
  split at h
  · rename_i x m ap y cp
    obtain ⟨h1, g2⟩ := ba2 h
    obtain ⟨h2, g3⟩ := ba2 g2
    obtain ⟨h3, g4⟩ := ba2 g3
    obtain ⟨h4, g5⟩ := ba2 g4
    obtain ⟨h5, h6⟩ := ba2 g5
    have h1 := of_decide_eq_true h1
    have A := (ho U X c x G h5).1
    have B := (he U X c y G h6).1
    clear h g2 g3 g4 g5 h5 h6
    subst h1
    exact plain (fun _ => rfl) rfl rfl (s_meth1 PySem.F.slot_list_append PySem.F.type_list_append m_app (fun _ _ _ => noerr_app _ _ _) A B (nobase h3) (star_cons (nt h4)) h2)
  · cases h
theorem e_ext {o e : E} (ho : OkE M cf k o) (he : OkE M cf k e) : OkE M cf k (.ext o e) := fun U X c x G h => by
  have h' : ∀ x, chkE M (.ext o e) c x = (match x with
    | .Call (.Attribute x m ap) [y] [] cp => decide (m = ("extend" : Str)) && ((ap.endLine == cp.line) && (noBase x && (!isStar y && (chkE M o c x && chkE M e c y))))
    | _ => false) := fun _ => rfl
  rw [h'] at h
  clear h'
  split at h
  · rename_i x m ap y cp
    obtain ⟨h1, g2⟩ := ba2 h
    obtain ⟨h2, g3⟩ := ba2 g2
    obtain ⟨h3, g4⟩ := ba2 g3
    obtain ⟨h4, g5⟩ := ba2 g4
    obtain ⟨h5, h6⟩ := ba2 g5
    have h1 := of_decide_eq_true h1
    have A := (ho U X c x G h5).1
    have B := (he U X c y G h6).1
    clear h g2 g3 g4 g5 h5 h6
    subst h1
    exact plain (fun _ => rfl) rfl rfl (s_meth1 PySem.F.slot_list_extend PySem.F.type_list_extend m_ext (fun _ _ _ => noerr_ext _ _ _) A B (nobase h3) (star_cons (nt h4)) h2)
  · cases h
theorem e_popi {o e : E} (ho : OkE M cf k o) (he : OkE M cf k e) : OkE M cf k (.popi o e) := fun U X c x G h => by
  have h' : ∀ x, chkE M (.popi o e) c x = (match x with
    | .Call (.Attribute x m ap) [y] [] cp => decide (m = ("pop" : Str)) && ((ap.endLine == cp.line) && (noBase x && (!isStar y && (chkE M o c x && chkE M e c y))))
    | _ => false) := fun _ => rfl
  rw [h'] at h
  clear h'
  split at h
  · rename_i x m ap y cp
    obtain ⟨h1, g2⟩ := ba2 h
    obtain ⟨h2, g3⟩ := ba2 g2
    obtain ⟨h3, g4⟩ := ba2 g3
    obtain ⟨h4, g5⟩ := ba2 g4
    obtain ⟨h5, h6⟩ := ba2 g5
    have h1 := of_decide_eq_true h1
    have A := (ho U X c x G h5).1
    have B := (he U X c y G h6).1
    clear h g2 g3 g4 g5 h5 h6
    subst h1
    exact plain (fun _ => rfl) rfl rfl (s_meth1 PySem.F.slot_list_pop PySem.F.type_list_pop m_popi (fun _ _ _ => noerr_popi _ _ _) A B (nobase h3) (star_cons (nt h4)) h2)
  · cases h
theorem e_pop {o : E} (ho : OkE M cf k o) : OkE M cf k (.pop o) := fun U X c x G h => by
  have h' : ∀ x, chkE M (.pop o) c x = (match x with
    | .Call (.Attribute x m ap) [] [] cp => decide (m = ("pop" : Str)) && ((ap.endLine == cp.line) && (noBase x && chkE M o c x))
    | _ => false) := fun _ => rfl
  rw [h'] at h
  clear h'
  split at h
  · rename_i x m ap cp
    obtain ⟨h1, g2⟩ := ba2 h
    obtain ⟨h2, g3⟩ := ba2 g2
    obtain ⟨h3, h4⟩ := ba2 g3
    have h1 := of_decide_eq_true h1
    have A := (ho U X c x G h4).1
    clear h g2 g3 h4
    subst h1
    exact plain (fun _ => rfl) rfl rfl (s_meth0 PySem.F.slot_list_pop PySem.F.type_list_pop m_pop (fun _ _ => noerr_pop _ _ _) (fun _ _ => pop_lst _ _ _) A (nobase h3) h2)
  · cases h
theorem one_lmk {e : E} {l : L} {S : Sto} : ((evs cf (.cons e .nil) l S).bind fun ws S => match ws with
    | [x] => lmkW x S
    | _ => .stuck) = ((evT cf e).1 l S).bind fun x S => lmkW x S := by
  show ((((evT cf e).1 l S).bind fun x S => (R.ok ([] : List W) S).bind fun xs S => R.ok (x :: xs) S)).bind _ = _
  cases (evT cf e).1 l S <;> rfl
theorem e_lmk {e : E} (he : OkE M cf k e) : OkE M cf k (.lmk e) := fun U X c x G h => by
  have h' : ∀ x, chkE M (.lmk e) c x = (match x with
    | .Call (.Name f _) [y] [] _ => decide (f = ("list" : Str)) && (glB c f && (decide (f ∈ M.free) && (!isStar y && chkE M e c y)))
    | _ => false) := fun _ => rfl
  rw [h'] at h
  clear h'
  split at h
  · rename_i f p y ps
    obtain ⟨h1, g2⟩ := ba2 h
    obtain ⟨h2, g3⟩ := ba2 g2
    obtain ⟨h3, g4⟩ := ba2 g3
    obtain ⟨h4, h5⟩ := ba2 g4
    have h1 := of_decide_eq_true h1
    have h3 := G.free _ (of_decide_eq_true h3)
    have A := (he U X c y G h5).1
    clear h g2 g3 g4 h5
    subst h1
    have st : starEach [y] X.env = (false, eval y X.env) :: starEach [] X.env := star_cons (nt h4)
    have R := s_callTy (pos := ps) (p := p) (k := fun ws S => match ws with
      | [x] => lmkW x S
      | _ => .stuck) c_lmk (fun x S => by
        split
        · exact noerr_lmk _ _
        · intro _ _ z; cases z) (G.gl h2) h3 b_list (s_cons A s_nil st) (by decide) (by decide) st rfl
    refine plain (fun _ => rfl) rfl rfl ?_
    have e1 : ev cf (.lmk e) = fun l S => (evs cf (.cons e .nil) l S).bind fun ws S => match ws with
      | [x] => lmkW x S
      | _ => .stuck := by
      funext l S
      exact one_lmk.symm
    rw [e1]
    exact R
  · cases h
theorem one_rng {k : Bool} {a : E} {l : L} {S : Sto} : ((evs cf (.cons a .nil) l S).bind fun ws S => rngW k ws S) = ((evT cf a).1 l S).bind fun x S => rngW k [x] S := by
  show ((((evT cf a).1 l S).bind fun x S => (R.ok ([] : List W) S).bind fun xs S => R.ok (x :: xs) S)).bind _ = _
  cases (evT cf a).1 l S <;> rfl
theorem e_lrng1 {k' : Bool} {a : E} (ha : OkE M cf k a) : OkE M cf k (.lrng k' (.cons a .nil)) := fun U X c x G h => by
  have h' : ∀ x, chkE M (.lrng k' (.cons a .nil)) c x = (match x with
    | .Call (.Name f _) [.Call (.Name g _) [y] [] _] [] _ => !decide (c.md = .hot) && (decide (f = (if k' then ("tuple" : Str) else ("list" : Str))) && (decide (g = ("range" : Str)) && (glB c f && (glB c g && (decide (f ∈ M.free) && (decide (g ∈ M.free) && (!isStar y && chkE M a c y)))))))
    | _ => false) := fun _ => rfl
  rw [h'] at h
  clear h'
  split at h
  · rename_i f p g p2 y q ps
    obtain ⟨h0, g1⟩ := ba2 h
    obtain ⟨h1, g2⟩ := ba2 g1
    obtain ⟨h2, g3⟩ := ba2 g2
    obtain ⟨h3, g4⟩ := ba2 g3
    obtain ⟨h4, g5⟩ := ba2 g4
    obtain ⟨h5, g6⟩ := ba2 g5
    obtain ⟨h6, g7⟩ := ba2 g6
    obtain ⟨h7, h8⟩ := ba2 g7
    have h1 := of_decide_eq_true h1
    have h2 := of_decide_eq_true h2
    have h5 := G.free _ (of_decide_eq_true h5)
    have h6 := G.free _ (of_decide_eq_true h6)
    have A := (ha U X c y G h8).1
    have C := G.calm (noh h0)
    have h3 := G.gl h3
    have h4 := G.gl h4
    clear h g1 g2 g3 g4 g5 g6 g7 h8
    subst h1; subst h2
    refine plain (fun _ => rfl) rfl rfl ?_
    have e1 : ev cf (.lrng k' (.cons a .nil)) = fun l S => ((evT cf a).1 l S).bind fun x S => rngW k' [x] S := by
      funext l S; exact one_rng
    rw [e1]
    exact s_lrng1 C h3 h5 h4 h6 A (star_cons (nt h7))
  · cases h
theorem e_dnew : OkE M cf k .dnew := fun U X c x G h => by
  have h' : ∀ x, chkE M .dnew c x = (match x with
    | .Dict [] [] _ => true
    | _ => false) := fun _ => rfl
  rw [h'] at h
  clear h'
  split at h
  · exact plain (fun _ => rfl) rfl rfl s_dnew
  · cases h
theorem e_dsrt {a : E} (ha : OkE M cf k a) : OkE M cf k (.dsrt a) := fun U X c x G h => by
  have h' : ∀ x, chkE M (.dsrt a) c x = (match x with
    | .Call (.Name f _) [y] [] _ => !decide (c.md = .hot) && (decide (f = ("sorted" : Str)) && (glB c f && (decide (f ∈ M.free) && (!isStar y && chkE M a c y))))
    | _ => false) := fun _ => rfl
  rw [h'] at h
  clear h'
  split at h
  · rename_i f p y ps
    obtain ⟨h0, g1⟩ := ba2 h
    obtain ⟨h1, g2⟩ := ba2 g1
    obtain ⟨h2, g3⟩ := ba2 g2
    obtain ⟨h3, g4⟩ := ba2 g3
    obtain ⟨h4, h5⟩ := ba2 g4
    have h1 := of_decide_eq_true h1
    have h3 := G.free _ (of_decide_eq_true h3)
    have A := (ha U X c y G h5).1
    have C := G.calm (noh h0)
    have h2 := G.gl h2
    clear h g1 g2 g3 g4 h5
    subst h1
    have st : starEach [y] X.env = (false, eval y X.env) :: starEach [] X.env := star_cons (nt h4)
    have RR := s_callB (pos := ps) (p := p) (k := fun ws S => match ws with
      | [x] => srtD x S
      | _ => .stuck) (c_dsrt C) (fun x S => by
        split
        · exact noerr_srt _ _
        · intro _ _ z; cases z) h2 h3 b_sorted (s_cons A s_nil st) (by decide) (by decide) st rfl
    refine plain (fun _ => rfl) rfl rfl ?_
    have e1 : ev cf (.dsrt a) = fun l S => (evs cf (.cons a .nil) l S).bind fun ws S => match ws with
      | [x] => srtD x S
      | _ => .stuck := by
      funext l S
      show ((evT cf a).1 l S).bind _ = ((((evT cf a).1 l S).bind fun x S => (R.ok ([] : List W) S).bind fun xs S => R.ok (x :: xs) S)).bind _
      cases (evT cf a).1 l S <;> rfl
    rw [e1]
    exact RR
  · cases h
theorem e_sset {a : E} (ha : OkE M cf k a) : OkE M cf k (.sset a) := fun U X c x G h => by
  have h' : ∀ x, chkE M (.sset a) c x = (match x with
    | .Call (.Name f _) [.Call (.Name g _) [y] [] _] [] _ => !decide (c.md = .hot) && (decide (f = ("sorted" : Str)) && (decide (g = ("set" : Str)) && (glB c f && (glB c g && (decide (f ∈ M.free) && (decide (g ∈ M.free) && (!isStar y && chkE M a c y)))))))
    | _ => false) := fun _ => rfl
  rw [h'] at h
  clear h'
  split at h
  · rename_i f p g p2 y q ps
    obtain ⟨h0, g1⟩ := ba2 h
    obtain ⟨h1, g2⟩ := ba2 g1
    obtain ⟨h2, g3⟩ := ba2 g2
    obtain ⟨h3, g4⟩ := ba2 g3
    obtain ⟨h4, g5⟩ := ba2 g4
    obtain ⟨h5, g6⟩ := ba2 g5
    obtain ⟨h6, g7⟩ := ba2 g6
    obtain ⟨h7, h8⟩ := ba2 g7
    have h1 := of_decide_eq_true h1
    have h2 := of_decide_eq_true h2
    have h5 := G.free _ (of_decide_eq_true h5)
    have h6 := G.free _ (of_decide_eq_true h6)
    have A := (ha U X c y G h8).1
    have C := G.calm (noh h0)
    have h3 := G.gl h3
    have h4 := G.gl h4
    clear h g1 g2 g3 g4 g5 g6 g7 h8
    subst h1; subst h2
    exact plain (fun _ => rfl) rfl rfl (s_srtset C h3 h5 h4 h6 A (star_cons (nt h7)))
  · cases h
theorem b_dict : bootBuiltins ("dict" : Str) = some (.type "dict") := by decide +kernel
theorem one_dcp {e : E} {l : L} {S : Sto} : ((evs cf (.cons e .nil) l S).bind fun ws S => match ws with
    | [x] => dcpW x S
    | _ => .stuck) = ((evT cf e).1 l S).bind fun x S => dcpW x S := by
  show ((((evT cf e).1 l S).bind fun x S => (R.ok ([] : List W) S).bind fun xs S => R.ok (x :: xs) S)).bind _ = _
  cases (evT cf e).1 l S <;> rfl
theorem e_dcp {e : E} (he : OkE M cf k e) : OkE M cf k (.dcp e) := fun U X c x G h => by
  have h' : ∀ x, chkE M (.dcp e) c x = (match x with
    | .Call (.Name f _) [y] [] _ => decide (f = ("dict" : Str)) && (glB c f && (decide (f ∈ M.free) && (!isStar y && chkE M e c y)))
    | _ => false) := fun _ => rfl
  rw [h'] at h
  clear h'
  split at h
  · rename_i f p y ps
    obtain ⟨h1, g2⟩ := ba2 h
    obtain ⟨h2, g3⟩ := ba2 g2
    obtain ⟨h3, g4⟩ := ba2 g3
    obtain ⟨h4, h5⟩ := ba2 g4
    have h1 := of_decide_eq_true h1
    have h3 := G.free _ (of_decide_eq_true h3)
    have A := (he U X c y G h5).1
    clear h g2 g3 g4 h5
    subst h1
    have st : starEach [y] X.env = (false, eval y X.env) :: starEach [] X.env := star_cons (nt h4)
    have RR := s_callTy (pos := ps) (p := p) (k := fun ws S => match ws with
      | [x] => dcpW x S
      | _ => .stuck) c_dcp (fun x S => by
        split
        · exact noerr_dcp _ _
        · intro _ _ z; cases z) (G.gl h2) h3 b_dict (s_cons A s_nil st) (by decide) (by decide) st rfl
    refine plain (fun _ => rfl) rfl rfl ?_
    have e1 : ev cf (.dcp e) = fun l S => (evs cf (.cons e .nil) l S).bind fun ws S => match ws with
      | [x] => dcpW x S
      | _ => .stuck := by
      funext l S
      exact one_dcp.symm
    rw [e1]
    exact RR
  · cases h
theorem e_dget {o e : E} (ho : OkE M cf k o) (he : OkE M cf k e) : OkE M cf k (.dget o e) := fun U X c x G h => by
  have h' : ∀ x, chkE M (.dget o e) c x = (match x with
    | .Call (.Attribute x m ap) [y, .Constant .none _ _] [] cp => decide (m = ("get" : Str)) && ((ap.endLine == cp.line) && (noBase x && (!isStar y && (chkE M o c x && chkE M e c y))))
    | _ => false) := fun _ => rfl
  rw [h'] at h
  clear h'
  split at h
  · rename_i x m ap y kd kp cp
    obtain ⟨h1, g2⟩ := ba2 h
    obtain ⟨h2, g3⟩ := ba2 g2
    obtain ⟨h3, g4⟩ := ba2 g3
    obtain ⟨h4, g5⟩ := ba2 g4
    obtain ⟨h5, h6⟩ := ba2 g5
    have h1 := of_decide_eq_true h1
    have A := (ho U X c x G h5).1
    have B := (he U X c y G h6).1
    clear h g2 g3 g4 g5 h5 h6
    subst h1
    exact plain (fun _ => rfl) rfl rfl (s_dget G.hu A B (nobase h3) (star_cons (nt h4)) h2)
  · cases h
theorem e_lidx {o e : E} (ho : OkE M cf k o) (he : OkE M cf k e) : OkE M cf k (.lidx o e) := fun U X c x G h => by
  have h' : ∀ x, chkE M (.lidx o e) c x = (match x with
    | .Call (.Attribute x m ap) [y] [] cp => decide (m = ("index" : Str)) && ((ap.endLine == cp.line) && (noBase x && (!isStar y && (chkE M o c x && chkE M e c y))))
    | _ => false) := fun _ => rfl
  rw [h'] at h
  clear h'
  split at h
  · rename_i x m ap y cp
    obtain ⟨h1, g2⟩ := ba2 h
    obtain ⟨h2, g3⟩ := ba2 g2
    obtain ⟨h3, g4⟩ := ba2 g3
    obtain ⟨h4, g5⟩ := ba2 g4
    obtain ⟨h5, h6⟩ := ba2 g5
    have h1 := of_decide_eq_true h1
    have A := (ho U X c x G h5).1
    have B := (he U X c y G h6).1
    clear h g2 g3 g4 g5 h5 h6
    subst h1
    exact plain (fun _ => rfl) rfl rfl (s_lidx G.hu A B (nobase h3) (star_cons (nt h4)) h2)
  · cases h
theorem e_dsetd {o e : E} (ho : OkE M cf k o) (he : OkE M cf k e) : OkE M cf k (.dsetd o e) := fun U X c x G h => by
  have h' : ∀ x, chkE M (.dsetd o e) c x = (match x with
    | .Call (.Attribute x m ap) [y, .List [] _] [] cp => decide (m = ("setdefault" : Str)) && ((ap.endLine == cp.line) && (noBase x && (!isStar y && (chkE M o c x && chkE M e c y))))
    | _ => false) := fun _ => rfl
  rw [h'] at h
  clear h'
  split at h
  · rename_i x m ap y kp cp
    obtain ⟨h1, g2⟩ := ba2 h
    obtain ⟨h2, g3⟩ := ba2 g2
    obtain ⟨h3, g4⟩ := ba2 g3
    obtain ⟨h4, g5⟩ := ba2 g4
    obtain ⟨h5, h6⟩ := ba2 g5
    have h1 := of_decide_eq_true h1
    have A := (ho U X c x G h5).1
    have B := (he U X c y G h6).1
    clear h g2 g3 g4 g5 h5 h6
    subst h1
    exact plain (fun _ => rfl) rfl rfl (s_dsetd A B (nobase h3) (star_cons (nt h4)) h2)
  · cases h
end
end Mi
set_option Elab.async false
set_option linter.all false
set_option maxRecDepth 100000
set_option autoImplicit false
/-! Mi: what is checked runs as its meaning says: comprehensions, the whole of expressions. -/
namespace Mi
open PySem PySem.Spec L2
section
variable {M : Tab} {cf : Cf} {k : Nat} {U : WX} {X : Cx} {c : Sc}
theorem el_nil : OkEL M cf k .nil := fun U X c xs G h => by
  cases xs with
  | nil => exact ⟨s_nil, rfl⟩
  | cons _ _ => cases h
theorem el_cons {e : E} {r : EL} (he : OkE M cf k e) (hr : OkEL M cf k r) : OkEL M cf k (.cons e r) := fun U X c xs G h => by
  cases xs with
  | nil => cases h
  | cons x xs =>
    obtain ⟨h1, h2⟩ := ba2 (show (!isStar x && (chkE M e c x && chkEL M r c xs)) = true from h)
    obtain ⟨h2, h3⟩ := ba2 h2
    obtain ⟨a1, a2⟩ := hr U X c xs G h3
    exact ⟨s_cons (he U X c x G h2).1 a1 (star_cons (nt h1)), by rw [List.all_cons, a2, h1]; rfl⟩
theorem if_nil : OkIf M cf k .nil := fun U X c xs G h => by
  cases xs with
  | nil => exact t_ifs0
  | cons _ _ => cases h
theorem if_cons {e : E} {r : EL} (he : OkE M cf k e) : OkIf M cf k (.cons e r) := fun U X c xs G h => by
  cases r with
  | cons _ _ => cases h
  | nil =>
    cases xs with
    | nil => cases h
    | cons x xs =>
      cases xs with
      | cons _ _ => cases h
      | nil =>
        obtain ⟨h1, h2⟩ := ba2 (show (tb e && chkE M e c x) = true from h)
        exact t_ifs1 ((he U X c x G h2).2 h1).1
theorem o_no : OkO M cf k .no := fun U X c x G h => by
  cases x with
  | none => exact s_ono
  | some _ => cases h
theorem o_some {e : E} (he : OkE M cf k e) : OkO M cf k (.some e) := fun U X c x G h => by
  cases x with
  | none => cases h
  | some y => exact s_osome (he U X c y G h).1
theorem PI.congr {tg x : Expr} {f g : L → Sto → R (List P)} (e : ∀ l S, g l S = f l S) (h : PI X tg x (tI X.K U f)) : PI X tg x (tI X.K U g) := by
  have : g = f := by funext l S; exact e l S
  rw [this]; exact h
theorem one_seq {kk : IK} {e : E} {l : L} {S : Sto} : ((evs cf (.cons e .nil) l S).bind fun ws S => itR kk ws S) = (ev cf e l S).bind fun w S => itR kk [w] S := by
  show ((((evT cf e).1 l S).bind fun x S => (R.ok ([] : List W) S).bind fun xs S => R.ok (x :: xs) S)).bind _ = _
  show _ = ((evT cf e).1 l S).bind _
  cases (evT cf e).1 l S <;> rfl
theorem i_one {a : E} (ha : OkE M cf k a) : OkI M cf k (.cons a .nil) := fun U X c kk tg x G h => by
  cases kk with
  | seq =>
    have A := (ha U X c x G h).1
    exact PI.congr (fun l S => one_seq) (i_seq A)
  | rng1 =>
    have h' : ∀ x, chkI M .rng1 (.cons a .nil) c tg x = (match x with
      | .Call (.Name f _) [y] [] _ => decide (f = ("range" : Str)) && (glB c f && (decide (f ∈ M.free) && (!isStar y && chkE M a c y)))
      | _ => false) := fun _ => rfl
    rw [h'] at h
    clear h'
    split at h
    · rename_i f p y ps
      obtain ⟨h1, g2⟩ := ba2 h
      obtain ⟨h2, g3⟩ := ba2 g2
      obtain ⟨h3, g4⟩ := ba2 g3
      obtain ⟨h4, h5⟩ := ba2 g4
      have h1 := of_decide_eq_true h1
      have h3 := G.free _ (of_decide_eq_true h3)
      have A := (ha U X c y G h5).1
      clear h g2 g3 g4 h5
      subst h1
      exact i_rng1 (G.gl h2) h3 (s_cons A s_nil (star_cons (nt h4))) (star_cons (nt h4))
    · cases h
  | enum =>
    have h' : ∀ x, chkI M .enum (.cons a .nil) c tg x = (isTupT tg && (match x with
      | .Call (.Name f _) [y] [] _ => decide (f = ("enumerate" : Str)) && (glB c f && (decide (f ∈ M.free) && (!isStar y && chkE M a c y)))
      | _ => false)) := fun _ => rfl
    rw [h'] at h
    clear h'
    obtain ⟨ht, h⟩ := ba2 h
    split at h
    · rename_i f p y ps _
      obtain ⟨h1, g2⟩ := ba2 h
      obtain ⟨h2, g3⟩ := ba2 g2
      obtain ⟨h3, g4⟩ := ba2 g3
      obtain ⟨h4, h5⟩ := ba2 g4
      have h1 := of_decide_eq_true h1
      have h3 := G.free _ (of_decide_eq_true h3)
      have A := (ha U X c y G h5).1
      clear h g2 g3 g4 h5
      subst h1
      cases tg with
      | Tuple xs j pt => exact i_enum (G.gl h2) h3 (s_cons A s_nil (star_cons (nt h4))) (star_cons (nt h4))
      | _ => cases ht
    · cases h
  | rng2 => cases x <;> cases h
  | rng3 => cases x <;> cases h
  | zip => cases x <;> cases h
theorem i_two {a b : E} (ha : OkE M cf k a) (hb : OkE M cf k b) : OkI M cf k (.cons a (.cons b .nil)) := fun U X c kk tg x G h => by
  cases kk with
  | rng2 =>
    have h' : ∀ x, chkI M .rng2 (.cons a (.cons b .nil)) c tg x = (match x with
      | .Call (.Name f _) [y, z] [] _ => decide (f = ("range" : Str)) && (glB c f && (decide (f ∈ M.free) && (!isStar y && (!isStar z && (chkE M a c y && chkE M b c z)))))
      | _ => false) := fun _ => rfl
    rw [h'] at h
    clear h'
    split at h
    · rename_i f p y z ps
      obtain ⟨h1, g2⟩ := ba2 h
      obtain ⟨h2, g3⟩ := ba2 g2
      obtain ⟨h3, g4⟩ := ba2 g3
      obtain ⟨h4, g5⟩ := ba2 g4
      obtain ⟨h5, g6⟩ := ba2 g5
      obtain ⟨h6, h7⟩ := ba2 g6
      have h1 := of_decide_eq_true h1
      have h3 := G.free _ (of_decide_eq_true h3)
      have A := (ha U X c y G h6).1
      have B := (hb U X c z G h7).1
      clear h g2 g3 g4 g5 g6 h6 h7
      subst h1
      have sz : starEach [z] X.env = (false, eval z X.env) :: starEach [] X.env := star_cons (nt h5)
      have sy : starEach [y, z] X.env = (false, eval y X.env) :: starEach [z] X.env := star_cons (nt h4)
      exact i_rng2 (G.gl h2) h3 (s_cons A (s_cons B s_nil sz) sy) (by rw [sy, sz]; rfl) (by rw [sz]; rfl)
    · cases h
  | zip =>
    have h' : ∀ x, chkI M .zip (.cons a (.cons b .nil)) c tg x = (isTupT tg && (match x with
      | .Call (.Name f _) [y, z] [] _ => decide (f = ("zip" : Str)) && (glB c f && (decide (f ∈ M.free) && (!isStar y && (!isStar z && (chkE M a c y && chkE M b c z)))))
      | _ => false)) := fun _ => rfl
    rw [h'] at h
    clear h'
    obtain ⟨ht, h⟩ := ba2 h
    split at h
    · rename_i f p y z ps _
      obtain ⟨h1, g2⟩ := ba2 h
      obtain ⟨h2, g3⟩ := ba2 g2
      obtain ⟨h3, g4⟩ := ba2 g3
      obtain ⟨h4, g5⟩ := ba2 g4
      obtain ⟨h5, g6⟩ := ba2 g5
      obtain ⟨h6, h7⟩ := ba2 g6
      have h1 := of_decide_eq_true h1
      have h3 := G.free _ (of_decide_eq_true h3)
      have A := (ha U X c y G h6).1
      have B := (hb U X c z G h7).1
      clear h g2 g3 g4 g5 g6 h6 h7
      subst h1
      have sz : starEach [z] X.env = (false, eval z X.env) :: starEach [] X.env := star_cons (nt h5)
      have sy : starEach [y, z] X.env = (false, eval y X.env) :: starEach [z] X.env := star_cons (nt h4)
      cases tg with
      | Tuple xs j pt => exact i_zip (G.gl h2) h3 (s_cons A (s_cons B s_nil sz) sy) sy (by rw [sz]; rfl)
      | _ => cases ht
    · cases h
  | seq => cases x <;> cases h
  | rng1 => cases x <;> cases h
  | rng3 => cases x <;> cases h
  | enum => cases x <;> cases h
theorem i_three {a b d : E} (ha : OkE M cf k a) (hb : OkE M cf k b) (hd : OkE M cf k d) : OkI M cf k (.cons a (.cons b (.cons d .nil))) := fun U X c kk tg x G h => by
  cases kk with
  | rng3 =>
    have h' : ∀ x, chkI M .rng3 (.cons a (.cons b (.cons d .nil))) c tg x = (match x with
      | .Call (.Name f _) [y, z, u] [] _ => decide (f = ("range" : Str)) && (glB c f && (decide (f ∈ M.free) && (!isStar y && (!isStar z && (!isStar u && (chkE M a c y && (chkE M b c z && chkE M d c u)))))))
      | _ => false) := fun _ => rfl
    rw [h'] at h
    clear h'
    split at h
    · rename_i f p y z u ps
      obtain ⟨h1, g2⟩ := ba2 h
      obtain ⟨h2, g3⟩ := ba2 g2
      obtain ⟨h3, g4⟩ := ba2 g3
      obtain ⟨h4, g5⟩ := ba2 g4
      obtain ⟨h5, g6⟩ := ba2 g5
      obtain ⟨h6, g7⟩ := ba2 g6
      obtain ⟨h7, g8⟩ := ba2 g7
      obtain ⟨h8, h9⟩ := ba2 g8
      have h1 := of_decide_eq_true h1
      have h3 := G.free _ (of_decide_eq_true h3)
      have A := (ha U X c y G h7).1
      have B := (hb U X c z G h8).1
      have D := (hd U X c u G h9).1
      clear h g2 g3 g4 g5 g6 g7 g8 h7 h8 h9
      subst h1
      have su : starEach [u] X.env = (false, eval u X.env) :: starEach [] X.env := star_cons (nt h6)
      have sz : starEach [z, u] X.env = (false, eval z X.env) :: starEach [u] X.env := star_cons (nt h5)
      have sy : starEach [y, z, u] X.env = (false, eval y X.env) :: starEach [z, u] X.env := star_cons (nt h4)
      exact i_rng3 (G.gl h2) h3 (s_cons A (s_cons B (s_cons D s_nil su) sz) sy) sy (by rw [sz, su]; rfl)
    · cases h
  | seq => cases x <;> cases h
  | rng1 => cases x <;> cases h
  | rng2 => cases x <;> cases h
  | zip => cases x <;> cases h
  | enum => cases x <;> cases h
theorem gw_nm {i : Nat} : OkGw M cf k (.nm i) := fun U X c vs x G hm h => by
  cases x with
  | Name y p =>
    obtain ⟨h1, h2⟩ := ba2 (show (decide (i ∈ vs) && (decide (c.N[i]? = some y) && locB c y)) = true from h)
    obtain ⟨h2, h3⟩ := ba2 h2
    obtain ⟨l1, l2⟩ := G.loc h3
    exact gw_name G.nd (by rw [G.N]; exact of_decide_eq_true h2) l1 l2 (of_decide_eq_true h1)
  | _ => cases h
theorem gw_tp {ts : GL} (hs : OkGws M cf k ts) : OkGw M cf k (.tup ts) := fun U X c vs x G hm h => by
  cases x with
  | Tuple xs j p =>
    obtain ⟨a1, a2, a3, _⟩ := hs U X c vs xs G hm h
    exact gw_tup (G.calm hm) a1 a2 a3
  | _ => cases h
theorem gw_sub {o i : E} : OkGw M cf k (.sub o i) := fun U X c vs x G hm h => by cases h
theorem asg_cons {x : Expr} {xs : List Expr} {env : Env} (h : isStar x = false) : assignEach (x :: xs) env = (false, assign x env) :: assignEach xs env := by
  cases x <;> first | rfl | cases h
theorem gws_nil : OkGws M cf k .nil := fun U X c vs xs G hm h => by
  cases xs with
  | nil =>
    refine ⟨?_, rfl, rfl, rfl⟩
    have := gw_nil (X := X) (vs := vs)
    have e : (fun (ws : List W) (l : L) (S : Sto) => gts cf .nil ws l S) = fun ws l S => match ws with
      | [] => .ok l S
      | _ => .stuck := by
      funext ws l S
      cases ws <;> rfl
    rw [e]; exact this
  | cons _ _ => cases h
theorem gws_cons {t : G} {r : GL} (ht : OkGw M cf k t) (hr : OkGws M cf k r) : OkGws M cf k (.cons t r) := fun U X c vs xs G hm h => by
  cases xs with
  | nil => cases h
  | cons x xs =>
    obtain ⟨h1, h2⟩ := ba2 (show (!isStar x && (chkGw M t c vs x && chkGws M r c vs xs)) = true from h)
    obtain ⟨h2, h3⟩ := ba2 h2
    obtain ⟨a1, a2, a3, a4⟩ := hr U X c vs xs G hm h3
    have b1 := ht U X c vs x G hm h2
    have st := asg_cons (xs := xs) (env := X.env) (nt h1)
    refine ⟨?_, ?_, ?_, ?_⟩
    · have := gw_cons b1 a1 (by rw [st]; rfl)
      have e : (fun (ws : List W) (l : L) (S : Sto) => gts cf (.cons t r) ws l S) = fun ws l S => match ws with
        | w :: ws => (gt cf t w l S).bind fun l1 S => gts cf r ws l1 S
        | [] => .stuck := by
        funext ws l S
        cases ws <;> rfl
      rw [e]; exact this
    · rw [st, List.length_cons, a2]; rfl
    · rw [st, List.findIdx?_cons]
      simp [a3]
    · rw [List.all_cons, a4, h1]; rfl
theorem lc_eq {t : G} {kk : IK} {it ifs : EL} {elt : E} {own : List Nat} {l : L} {S : Sto} : ev cf (.lc t kk it ifs elt own) l S = (((evs cf it l S).bind fun ws S => itR kk ws S).bind fun ps S => (lcGo (lcTurn (gt cf t) (tes cf ifs) (ev cf elt) (Mi.wipe l own)) ps S).bind fun ys S => .ok (.pv (.list ys)) S) := by
  show ((evs cf it l S).bind _) = _
  cases evs cf it l S with
  | err x S => rfl
  | stuck => rfl
  | ok ws S1 =>
    show (match items kk ws with
      | some xs => _
      | none => .stuck) = ((itR kk ws S1).bind _)
    unfold itR
    cases items kk ws <;> rfl
theorem lc_case {t : G} {kk : IK} {it ifs : EL} {elt : E} {own : List Nat} {x : Expr} (h : chkE M (.lc t kk it ifs elt own) c x = true) :
    ∃ ex tg iter xs scope ps, x = .ListComp ex [⟨tg, iter, xs, 0⟩] scope ps ∧ c.md ≠ .hot ∧ (ownOf c.N own).map (·.2) = own ∧ blkC c.N ⟨.function, c.sc, false, false, []⟩ scope (ownOf c.N own) = true ∧ isSet iter = false ∧ chkI M kk it c tg iter = true ∧
      chkGw M t ⟨relN scope.names c.sc, c.N, .blk, scope.names⟩ own tg = true ∧ chkIf M ifs ⟨relN scope.names c.sc, c.N, .blk, scope.names⟩ xs = true ∧ chkE M elt ⟨relN scope.names c.sc, c.N, .blk, scope.names⟩ ex = true := by
  have h' : ∀ x, chkE M (.lc t kk it ifs elt own) c x = (match x with
    | .ListComp ex [⟨tg, iter, xs, 0⟩] scope _ => !decide (c.md = .hot) && (decide ((ownOf c.N own).map (·.2) = own) && (blkC c.N ⟨.function, c.sc, false, false, []⟩ scope (ownOf c.N own) && (!isSet iter && (chkI M kk it c tg iter &&
      (chkGw M t ⟨relN scope.names c.sc, c.N, .blk, scope.names⟩ own tg && (chkIf M ifs ⟨relN scope.names c.sc, c.N, .blk, scope.names⟩ xs && chkE M elt ⟨relN scope.names c.sc, c.N, .blk, scope.names⟩ ex))))))
    | _ => false) := fun _ => rfl
  rw [h'] at h
  clear h'
  split at h
  · rename_i ex tg iter xs scope ps
    obtain ⟨h1, g2⟩ := ba2 h
    obtain ⟨h2, g3⟩ := ba2 g2
    obtain ⟨h3, g4⟩ := ba2 g3
    obtain ⟨h4, g5⟩ := ba2 g4
    obtain ⟨h5, g6⟩ := ba2 g5
    obtain ⟨h6, g7⟩ := ba2 g6
    obtain ⟨h7, h8⟩ := ba2 g7
    exact ⟨ex, tg, iter, xs, scope, ps, rfl, noh h1, of_decide_eq_true h2, h3, nt h4, h5, h6, h7, h8⟩
  · cases h
theorem e_lc {t : G} {kk : IK} {it ifs : EL} {elt : E} {own : List Nat} (ht : OkGw M cf k t) (hi : OkI M cf k it) (hf : OkIf M cf k ifs) (he : OkE M cf k elt) : OkE M cf k (.lc t kk it ifs elt own) := fun U X c x G h => by
  obtain ⟨ex, tg, iter, xs, scope, ps, rfl, hm, h2, h3, h4, h5, h6, h7, h8⟩ := lc_case h
  have B : BlkOk X.N X.env.scope scope (ownOf c.N own) := by
    rw [G.N]
    exact blk_as (blkOk_by h3) G.nm.symm
  refine plain (fun _ => rfl) rfl rfl ?_
  have e : ev cf (.lc t kk it ifs elt own) = fun l S => (((evs cf it l S).bind fun ws S => itR kk ws S).bind fun ps S => (lcGo (lcTurn (gt cf t) (tes cf ifs) (ev cf elt) (Mi.wipe l own)) ps S).bind fun ys S => .ok (.pv (.list ys)) S) := by
    funext l S; exact lc_eq
  rw [e]
  have GB := fun (s : Shared) (H : Hp) (C : Addr) (cl : List (Str × Addr)) (fp : List Addr) => G.blk hm B s H C cl fp
  exact s_lc (f := fun l S => (evs cf it l S).bind fun ws S => itR kk ws S) h2 (G.calm hm) G.nd (hi U X c kk tg iter G h5) B (fun s H C cl fp => ht E0 _ _ own tg (GB s H C cl fp) (by intro z; cases z) h6) (fun s H C cl fp => hf E0 _ _ xs (GB s H C cl fp) h7)
    (fun s H C cl fp => (he E0 _ _ ex (GB s H C cl fp) h8).1) (noset h4)
theorem lc2_eq {t t1 : G} {kk k1 : IK} {it ifs it1 ifs1 : EL} {elt : E} {own own1 : List Nat} {l : L} {S : Sto} : ev cf (.lc2 t kk it ifs t1 k1 it1 ifs1 elt own own1) l S = (((evs cf it l S).bind fun ws S => itR kk ws S).bind fun ps S => (lc2Go (lc2Turn (gt cf t) (tes cf ifs) (fun l S => (evs cf it1 l S).bind fun ws S => itR k1 ws S) (gt cf t1) (tes cf ifs1) (ev cf elt) own1 (Mi.wipe l own)) ps S).bind lc2End) := by
  show ((evs cf it l S).bind _) = _
  rw [rb_assoc]
  congr 1
  funext ws S
  unfold itR
  cases items kk ws with
  | none => rfl
  | some xs =>
    show (lc2Go _ xs S).bind lc2End = (lc2Go _ xs S).bind lc2End
    refine congrArg (fun T => (lc2Go T xs S).bind lc2End) ?_
    funext x S
    unfold lc2Turn
    refine congrArg (fun F => ((gt cf t (.pv x) (wipe l own) S).bind F).calm) ?_
    funext l1 S
    refine congrArg (fun F => (tes cf ifs l1 S).bind F) ?_
    funext k S
    cases k with
    | false => rfl
    | true =>
      show ((evs cf it1 l1 S).bind _) = (((evs cf it1 l1 S).bind _).bind _)
      rw [rb_assoc]
      refine congrArg (fun F => (evs cf it1 l1 S).bind F) ?_
      funext ws S
      cases items k1 ws <;> rfl
theorem lc2_case {t t1 : G} {kk k1 : IK} {it ifs it1 ifs1 : EL} {elt : E} {own own1 : List Nat} {x : Expr} (h : chkE M (.lc2 t kk it ifs t1 k1 it1 ifs1 elt own own1) c x = true) :
    ∃ ex tg iter xs tg1 iter1 xs1 scope ps, x = .ListComp ex [⟨tg, iter, xs, 0⟩, ⟨tg1, iter1, xs1, 0⟩] scope ps ∧ c.md ≠ .hot ∧ (ownOf c.N own).map (·.2) = own ∧ (∀ i ∈ own1, i ∈ own) ∧ blkC c.N ⟨.function, c.sc, false, false, []⟩ scope (ownOf c.N own) = true ∧ isSet iter = false ∧ isSet iter1 = false ∧ chkI M kk it c tg iter = true ∧
      chkGw M t ⟨relN scope.names c.sc, c.N, .blk, scope.names⟩ own tg = true ∧ chkIf M ifs ⟨relN scope.names c.sc, c.N, .blk, scope.names⟩ xs = true ∧ chkI M k1 it1 ⟨relN scope.names c.sc, c.N, .blk, scope.names⟩ tg1 iter1 = true ∧ chkGw M t1 ⟨relN scope.names c.sc, c.N, .blk, scope.names⟩ own1 tg1 = true ∧
      chkIf M ifs1 ⟨relN scope.names c.sc, c.N, .blk, scope.names⟩ xs1 = true ∧ chkE M elt ⟨relN scope.names c.sc, c.N, .blk, scope.names⟩ ex = true := by
  have h' : ∀ x, chkE M (.lc2 t kk it ifs t1 k1 it1 ifs1 elt own own1) c x = (match x with
    | .ListComp ex [⟨tg, iter, xs, 0⟩, ⟨tg1, iter1, xs1, 0⟩] scope _ => !decide (c.md = .hot) && (decide ((ownOf c.N own).map (·.2) = own) && (own1.all (fun i => own.contains i) && (blkC c.N ⟨.function, c.sc, false, false, []⟩ scope (ownOf c.N own) && (!isSet iter && (!isSet iter1 && (chkI M kk it c tg iter &&
      (chkGw M t ⟨relN scope.names c.sc, c.N, .blk, scope.names⟩ own tg && (chkIf M ifs ⟨relN scope.names c.sc, c.N, .blk, scope.names⟩ xs && (chkI M k1 it1 ⟨relN scope.names c.sc, c.N, .blk, scope.names⟩ tg1 iter1 && (chkGw M t1 ⟨relN scope.names c.sc, c.N, .blk, scope.names⟩ own1 tg1 &&
      (chkIf M ifs1 ⟨relN scope.names c.sc, c.N, .blk, scope.names⟩ xs1 && chkE M elt ⟨relN scope.names c.sc, c.N, .blk, scope.names⟩ ex)))))))))))
    | _ => false) := fun _ => rfl
  rw [h'] at h
  clear h'
  split at h
  · rename_i ex tg iter xs tg1 iter1 xs1 scope ps
    obtain ⟨h1, g2⟩ := ba2 h
    obtain ⟨h2, g3⟩ := ba2 g2
    obtain ⟨h3, g4⟩ := ba2 g3
    obtain ⟨h4, g5⟩ := ba2 g4
    obtain ⟨h5, g6⟩ := ba2 g5
    obtain ⟨h6, g7⟩ := ba2 g6
    obtain ⟨h7, g8⟩ := ba2 g7
    obtain ⟨h8, g9⟩ := ba2 g8
    obtain ⟨h9, g10⟩ := ba2 g9
    obtain ⟨h10, g11⟩ := ba2 g10
    obtain ⟨h11, g12⟩ := ba2 g11
    obtain ⟨h12, h13⟩ := ba2 g12
    exact ⟨ex, tg, iter, xs, tg1, iter1, xs1, scope, ps, rfl, noh h1, of_decide_eq_true h2, fun i hi => by simpa using List.all_eq_true.mp h3 i hi, h4, nt h5, nt h6, h7, h8, h9, h10, h11, h12, h13⟩
  · cases h
theorem e_lc2 {t t1 : G} {kk k1 : IK} {it ifs it1 ifs1 : EL} {elt : E} {own own1 : List Nat} (ht : OkGw M cf k t) (hi : OkI M cf k it) (hf : OkIf M cf k ifs) (ht1 : OkGw M cf k t1) (hi1 : OkI M cf k it1) (hf1 : OkIf M cf k ifs1) (he : OkE M cf k elt) : OkE M cf k (.lc2 t kk it ifs t1 k1 it1 ifs1 elt own own1) := fun U X c x G h => by
  obtain ⟨ex, tg, iter, xs, tg1, iter1, xs1, scope, ps, rfl, hm, h2, hv, h3, h4, h4', h5, h6, h7, h8, h9, h10, h11⟩ := lc2_case h
  have B : BlkOk X.N X.env.scope scope (ownOf c.N own) := by
    rw [G.N]
    exact blk_as (blkOk_by h3) G.nm.symm
  refine plain (fun _ => rfl) rfl rfl ?_
  have e : ev cf (.lc2 t kk it ifs t1 k1 it1 ifs1 elt own own1) = fun l S => (((evs cf it l S).bind fun ws S => itR kk ws S).bind fun ps S => (lc2Go (lc2Turn (gt cf t) (tes cf ifs) (fun l S => (evs cf it1 l S).bind fun ws S => itR k1 ws S) (gt cf t1) (tes cf ifs1) (ev cf elt) own1 (Mi.wipe l own)) ps S).bind lc2End) := by
    funext l S; exact lc2_eq
  rw [e]
  have GB := fun (s : Shared) (H : Hp) (C : Addr) (cl : List (Str × Addr)) (fp : List Addr) => G.blk hm B s H C cl fp
  exact s_lc2 (f := fun l S => (evs cf it l S).bind fun ws S => itR kk ws S) (f1 := fun l S => (evs cf it1 l S).bind fun ws S => itR k1 ws S) h2 hv (G.calm hm) G.nd (hi U X c kk tg iter G h5) B (fun s H C cl fp => ht E0 _ _ own tg (GB s H C cl fp) (by intro z; cases z) h6) (fun s H C cl fp => hf E0 _ _ xs (GB s H C cl fp) h7)
    (fun s H C cl fp => hi1 E0 _ _ k1 tg1 iter1 (GB s H C cl fp) h8) (fun s H C cl fp => ht1 E0 _ _ own1 tg1 (GB s H C cl fp) (by intro z; cases z) h9) (fun s H C cl fp => hf1 E0 _ _ xs1 (GB s H C cl fp) h10) (fun s H C cl fp => (he E0 _ _ ex (GB s H C cl fp) h11).1) (noset h4) (fun _ => noset h4')
theorem dc_eq {t : G} {kk : IK} {it ifs : EL} {ke ve : E} {own : List Nat} {l : L} {S : Sto} : ev cf (.dcomp t kk it ifs ke ve own) l S = (((evs cf it l S).bind fun ws S => itR kk ws S).bind fun ps S => (dcGo (dcTurn (gt cf t) (tes cf ifs) (ev cf ke) (ev cf ve) (Mi.wipe l own)) ps [] S).bind fun ys S => .ok (.pv (.dict ys)) S) := by
  show ((evs cf it l S).bind _) = _
  cases evs cf it l S with
  | err x S => rfl
  | stuck => rfl
  | ok ws S1 =>
    show (match items kk ws with
      | some xs => _
      | none => .stuck) = ((itR kk ws S1).bind _)
    unfold itR
    cases items kk ws <;> rfl
theorem dc_case {t : G} {kk : IK} {it ifs : EL} {ke ve : E} {own : List Nat} {x : Expr} (h : chkE M (.dcomp t kk it ifs ke ve own) c x = true) :
    ∃ kx vx tg iter xs scope ps, x = .DictComp kx vx [⟨tg, iter, xs, 0⟩] scope ps ∧ c.md ≠ .hot ∧ (ownOf c.N own).map (·.2) = own ∧ blkC c.N ⟨.function, c.sc, false, false, []⟩ scope (ownOf c.N own) = true ∧ isSet iter = false ∧ chkI M kk it c tg iter = true ∧
      chkGw M t ⟨relN scope.names c.sc, c.N, .blk, scope.names⟩ own tg = true ∧ chkIf M ifs ⟨relN scope.names c.sc, c.N, .blk, scope.names⟩ xs = true ∧ chkE M ke ⟨relN scope.names c.sc, c.N, .blk, scope.names⟩ kx = true ∧ chkE M ve ⟨relN scope.names c.sc, c.N, .blk, scope.names⟩ vx = true := by
  have h' : ∀ x, chkE M (.dcomp t kk it ifs ke ve own) c x = (match x with
    | .DictComp kx vx [⟨tg, iter, xs, 0⟩] scope _ => !decide (c.md = .hot) && (decide ((ownOf c.N own).map (·.2) = own) && (blkC c.N ⟨.function, c.sc, false, false, []⟩ scope (ownOf c.N own) && (!isSet iter && (chkI M kk it c tg iter &&
      (chkGw M t ⟨relN scope.names c.sc, c.N, .blk, scope.names⟩ own tg && (chkIf M ifs ⟨relN scope.names c.sc, c.N, .blk, scope.names⟩ xs && (chkE M ke ⟨relN scope.names c.sc, c.N, .blk, scope.names⟩ kx && chkE M ve ⟨relN scope.names c.sc, c.N, .blk, scope.names⟩ vx)))))))
    | _ => false) := fun _ => rfl
  rw [h'] at h
  clear h'
  split at h
  · rename_i kx vx tg iter xs scope ps
    obtain ⟨h1, g2⟩ := ba2 h
    obtain ⟨h2, g3⟩ := ba2 g2
    obtain ⟨h3, g4⟩ := ba2 g3
    obtain ⟨h4, g5⟩ := ba2 g4
    obtain ⟨h5, g6⟩ := ba2 g5
    obtain ⟨h6, g7⟩ := ba2 g6
    obtain ⟨h7, g8⟩ := ba2 g7
    obtain ⟨h8, h9⟩ := ba2 g8
    exact ⟨kx, vx, tg, iter, xs, scope, ps, rfl, noh h1, of_decide_eq_true h2, h3, nt h4, h5, h6, h7, h8, h9⟩
  · cases h
theorem e_dcomp {t : G} {kk : IK} {it ifs : EL} {ke ve : E} {own : List Nat} (ht : OkGw M cf k t) (hi : OkI M cf k it) (hf : OkIf M cf k ifs) (hk : OkE M cf k ke) (he : OkE M cf k ve) : OkE M cf k (.dcomp t kk it ifs ke ve own) := fun U X c x G h => by
  obtain ⟨kx, vx, tg, iter, xs, scope, ps, rfl, hm, h2, h3, h4, h5, h6, h7, h8, h9⟩ := dc_case h
  have B : BlkOk X.N X.env.scope scope (ownOf c.N own) := by
    rw [G.N]
    exact blk_as (blkOk_by h3) G.nm.symm
  refine plain (fun _ => rfl) rfl rfl ?_
  have e : ev cf (.dcomp t kk it ifs ke ve own) = fun l S => (((evs cf it l S).bind fun ws S => itR kk ws S).bind fun ps S => (dcGo (dcTurn (gt cf t) (tes cf ifs) (ev cf ke) (ev cf ve) (Mi.wipe l own)) ps [] S).bind fun ys S => .ok (.pv (.dict ys)) S) := by
    funext l S; exact dc_eq
  rw [e]
  have GB := fun (s : Shared) (H : Hp) (C : Addr) (cl : List (Str × Addr)) (fp : List Addr) => G.blk hm B s H C cl fp
  exact s_dcomp (f := fun l S => (evs cf it l S).bind fun ws S => itR kk ws S) h2 (G.calm hm) G.nd (hi U X c kk tg iter G h5) B (fun s H C cl fp => ht E0 _ _ own tg (GB s H C cl fp) (by intro z; cases z) h6) (fun s H C cl fp => hf E0 _ _ xs (GB s H C cl fp) h7)
    (fun s H C cl fp => (hk E0 _ _ kx (GB s H C cl fp) h8).1) (fun s H C cl fp => (he E0 _ _ vx (GB s H C cl fp) h9).1) (noset h4)
theorem e_isi2 {a : E} {t u : Ty} : OkE M cf k (.isi2 a t u) := fun U X c x G h => by cases h
end
section
variable (M : Tab) (cf : Cf) (k : Nat)
mutual
theorem okE : ∀ e : E, OkE M cf k e
  | .var i => e_var i
  | .cst p => e_cst p
  | .gcst y p => e_gcst y p
  | .bin o a b => e_bin (okE a) (okE b)
  | .un o a => e_un (okE a)
  | .cmp o a b => e_cmp (okE a) (okE b)
  | .cmp2 o o' a b d => e_cmp2 (okE a) (okE b) (okE d)
  | .and_ a b => e_and (okE a) (okE b)
  | .or_ a b => e_or (okE a) (okE b)
  | .not_ a => e_not (okE a)
  | .ife d a b => e_ife (okE d) (okE a) (okE b)
  | .tup es => e_tup (okEL es)
  | .lstv es => e_lstv (okEL es)
  | .lstm es => e_lstm (okEL es)
  | .idx a i => e_idx (okE a) (okE i)
  | .slc a lo hi => e_slc (okE a) (okO lo) (okO hi)
  | .pcall f es => e_pcall (okEL es)
  | .hcall f es => e_hcall (okEL es)
  | .gcall f es => e_gcall (okEL es)
  | .bi b es => e_bi (okEL es)
  | .isi a t => e_isi (okE a)
  | .isi2 a t u => e_isi2
  | .lc t kk it ifs elt own => e_lc (okGw t) (okI it) (okIf ifs) (okE elt)
  | .frz a => e_frz (okE a)
  | .app o e => e_app (okE o) (okE e)
  | .ext o e => e_ext (okE o) (okE e)
  | .pop o => e_pop (okE o)
  | .popi o i => e_popi (okE o) (okE i)
  | .lmk e => e_lmk (okE e)
  | .lrng k' (.cons a .nil) => e_lrng1 (okE a)
  | .lrng _ .nil => fun U X c x G h => by cases h
  | .lrng _ (.cons _ (.cons _ _)) => fun U X c x G h => by cases h
  | .dnew => e_dnew
  | .dsrt a => e_dsrt (okE a)
  | .sset a => e_sset (okE a)
  | .dcp a => e_dcp (okE a)
  | .dget a i => e_dget (okE a) (okE i)
  | .lidx a i => e_lidx (okE a) (okE i)
  | .dsetd a i => e_dsetd (okE a) (okE i)
  | .lrep a b => e_lrep (okE a) (okE b)
  | .catm a b => e_catm (okE a) (okE b)
  | .lc2 t kk it ifs t1 k1 it1 ifs1 elt own own1 => e_lc2 (okGw t) (okI it) (okIf ifs) (okGw t1) (okI it1) (okIf ifs1) (okE elt)
  | .dcomp t kk it ifs ke ve own => e_dcomp (okGw t) (okI it) (okIf ifs) (okE ke) (okE ve)
theorem okEL : ∀ es : EL, OkEL M cf k es
  | .nil => el_nil
  | .cons e r => el_cons (okE e) (okEL r)
theorem okIf : ∀ es : EL, OkIf M cf k es
  | .nil => if_nil
  | .cons e r => if_cons (okE e)
theorem okO : ∀ e : OE, OkO M cf k e
  | .no => o_no
  | .some e => o_some (okE e)
theorem okI : ∀ es : EL, OkI M cf k es
  | .nil => fun U X c kk tg x G h => by cases h
  | .cons a .nil => i_one (okE a)
  | .cons a (.cons b .nil) => i_two (okE a) (okE b)
  | .cons a (.cons b (.cons d .nil)) => i_three (okE a) (okE b) (okE d)
  | .cons _ (.cons _ (.cons _ (.cons _ _))) => fun U X c kk tg x G h => by cases h
theorem okGw : ∀ t : G, OkGw M cf k t
  | .nm i => gw_nm
  | .tup ts => gw_tp (okGws ts)
  | .sub o i => gw_sub
theorem okGws : ∀ t : GL, OkGws M cf k t
  | .nil => gws_nil
  | .cons t r => gws_cons (okGw t) (okGws r)
end
end
end Mi
set_option Elab.async false
set_option linter.all false
set_option maxRecDepth 100000
set_option autoImplicit false
/-! Mi: what is checked runs as its meaning says: statements. -/
namespace Mi
open PySem PySem.Spec L2
def OkG (M : Tab) (cf : Cf) (k : Nat) (t : G) : Prop := ∀ (U : WX) (X : Cx) (c : Sc) (x : Expr), Good M cf k U X c → chkG M t c x = true → PG X x (tG X.K (gt cf t))
def OkGs (M : Tab) (cf : Cf) (k : Nat) (t : GL) : Prop := ∀ (U : WX) (X : Cx) (c : Sc) (xs : List Expr), Good M cf k U X c → chkGs M t c xs = true → PGs X xs (tGs X.K fun ws l S => gts cf t ws l S) ∧ (assignEach xs X.env).length = gcount t ∧ (assignEach xs X.env).findIdx? (·.1) = none
def OkT (M : Tab) (cf : Cf) (k : Nat) (t : T) : Prop := ∀ (U : WX) (X : Cx) (c : Sc) (x : Stmt), Good M cf k U X c → chkT M t c x = true → PS X x (tS X.K U (ex cf t))
def OkTL (M : Tab) (cf : Cf) (k : Nat) (t : TL) : Prop := ∀ (U : WX) (X : Cx) (c : Sc) (x : List Stmt), Good M cf k U X c → chkTL M t c x = true → PSs X x (tS X.K U (exs cf t))
def hl (cf : Cf) : HL → List (Str × Option Nat × (L → Sto → SR))
  | .nil => []
  | .cons n s r => (n, none, exs cf s) :: hl cf r
  | .named n i s r => (n, some i, exs cf s) :: hl cf r
def OkH (M : Tab) (cf : Cf) (k : Nat) (t : HL) : Prop := ∀ (U : WX) (X : Cx) (c : Sc) (x : List ExceptHandler), Good M cf k U X c → c.md = .top → chkH M t c x = true → ClOk X x (clausesN X.K (hl cf t))
section
variable {M : Tab} {cf : Cf} {k : Nat} {U : WX} {X : Cx} {c : Sc}
theorem tg_nm {i : Nat} : OkG M cf k (.nm i) := fun U X c x G h => by
  cases x with
  | Name y p =>
    obtain ⟨h2, h3⟩ := ba2 (show (decide (c.N[i]? = some y) && locB c y) = true from h)
    obtain ⟨l1, l2⟩ := G.loc h3
    exact g_name G.nd (by rw [G.N]; exact of_decide_eq_true h2) l1 l2
  | _ => cases h
theorem tg_tup {ts : GL} (hs : OkGs M cf k ts) : OkG M cf k (.tup ts) := fun U X c x G h => by
  cases x with
  | Tuple xs j p =>
    obtain ⟨h1, h2⟩ := ba2 (show (!decide (c.md = .hot) && chkGs M ts c xs) = true from h)
    obtain ⟨a1, a2, a3⟩ := hs U X c xs G h2
    exact g_tup (G.calm (noh h1)) a1 a2 a3
  | _ => cases h
theorem tg_sub {o i : E} (ho : OkE M cf k o) (hi : OkE M cf k i) : OkG M cf k (.sub o i) := fun U X c x G h => by
  cases x with
  | Subscript x y p =>
    obtain ⟨h1, h2⟩ := ba2 (show (!isSlice y && (chkE M o c x && chkE M i c y)) = true from h)
    obtain ⟨h2, h3⟩ := ba2 h2
    refine g_sub (by have := G.hu; omega) (ho U X c x G h2).1 (hi U X c y G h3).1 fun v => ?_
    have := nt h1
    cases y <;> first | rfl | cases this
  | _ => cases h
theorem tgs_nil : OkGs M cf k .nil := fun U X c xs G h => by
  cases xs with
  | nil =>
    refine ⟨?_, rfl, rfl⟩
    have e : (fun (ws : List W) (l : L) (S : Sto) => gts cf .nil ws l S) = fun ws l S => match ws with
      | [] => .ok l S
      | _ => .stuck := by
      funext ws l S
      cases ws <;> rfl
    rw [e]; exact g_nil
  | cons _ _ => cases h
theorem tgs_cons {t : G} {r : GL} (ht : OkG M cf k t) (hr : OkGs M cf k r) : OkGs M cf k (.cons t r) := fun U X c xs G h => by
  cases xs with
  | nil => cases h
  | cons x xs =>
    obtain ⟨h1, h2⟩ := ba2 (show (!isStar x && (chkG M t c x && chkGs M r c xs)) = true from h)
    obtain ⟨h2, h3⟩ := ba2 h2
    obtain ⟨a1, a2, a3⟩ := hr U X c xs G h3
    have b1 := ht U X c x G h2
    have st := asg_cons (xs := xs) (env := X.env) (nt h1)
    refine ⟨?_, ?_, ?_⟩
    · have := g_cons b1 a1 (by rw [st]; rfl)
      have e : (fun (ws : List W) (l : L) (S : Sto) => gts cf (.cons t r) ws l S) = fun ws l S => match ws with
        | w :: ws => (gt cf t w l S).bind fun l1 S => gts cf r ws l1 S
        | [] => .stuck := by
        funext ws l S
        cases ws <;> rfl
      rw [e]; exact this
    · rw [st, List.length_cons, a2]; rfl
    · rw [st, List.findIdx?_cons]
      simp [a3]
theorem t_pass : OkT M cf k .pass := fun U X c x G h => by
  cases x with
  | Pass p => exact s_pass
  | _ => cases h
theorem t_brk : OkT M cf k .brk := fun U X c x G h => by
  cases x with
  | Break p => exact s_brk
  | _ => cases h
theorem t_cont : OkT M cf k .cont := fun U X c x G h => by
  cases x with
  | Continue p => exact s_cont
  | _ => cases h
theorem t_retn : OkT M cf k .retn := fun U X c x G h => by
  cases x with
  | Return e p => cases e with
    | none => exact s_retn
    | some _ => cases h
  | _ => cases h
theorem t_ret {e : E} (he : OkE M cf k e) : OkT M cf k (.ret e) := fun U X c x G h => by
  cases x with
  | Return y p => cases y with
    | none => cases h
    | some y => exact s_ret (he U X c y G h).1
  | _ => cases h
theorem t_expr {e : E} (he : OkE M cf k e) : OkT M cf k (.expr e) := fun U X c x G h => by
  cases x with
  | Expr y p =>
    obtain ⟨h1, h2⟩ := ba2 (show (!isComp y && chkE M e c y) = true from h)
    exact s_expr (ps_expr (he U X c y G h2).1 (nocomp (nt h1))) fun σ H Q z => z
  | _ => cases h
theorem sw_eq (G : Good M cf k U X c) (tg ex : Expr) (gs : List Comprehension) (s : Scope) (p : Pos) (n : Nat) : swapsWith (.ListComp ex gs s p) (some tg) n X.env = pure (swB c tg (.ListComp ex gs s p)) := by
  cases tg with
  | Name t q =>
    have hb : X.env.blockKind = .function := by unfold Env.blockKind; rw [G.kind]; rfl
    unfold swapsWith swB
    simp only [hb, Env.kindOf, G.nm, Expr.pos]
    cases c.sc.lookup t with
    | none => rfl
    | some kd => cases kd <;> first | rfl | (simp; rfl)
  | _ => rfl
theorem sw_eqD (G : Good M cf k U X c) (tg kx vx : Expr) (gs : List Comprehension) (s : Scope) (p : Pos) (n : Nat) : swapsWith (.DictComp kx vx gs s p) (some tg) n X.env = pure (swB c tg (.DictComp kx vx gs s p)) := by
  cases tg with
  | Name t q =>
    have hb : X.env.blockKind = .function := by unfold Env.blockKind; rw [G.kind]; rfl
    unfold swapsWith swB
    simp only [hb, Env.kindOf, G.nm, Expr.pos]
    cases c.sc.lookup t with
    | none => rfl
    | some kd => cases kd <;> first | rfl | (simp; rfl)
  | _ => rfl
theorem noswap {tg x : Expr} {env : Env} (h : (isTup tg && isTup x) = false) : swappedStores [tg] x env = pure none := by
  cases tg <;> first | rfl | (cases x <;> first | rfl | cases h)
theorem t_asg {t : G} {e : E} (ht : OkG M cf k t) (he : OkE M cf k e) (hlc : ∀ tt kk it ifs elt own, e = .lc tt kk it ifs elt own → OkGw M cf k tt ∧ OkI M cf k it ∧ OkIf M cf k ifs ∧ OkE M cf k elt) (hdc : ∀ tt kk it ifs ke ve own, e = .dcomp tt kk it ifs ke ve own → OkGw M cf k tt ∧ OkI M cf k it ∧ OkIf M cf k ifs ∧ OkE M cf k ke ∧ OkE M cf k ve)
    (hl2 : ∀ tt kk it ifs t1 k1 it1 ifs1 elt own own1, e = .lc2 tt kk it ifs t1 k1 it1 ifs1 elt own own1 → OkGw M cf k tt ∧ OkI M cf k it ∧ OkIf M cf k ifs ∧ OkGw M cf k t1 ∧ OkI M cf k it1 ∧ OkIf M cf k ifs1 ∧ OkE M cf k elt) : OkT M cf k (.asg t e) := fun U X c x G h => by
  have h' : ∀ x, chkT M (.asg t e) c x = (match x with
    | .Assign [tg] x _ => !(isTup tg && isTup x) && (!isStar tg && ((!isComp x || ((isListComp x && (!swB c tg x || isLc e)) || (isDictComp x && (!swB c tg x || isDc e)))) && (chkG M t c tg && chkE M e c x)))
    | _ => false) := fun _ => rfl
  rw [h'] at h
  clear h'
  split at h
  · rename_i tg x ps
    obtain ⟨h1, g2⟩ := ba2 h
    obtain ⟨h2, g3⟩ := ba2 g2
    obtain ⟨h3, g4⟩ := ba2 g3
    obtain ⟨h4, h5⟩ := ba2 g4
    clear h g2 g3 g4
    have gen : swapsWith x (some tg) ps.line X.env = pure false → PS X (.Assign [tg] x ps) (tS X.K U (ex cf (.asg t e))) := fun hs =>
      s_asg (he U X c x G h5).1 (ht U X c tg G h4) hs (noswap (nt h1)) (by rw [asg_cons (nt h2)]; rfl)
    cases hc : isComp x with
    | false => exact gen (nocomp hc)
    | true =>
      rw [hc] at h3
      cases x with
      | ListComp exx gs s p =>
        cases hw : swB c tg (.ListComp exx gs s p) with
        | false => exact gen (by rw [sw_eq G, hw])
        | true =>
          rw [hw] at h3
          have hl : isLc e = true := by
            simp [isListComp, isDictComp] at h3
            exact h3
          cases e with
          | lc tt kk it ifs elt own =>
            obtain ⟨o1, o2, o3, o4⟩ := hlc _ _ _ _ _ _ rfl
            obtain ⟨ex', tg', iter, xs, scope, ps', ee, hm, g2, g3, g4, g5, g6, g7, g8⟩ := lc_case h5
            cases ee
            cases tg with
            | Name y py =>
              cases t with
              | nm i =>
                obtain ⟨k1, k2⟩ := ba2 (show (decide (c.N[i]? = some y) && locB c y) = true from h4)
                have hw' := hw
                have hsw : swapsWith (.ListComp exx [⟨tg', iter, xs, 0⟩] s p) (some (.Name y py)) ps.line X.env = pure true := by rw [sw_eq G, hw]
                have hyl : X.env.scope.names.lookup y = some .local := by
                  rw [G.nm]
                  unfold swB at hw
                  exact of_decide_eq_true (ba2 hw).1
                have B : BlkOk X.N X.env.scope s (ownOf c.N own) := by
                  rw [G.N]
                  exact blk_as (blkOk_by g3) G.nm.symm
                have GB := fun (s1 : Shared) (H : Hp) (C : Addr) (cl : List (Str × Addr)) (fp : List Addr) => G.blk hm B s1 H C cl fp
                have RR := s_setLc (E := U) (f := fun l S => (evs cf it l S).bind fun ws S => itR kk ws S) g2 (G.calm hm) G.nd (by rw [G.N]; exact of_decide_eq_true k1) hyl hsw (o2 U X c kk tg' iter G g5) B (fun s H C cl fp => o1 E0 _ _ own tg' (GB s H C cl fp) (by intro z; cases z) g6)
                  (fun s H C cl fp => o3 E0 _ _ xs (GB s H C cl fp) g7) (fun s H C cl fp => (o4 E0 _ _ exx (GB s H C cl fp) g8).1) (noset g4)
                have e1 : ex cf (.asg (.nm i) (.lc tt kk it ifs elt own)) = fun l S => SR.thenR (((evs cf it l S).bind fun ws S => itR kk ws S).bind fun ps S => (lcGo (lcTurn (gt cf tt) (tes cf ifs) (ev cf elt) (Mi.wipe l own)) ps S).bind fun ys S => .ok (.pv (.list ys)) S) l fun w S => SR.thenR (R.calm (.ok (l.set i (some w)) S)) l fun l1 S => .nx l1 S := by
                  funext l S
                  rw [← lc_eq]
                  rfl
                rw [e1]
                exact RR
              | tup _ => cases h4
              | sub _ _ => cases h4
            | _ => cases hw
          | lc2 tt kk it ifs t1 k1' it1 ifs1 elt own own1 =>
            obtain ⟨o1, o2, o3, o1', o2', o3', o4⟩ := hl2 _ _ _ _ _ _ _ _ _ _ _ rfl
            obtain ⟨ex', tg', iter, xs, tg1, iter1, xs1, scope, ps', ee, hm, g2, hv, g3, g4, g4', g5, g6, g7, g8, g9, g10, g11⟩ := lc2_case h5
            cases ee
            cases tg with
            | Name y py =>
              cases t with
              | nm i =>
                obtain ⟨k1, k2⟩ := ba2 (show (decide (c.N[i]? = some y) && locB c y) = true from h4)
                have hsw : swapsWith (.ListComp exx [⟨tg', iter, xs, 0⟩, ⟨tg1, iter1, xs1, 0⟩] s p) (some (.Name y py)) ps.line X.env = pure true := by rw [sw_eq G, hw]
                have hyl : X.env.scope.names.lookup y = some .local := by
                  rw [G.nm]
                  unfold swB at hw
                  exact of_decide_eq_true (ba2 hw).1
                have B : BlkOk X.N X.env.scope s (ownOf c.N own) := by
                  rw [G.N]
                  exact blk_as (blkOk_by g3) G.nm.symm
                have GB := fun (s1 : Shared) (H : Hp) (C : Addr) (cl : List (Str × Addr)) (fp : List Addr) => G.blk hm B s1 H C cl fp
                have RR := s_setLc2 (E := U) (f := fun l S => (evs cf it l S).bind fun ws S => itR kk ws S) (f1 := fun l S => (evs cf it1 l S).bind fun ws S => itR k1' ws S) g2 hv (G.calm hm) G.nd (by rw [G.N]; exact of_decide_eq_true k1) hyl hsw (o2 U X c kk tg' iter G g5) B (fun s H C cl fp => o1 E0 _ _ own tg' (GB s H C cl fp) (by intro z; cases z) g6)
                  (fun s H C cl fp => o3 E0 _ _ xs (GB s H C cl fp) g7) (fun s H C cl fp => o2' E0 _ _ k1' tg1 iter1 (GB s H C cl fp) g8) (fun s H C cl fp => o1' E0 _ _ own1 tg1 (GB s H C cl fp) (by intro z; cases z) g9) (fun s H C cl fp => o3' E0 _ _ xs1 (GB s H C cl fp) g10)
                  (fun s H C cl fp => (o4 E0 _ _ exx (GB s H C cl fp) g11).1) (noset g4) (fun _ => noset g4')
                have e1 : ex cf (.asg (.nm i) (.lc2 tt kk it ifs t1 k1' it1 ifs1 elt own own1)) = fun l S => SR.thenR (((evs cf it l S).bind fun ws S => itR kk ws S).bind fun ps S => (lc2Go (lc2Turn (gt cf tt) (tes cf ifs) (fun l S => (evs cf it1 l S).bind fun ws S => itR k1' ws S) (gt cf t1) (tes cf ifs1) (ev cf elt) own1 (Mi.wipe l own)) ps S).bind lc2End) l fun w S => SR.thenR (R.calm (.ok (l.set i (some w)) S)) l fun l1 S => .nx l1 S := by
                  funext l S
                  rw [← lc2_eq]
                  rfl
                rw [e1]
                exact RR
              | tup _ => cases h4
              | sub _ _ => cases h4
            | _ => cases hw
          | _ => cases hl
      | SetComp _ _ _ _ => simp [isListComp, isDictComp] at h3
      | DictComp kxx vxx gs s p =>
        cases hw : swB c tg (.DictComp kxx vxx gs s p) with
        | false => exact gen (by rw [sw_eqD G, hw])
        | true =>
          rw [hw] at h3
          have hl : isDc e = true := by
            simp [isListComp, isDictComp] at h3
            exact h3
          cases e with
          | dcomp tt kk it ifs ke ve own =>
            obtain ⟨o1, o2, o3, o4, o5⟩ := hdc _ _ _ _ _ _ _ rfl
            obtain ⟨kx', vx', tg', iter, xs, scope, ps', ee, hm, g2, g3, g4, g5, g6, g7, g8, g9⟩ := dc_case h5
            cases ee
            cases tg with
            | Name y py =>
              cases t with
              | nm i =>
                obtain ⟨k1, k2⟩ := ba2 (show (decide (c.N[i]? = some y) && locB c y) = true from h4)
                have hw' := hw
                have hsw : swapsWith (.DictComp kxx vxx [⟨tg', iter, xs, 0⟩] s p) (some (.Name y py)) ps.line X.env = pure true := by rw [sw_eqD G, hw]
                have hyl : X.env.scope.names.lookup y = some .local := by
                  rw [G.nm]
                  unfold swB at hw
                  exact of_decide_eq_true (ba2 hw).1
                have B : BlkOk X.N X.env.scope s (ownOf c.N own) := by
                  rw [G.N]
                  exact blk_as (blkOk_by g3) G.nm.symm
                have GB := fun (s1 : Shared) (H : Hp) (C : Addr) (cl : List (Str × Addr)) (fp : List Addr) => G.blk hm B s1 H C cl fp
                have RR := s_setDc (E := U) (f := fun l S => (evs cf it l S).bind fun ws S => itR kk ws S) g2 (G.calm hm) G.nd (by rw [G.N]; exact of_decide_eq_true k1) hyl hsw (o2 U X c kk tg' iter G g5) B (fun s H C cl fp => o1 E0 _ _ own tg' (GB s H C cl fp) (by intro z; cases z) g6)
                  (fun s H C cl fp => o3 E0 _ _ xs (GB s H C cl fp) g7) (fun s H C cl fp => (o4 E0 _ _ kxx (GB s H C cl fp) g8).1) (fun s H C cl fp => (o5 E0 _ _ vxx (GB s H C cl fp) g9).1) (noset g4)
                have e1 : ex cf (.asg (.nm i) (.dcomp tt kk it ifs ke ve own)) = fun l S => SR.thenR (((evs cf it l S).bind fun ws S => itR kk ws S).bind fun ps S => (dcGo (dcTurn (gt cf tt) (tes cf ifs) (ev cf ke) (ev cf ve) (Mi.wipe l own)) ps [] S).bind fun ys S => .ok (.pv (.dict ys)) S) l fun w S => SR.thenR (R.calm (.ok (l.set i (some w)) S)) l fun l1 S => .nx l1 S := by
                  funext l S
                  rw [← dc_eq]
                  rfl
                rw [e1]
                exact RR
              | tup _ => cases h4
              | sub _ _ => cases h4
            | _ => cases hw
          | _ => cases hl
      | _ => cases hc
  · cases h
theorem t_par2 {i j : Nat} {a b : E} (ha : OkE M cf k a) (hb : OkE M cf k b) : OkT M cf k (.par2 i j a b) := fun U X c x G h => by
  have h' : ∀ x, chkT M (.par2 i j a b) c x = (match x with
    | .Assign [.Tuple [p, q] _ _] (.Tuple [x, y] _ _) _ => decide (c.md = .top) && ((pathB c c.N i j p q x y || pathC c i j p q x y) && (chkE M a c x && chkE M b c y))
    | _ => false) := fun _ => rfl
  rw [h'] at h
  clear h'
  split at h
  · rename_i p q kt pt x y k2 pt2 ps
    obtain ⟨h1, g2⟩ := ba2 h
    obtain ⟨h2, g3⟩ := ba2 g2
    obtain ⟨h3, h4⟩ := ba2 g3
    have A := (ha U X c x G h3).1
    have B := (hb U X c y G h4).1
    have h1 := of_decide_eq_true h1
    clear h g2 g3 h3 h4
    rcases Bool.or_eq_true_iff.mp h2 with h2 | h2
    case inr =>
      cases p with
      | Name n pn =>
        cases q with
        | Name m pm =>
          obtain ⟨k1, g2⟩ := ba2 (show (decide (c.N[i]? = some n) && (decide (c.N[j]? = some m) && (locB c n && (locB c m && (!(decide (c.sc.lookup n = some .local) && decide (c.sc.lookup m = some .local)) && (!isStar x && !isStar y)))))) = true from h2)
          obtain ⟨k2', g3⟩ := ba2 g2
          obtain ⟨k3, g4⟩ := ba2 g3
          obtain ⟨k4, g5⟩ := ba2 g4
          obtain ⟨k5, g6⟩ := ba2 g5
          obtain ⟨k6, k7⟩ := ba2 g6
          have k1 := of_decide_eq_true k1
          have k2' := of_decide_eq_true k2'
          have k5 := nt k5
          have k6 := nt k6
          have k7 := nt k7
          obtain ⟨l1, f1⟩ := G.loc k3
          obtain ⟨l2, f2⟩ := G.loc k4
          have sy : starEach [y] X.env = (false, eval y X.env) :: starEach [] X.env := star_cons k7
          have sx : starEach [x, y] X.env = (false, eval x X.env) :: starEach [y] X.env := star_cons k6
          refine s_par2c (G.calm (by rw [h1]; intro z; cases z)) G.nd (by rw [G.N]; exact k1) (by rw [G.N]; exact k2') l1 l2 f1 f2 A B sx sy ?_ rfl
          have kl : ¬ (X.env.kindOf n = some .local ∧ X.env.kindOf m = some .local) := by
            unfold Env.kindOf
            rw [G.nm]
            rintro ⟨z1, z2⟩
            rw [decide_eq_true z1, decide_eq_true z2] at k5
            cases k5
          have hb : X.env.blockKind = .function := by unfold Env.blockKind; rw [G.kind]; rfl
          unfold swappedStores
          simp only [hb]
          by_cases z1 : X.env.kindOf n = some .local
          · have z2 : ¬ X.env.kindOf m = some .local := fun z => kl ⟨z1, z⟩
            simp [z1, z2, Expr.pos]
          · by_cases z2 : X.env.kindOf m = some .local
            · by_cases z3 : pm.line = pn.line
              · simp [z1, z2, z3, Expr.pos]
              · simp [z1, z2, z3, Expr.pos]
            · simp [z1, z2, Expr.pos]
        | _ => cases h2
      | _ => cases h2
    cases p with
    | Name n pn =>
      cases q with
      | Name m pm =>
        obtain ⟨k1, g2⟩ := ba2 (show (decide (i ≠ j) && (decide (c.N[i]? = some n) && (decide (c.N[j]? = some m) && (decide (c.sc.lookup n = some .local) && (decide (c.sc.lookup m = some .local) && ((pm.line == pn.line) &&
          (!(foldedForSure 8 x && foldedForSure 8 y) && (!(constantsAlone 8 x && constantsAlone 8 y) && (!isStar x && !isStar y))))))))) = true from h2)
        obtain ⟨k2', g3⟩ := ba2 g2
        obtain ⟨k3, g4⟩ := ba2 g3
        obtain ⟨k4, g5⟩ := ba2 g4
        obtain ⟨k5, g6⟩ := ba2 g5
        obtain ⟨k6, g7⟩ := ba2 g6
        obtain ⟨k7, g8⟩ := ba2 g7
        obtain ⟨k8, g9⟩ := ba2 g8
        obtain ⟨k9, k10⟩ := ba2 g9
        have k1 := of_decide_eq_true k1
        have k2' := of_decide_eq_true k2'
        have k3 := of_decide_eq_true k3
        have k4 := of_decide_eq_true k4
        have k5 := of_decide_eq_true k5
        have k7 := nt k7
        have k8 := nt k8
        have k9 := nt k9
        have k10 := nt k10
        have ne : (n == m) = false := by
          cases e : (n == m) with
          | false => rfl
          | true =>
            have e := eq_of_beq e
            subst e
            have nd := G.nd
            rw [G.N] at nd
            exact absurd (nodup_ix nd k2' k3) k1
        have sy : starEach [y] X.env = (false, eval y X.env) :: starEach [] X.env := star_cons k10
        have sx : starEach [x, y] X.env = (false, eval x X.env) :: starEach [y] X.env := star_cons k9
        refine s_par2 (G.calm (by rw [h1]; intro z; cases z)) G.nd (by rw [G.N]; exact k2') (by rw [G.N]; exact k3) k1 (by rw [G.nm]; exact k4) (by rw [G.nm]; exact k5) A B sx sy ?_ rfl
        have hb : X.env.blockKind = .function := by unfold Env.blockKind; rw [G.kind]; rfl
        have kn : X.env.kindOf n = some .local := by unfold Env.kindOf; rw [G.nm]; exact k4
        have km : X.env.kindOf m = some .local := by unfold Env.kindOf; rw [G.nm]; exact k5
        have nm2 : ¬ (m = n) := fun e => by rw [e] at ne; simp at ne
        have nm3 : ¬ (n = m) := fun e => nm2 e.symm
        have ln : pm.line = pn.line := eq_of_beq k6
        have fm : ∀ F : Expr → Option Str, F (.Name m pm) = some m → List.filterMap F [Expr.Name m pm] = [m] := fun F h => by simp [h]
        unfold swappedStores
        simp only [hb]
        simp [kn, km, k7, k8, k6, nm2, nm3, Expr.pos]
        rw [fm _ (by simp [km, ln]), if_neg]
        · have ed : ([n, m] : List Str).eraseDups = [n, m] := by
            have mn : (m == n) = false := by
              cases e : (m == n) with
              | false => rfl
              | true => exact absurd (eq_of_beq e) nm2
            simp [List.eraseDups, List.eraseDupsBy, List.eraseDupsBy.loop, ne, nm2, nm3]
            rw [mn]
          rw [ed]; simp
        · cases x <;> first | (cases k9; done) | (cases y <;> first | (cases k10; done) | simp)
      | _ => cases h2
    | _ => cases h2
  · cases h
theorem t_aug {i : Nat} {o : Operator} {e : E} (he : OkE M cf k e) : OkT M cf k (.aug i o e) := fun U X c x G h => by
  have h' : ∀ x, chkT M (.aug i o e) c x = (match x with
    | .AugAssign (.Name x _) op y _ => (decide (op = o) && (decide (o = .Add) || decide (o = .Sub))) && (decide (c.N[i]? = some x) && (locB c x && chkE M e c y))
    | _ => false) := fun _ => rfl
  rw [h'] at h
  clear h'
  split at h
  · rename_i x px op y ps
    obtain ⟨g1, g2⟩ := ba2 h
    obtain ⟨h1, h2⟩ := ba2 g1
    obtain ⟨h3, g3⟩ := ba2 g2
    obtain ⟨h4, h5⟩ := ba2 g3
    have h1 := of_decide_eq_true h1
    have A := (he U X c y G h5).1
    obtain ⟨l1, l2⟩ := G.loc h4
    clear h g1 g2 g3 h5
    subst h1
    simp only [Bool.or_eq_true, decide_eq_true_eq] at h2
    exact s_aug G.nd (by rw [G.N]; exact of_decide_eq_true h3) l1 A (ip_mi op h2) l2
  · cases h
theorem t_if {d : E} {a b : TL} (hd : OkE M cf k d) (ha : OkTL M cf k a) (hb : OkTL M cf k b) : OkT M cf k (.if_ d a b) := fun U X c x G h => by
  cases x with
  | If x y z p =>
    obtain ⟨h1, h2⟩ := ba2 (show (tb d && (chkE M d c x && (chkTL M a c y && chkTL M b c z))) = true from h)
    obtain ⟨h2, h3⟩ := ba2 h2
    obtain ⟨h3, h4⟩ := ba2 h3
    exact s_if ((hd U X c x G h2).2 h1).1 (ha U X c y G h3) (hb U X c z G h4)
  | _ => cases h
theorem for_eq {t : G} {kk : IK} {it : EL} {body : TL} {l : L} {S : Sto} : ex cf (.for_ t kk it body) l S = SR.thenR ((evs cf it l S).bind fun ws S => itR kk ws S) l fun xs S => forGo (fun x l S => SR.thenR (gt cf t (.pv x) l S).calm l fun l1 S => exs cf body l1 S) xs l S := by
  show SR.thenR (evs cf it l S) l _ = _
  cases evs cf it l S with
  | err x S => rfl
  | stuck => rfl
  | ok ws S1 =>
    show (match items kk ws with
      | some xs => _
      | none => .stuck) = SR.thenR (itR kk ws S1) l _
    unfold itR
    cases items kk ws <;> rfl
theorem t_for {t : G} {kk : IK} {it : EL} {body : TL} (ht : OkG M cf k t) (hi : OkI M cf k it) (hb : OkTL M cf k body) : OkT M cf k (.for_ t kk it body) := fun U X c x G h => by
  cases x with
  | For tg iter y els p =>
    cases els with
    | cons _ _ => cases h
    | nil =>
      obtain ⟨h1, g2⟩ := ba2 (show (decide (c.md = .top) && (!isSet iter && (chkI M kk it c tg iter && (chkG M t c tg && chkTL M body c y)))) = true from h)
      obtain ⟨h2, g3⟩ := ba2 g2
      obtain ⟨h3, g4⟩ := ba2 g3
      obtain ⟨h4, h5⟩ := ba2 g4
      have h1 := of_decide_eq_true h1
      have e : ex cf (.for_ t kk it body) = fun l S => SR.thenR ((evs cf it l S).bind fun ws S => itR kk ws S) l fun xs S => forGo (fun x l S => SR.thenR (gt cf t (.pv x) l S).calm l fun l1 S => exs cf body l1 S) xs l S := by
        funext l S; exact for_eq
      rw [e]
      exact s_for (f := fun l S => (evs cf it l S).bind fun ws S => itR kk ws S) (noset (nt h2)) (G.psO h1) (G.calm (by rw [h1]; intro z; cases z)) (hi U X c kk tg iter G h3) (ht U X c tg G h4) (hb U X c y G h5)
  | _ => cases h
theorem t_while {d : E} {body : TL} (hd : OkE M cf k d) (hb : OkTL M cf k body) : OkT M cf k (.while_ d body) := fun U X c x G h => by
  cases x with
  | While x y els p =>
    cases els with
    | cons _ _ => cases h
    | nil =>
      obtain ⟨h1, g2⟩ := ba2 (show (decide (c.md = .top) && (tb d && (chkE M d c x && chkTL M body c y))) = true from h)
      obtain ⟨h2, g3⟩ := ba2 g2
      obtain ⟨h3, h4⟩ := ba2 g3
      exact s_while cf.fuel (G.psO (of_decide_eq_true h1)) ((hd U X c x G h3).2 h2).1 (hb U X c y G h4)
  | _ => cases h
theorem t_raise {n : Str} {es : EL} : OkT M cf k (.raise n es) := fun U X c x G h => by
  cases es with
  | cons _ _ => cases h
  | nil =>
    have h' : ∀ x, chkT M (.raise n .nil) c x = (true && (match x with
      | .Raise (some (.Call (.Name y _) [] [] _)) none _ => decide (c.md = .top) && (decide (y = n) && (decide (n ∈ M.exc) && (glB c y && okn y)))
      | _ => false)) := fun _ => rfl
    rw [h', Bool.true_and] at h
    clear h'
    split at h
    · rename_i y p p2 ps
      obtain ⟨h1, g2⟩ := ba2 h
      obtain ⟨h2, g3⟩ := ba2 g2
      obtain ⟨h3, g4⟩ := ba2 g3
      obtain ⟨h4, h5⟩ := ba2 g4
      have h1 := of_decide_eq_true h1
      have h2 := of_decide_eq_true h2
      have h3 := of_decide_eq_true h3
      clear h g2 g3 g4
      subst h2
      obtain ⟨e1, e2⟩ := G.exc y h3
      have nh : c.md ≠ .hot := by rw [h1]; intro z; cases z
      exact s_raise (G.calm nh) (G.tk nh) e2 e1 (G.gl h4) (okn_ok h5).1
    · cases h
theorem handle_eq (x : Ex) (l : L) (S : Sto) : ∀ hs : HL, handle cf hs x l S = handleN cf.sub (hl cf hs) x l S
  | .nil => rfl
  | .cons n s r => by
    show (match cf.sub x.cls n with
      | some true => (exs cf s l S).calm
      | some false => handle cf r x l S
      | none => .stuck) = (match cf.sub x.cls n with
      | some true => (exs cf s l S).calm
      | some false => handleN cf.sub (hl cf r) x l S
      | none => .stuck)
    rw [handle_eq x l S r]
  | .named n i s r => by
    show (match cf.sub x.cls n with
      | some true => (exs cf s (l.set i none) S).calm.gone i
      | some false => handle cf r x l S
      | none => .stuck) = (match cf.sub x.cls n with
      | some true => (exs cf s (l.set i none) S).calm.gone i
      | some false => handleN cf.sub (hl cf r) x l S
      | none => .stuck)
    rw [handle_eq x l S r]
theorem t_try {body : TL} {hs : HL} (hb : OkTL M cf k body) (hh : OkH M cf k hs) : OkT M cf k (.try_ body hs) := fun U X c x G h => by
  have h' : ∀ x, chkT M (.try_ body hs) c x = (match x with
    | .Try y (h :: r) [] [] _ => decide (c.md = .top) && (chkTL M body c y && chkH M hs c (h :: r))
    | _ => false) := fun _ => rfl
  rw [h'] at h
  clear h'
  split at h
  · rename_i y h0 r ps
    obtain ⟨h1, g2⟩ := ba2 h
    obtain ⟨h2, h3⟩ := ba2 g2
    have h1 := of_decide_eq_true h1
    clear h g2
    have nh : c.md ≠ .hot := by rw [h1]; intro z; cases z
    have e : ex cf (.try_ body hs) = fun l S => match exs cf body l S with
      | .err x l1 S1 => handleN cf.sub (hl cf hs) x l1 S1
      | r => r := by
      funext l S
      show (match exs cf body l S with
      | .err x l1 S1 => handle cf hs x l1 S1
      | r => r) = _
      cases exs cf body l S <;> first | rfl | exact handle_eq _ _ _ _
    rw [e]
    exact s_tryN G.sub (G.top h1).1 (G.top h1).2 G.nd (G.tk nh) (fun W pn xe tk ps => hb W _ c y (G.tr h1 tk ps) h2) (hh U X c _ G h1 h3)
  · cases h
theorem h_nil : OkH M cf k .nil := fun U X c x G hm h => by
  cases x with
  | nil => exact .nil
  | cons _ _ => cases h
theorem h_cons {n : Str} {s : TL} {r : HL} (hs : OkTL M cf k s) (hr : OkH M cf k r) : OkH M cf k (.cons n s r) := fun U X c x G hm h => by
  have h' : ∀ x, chkH M (.cons n s r) c x = (match x with
    | .ExceptHandler (some (.Name y _)) none (b :: bs) _ :: xs => decide (y = n) && (decide (n ∈ M.exc) && (glB c y && (okn y && (chkTL M s { c with md := .hot, fb := c.sc } (b :: bs) && chkH M r c xs))))
    | _ => false) := fun _ => rfl
  rw [h'] at h
  clear h'
  split at h
  · rename_i y p b bs ps xs
    obtain ⟨h1, g2⟩ := ba2 h
    obtain ⟨h2, g3⟩ := ba2 g2
    obtain ⟨h3, g4⟩ := ba2 g3
    obtain ⟨h4, g5⟩ := ba2 g4
    obtain ⟨h5, h6⟩ := ba2 g5
    have h1 := of_decide_eq_true h1
    have h2 := of_decide_eq_true h2
    clear h g2 g3 g4 g5
    subst h1
    obtain ⟨e1, e2⟩ := G.exc y h2
    exact ClOk.plain ⟨G.gl h3, (okn_ok h4).1, .inl e1⟩ (fun a pn => hs E0 _ _ _ (G.suite hm a pn) h5) (hr U X c xs G hm h6)
  · cases h
theorem h_named {n : Str} {i : Nat} {s : TL} {r : HL} (hs : OkTL M cf k s) (hr : OkH M cf k r) : OkH M cf k (.named n i s r) := fun U X c x G hm h => by
  have h' : ∀ x, chkH M (.named n i s r) c x = (match x with
    | .ExceptHandler (some (.Name y _)) (some z) (b :: bs) _ :: xs => decide (y = n) && (decide (n ∈ M.exc) && (glB c y && (okn y && (decide (c.N[i]? = some z) && (decide (c.sc.lookup z = some .local) && (chkTL M s { c with md := .hot, fb := c.sc } (b :: bs) && chkH M r c xs))))))
    | _ => false) := fun _ => rfl
  rw [h'] at h
  clear h'
  split at h
  · rename_i y p z b bs ps xs
    obtain ⟨h1, g2⟩ := ba2 h
    obtain ⟨h2, g3⟩ := ba2 g2
    obtain ⟨h3, g4⟩ := ba2 g3
    obtain ⟨h4, g5⟩ := ba2 g4
    obtain ⟨h5, g6⟩ := ba2 g5
    obtain ⟨h6, g7⟩ := ba2 g6
    obtain ⟨h7, h8⟩ := ba2 g7
    have h1 := of_decide_eq_true h1
    have h2 := of_decide_eq_true h2
    clear h g2 g3 g4 g5 g6 g7
    subst h1
    obtain ⟨e1, e2⟩ := G.exc y h2
    exact ClOk.named ⟨G.gl h3, (okn_ok h4).1, .inl e1⟩ (by rw [G.N]; exact of_decide_eq_true h5) (by unfold Env.kindOf; rw [G.nm]; exact of_decide_eq_true h6) (fun a pn => hs E0 _ _ _ (G.suite hm a pn) h7) (hr U X c xs G hm h8)
  · cases h
theorem tl_nil : OkTL M cf k .nil := fun U X c x G h => by
  cases x with
  | nil => exact ss_nil
  | cons _ _ => cases h
theorem tl_cons {t : T} {r : TL} (ht : OkT M cf k t) (hr : OkTL M cf k r) : OkTL M cf k (.cons t r) := fun U X c x G h => by
  cases x with
  | nil => cases h
  | cons x xs =>
    obtain ⟨h1, h2⟩ := ba2 (show (chkT M t c x && chkTL M r c xs) = true from h)
    exact ss_cons (ht U X c x G h1) (hr U X c xs G h2)
end
section
variable (M : Tab) (cf : Cf) (k : Nat)
mutual
theorem okG : ∀ t : G, OkG M cf k t
  | .nm i => tg_nm
  | .tup ts => tg_tup (okGs ts)
  | .sub o i => tg_sub (okE M cf k o) (okE M cf k i)
theorem okGs : ∀ t : GL, OkGs M cf k t
  | .nil => tgs_nil
  | .cons t r => tgs_cons (okG t) (okGs r)
end
mutual
theorem okT : ∀ t : T, OkT M cf k t
  | .pass => t_pass
  | .brk => t_brk
  | .cont => t_cont
  | .retn => t_retn
  | .ret e => t_ret (okE M cf k e)
  | .expr e => t_expr (okE M cf k e)
  | .asg t e => t_asg (okG M cf k t) (okE M cf k e) (fun tt kk it ifs elt own _ => ⟨okGw M cf k tt, okI M cf k it, okIf M cf k ifs, okE M cf k elt⟩) (fun tt kk it ifs ke ve own _ => ⟨okGw M cf k tt, okI M cf k it, okIf M cf k ifs, okE M cf k ke, okE M cf k ve⟩) fun tt kk it ifs t1 k1 it1 ifs1 elt own own1 _ => ⟨okGw M cf k tt, okI M cf k it, okIf M cf k ifs, okGw M cf k t1, okI M cf k it1, okIf M cf k ifs1, okE M cf k elt⟩
  | .par2 i j a b => t_par2 (okE M cf k a) (okE M cf k b)
  | .aug i o e => t_aug (okE M cf k e)
  | .if_ d a b => t_if (okE M cf k d) (okTL a) (okTL b)
  | .for_ t kk it body => t_for (okG M cf k t) (okI M cf k it) (okTL body)
  | .while_ d body => t_while (okE M cf k d) (okTL body)
  | .raise n es => t_raise
  | .try_ body hs => t_try (okTL body) (okH hs)
theorem okTL : ∀ t : TL, OkTL M cf k t
  | .nil => tl_nil
  | .cons t r => tl_cons (okT t) (okTL r)
theorem okH : ∀ t : HL, OkH M cf k t
  | .nil => h_nil
  | .cons n s r => h_cons (okTL s) (okH r)
  | .named n i s r => h_named (okTL s) (okH r)
end
end
end Mi
set_option Elab.async false
set_option linter.all false
set_option maxRecDepth 100000
set_option autoImplicit false
/-! Mi: every def of a checked text keeps its promise, to any depth. -/
namespace Mi
open PySem PySem.Spec L2
/-! ### binding -/
theorem lookup_zip {α : Type} : ∀ (ps : List Str) (us : List α), us.length = ps.length → ps.Nodup → (∀ n ∈ ps, ((ps.zip us).lookup n).isNone = false) ∧ ps.filterMap (fun n => ((ps.zip us).lookup n).map (n, ·)) = ps.zip us
  | [], us, h, _ => ⟨fun n h => (nomatch h), by cases us with
    | nil => rfl
    | cons _ _ => cases h⟩
  | p :: ps, [], h, _ => by cases h
  | p :: ps, u :: us, h, nd => by
    rw [List.nodup_cons] at nd
    obtain ⟨a, b⟩ := lookup_zip ps us (Nat.succ.inj h) nd.2
    refine ⟨fun n hn => ?_, ?_⟩
    · rw [List.zip_cons_cons, List.lookup_cons]
      cases e : (n == p) with
      | true => rfl
      | false =>
        rcases List.mem_cons.mp hn with rfl | hn
        · simp at e
        · exact a n hn
    · rw [List.zip_cons_cons, List.filterMap_cons]
      have : List.lookup p ((p, u) :: ps.zip us) = some u := by simp [List.lookup_cons]
      rw [this]
      show (p, u) :: _ = _
      congr 1
      have cg : ∀ (qs : List Str), p ∉ qs → qs.filterMap (fun n => (List.lookup n ((p, u) :: ps.zip us)).map (n, ·)) = qs.filterMap (fun n => (List.lookup n (ps.zip us)).map (n, ·)) := by
        intro qs
        induction qs with
        | nil => intro _; rfl
        | cons q qs ih =>
          intro hp
          rw [List.mem_cons, not_or] at hp
          have e : (q == p) = false := by
            cases e : (q == p) with
            | false => rfl
            | true => exact absurd (eq_of_beq e).symm hp.1
          rw [List.filterMap_cons, List.filterMap_cons, ih hp.2, List.lookup_cons, e]
      rw [cg ps nd.1, b]
theorem binds_n {x qual : Str} {as : List Arg} {body : List Stmt} {scope : Scope} {kV doc pm : Value} {an : Option Addr} {cdv ct : Value} {us : List Value} (h : us.length = as.length) (nd : (as.map (·.arg)).Nodup) :
    bindArgs (PySem.W.fnOf x qual ⟨[], as, none, [], [], none, []⟩ body scope .none kV doc pm an cdv ct) ⟨us, []⟩ = pure ((as.map (·.arg)).zip us) := by
  have hl : us.length = (as.map (·.arg)).length := by simpa using h
  obtain ⟨a, b⟩ := lookup_zip (as.map (·.arg)) us hl nd
  have f : ∀ j, ((List.take j (as.map (·.arg))).filter fun n => (((as.map (·.arg)).zip us).lookup n).isNone) = [] := by
    intro j
    rw [List.filter_eq_nil_iff]
    intro n hn
    rw [a n (List.mem_of_mem_take hn)]
    decide
  have hn : notAStandIn Value.none = pure () := rfl
  have b' : List.filterMap ((fun n => Option.map (fun x => (n, x)) (List.lookup n ((List.map (fun x => x.arg) as).zip us))) ∘ fun x => x.arg) as = (List.map (fun x => x.arg) as).zip us := by
    rw [← List.filterMap_map]; exact b
  unfold bindArgs
  simp [PySem.W.fnOf, seqItems?, h, hn, b']
  intro n hn hno
  have q := a n (List.mem_of_mem_take hn)
  cases e : List.lookup n ((as.map (·.arg)).zip us) with
  | none => rw [e] at q; cases q
  | some v => exact absurd (PySem.mem_of_lookup e) (hno v)

/-! ### the defs of a text -/
def fnScB (N ps : List Str) (sc : Scope) : Bool := (match sc.kind with | .function => true | _ => false) && (!sc.isCoroutine && (!sc.isGenerator && (decide N.Nodup && (decide (N.take ps.length = ps) &&
  ((ps.all fun x => decide (sc.names.lookup x = some .local) || decide (sc.names.lookup x = some .cell)) && (sc.names.all fun y => match y.2 with | .free => false | _ => true))))))
theorem fnSc_ok {N ps : List Str} {sc : Scope} (h : fnScB N ps sc = true) : FnScope N ps sc := by
  obtain ⟨h1, g⟩ := ba2 h
  obtain ⟨h2, g⟩ := ba2 g
  obtain ⟨h3, g⟩ := ba2 g
  obtain ⟨h4, g⟩ := ba2 g
  obtain ⟨h5, g⟩ := ba2 g
  obtain ⟨h6, h7⟩ := ba2 g
  refine ⟨?_, nt h2, nt h3, of_decide_eq_true h4, of_decide_eq_true h5, fun x hx => ?_, fun y hy e => ?_⟩
  · cases q : sc.kind <;> rw [q] at h1 <;> first | rfl | cases h1
  · have := List.all_eq_true.mp h6 x hx
    simp only [Bool.or_eq_true, decide_eq_true_eq] at this
    exact this
  · have := List.all_eq_true.mp h7 y hy
    rw [e] at this; cases this
/-- a plain list of parameters -/
def argsB (a : Arguments) (ps : List Str) : Bool := match a with
  | ⟨[], as, none, [], [], none, []⟩ => decide (as.map (·.arg) = ps)
  | _ => false
/-- a def against its small text -/
def chkFn (M : Tab) (fn : Fn) (d : He.DefD) : Bool := decide (d.at_ = (fn.name, none)) && (d.dfl.isEmpty && (d.kwd.isEmpty && (decide fn.params.Nodup && (argsB d.params fn.params && (fnScB fn.names fn.params d.scope && chkTL M fn.body ⟨d.scope.names, fn.names, .top, []⟩ d.body)))))
/-- what the head tells of a text -/
structure Link (M : Tab) (sub : Str → Str → Option Bool) (K : PySem.W.Frag) (mg : Str → Option Value) : Prop where
  cst : ∀ (x : Str) (p : P), M.consts.lookup x = some p → ∃ u v, mg x = some u ∧ RelV v u ∧ ∀ H B, Rp K H B v p
  free : ∀ (x : Str), x ∈ M.free → mg x = none
  exc : ∀ (x : Str), x ∈ M.exc → mg x = some (.ref (He.ga K x)) ∧ (He.Fa.exc x).ok K = true
  subs : ∀ (x y : Str) (b : Bool), sub x y = some b → PySem.W.exmOne K (.ref (He.ga K x)) (.ref (He.ga K y)) = some b
  defs : ∀ (f : Nat) (fn : Fn), M.fns[f]? = some fn → mg fn.name = some (.ref (He.ga K fn.name)) ∧ ∃ (d : He.DefD) (fd : FuncData), chkFn M fn d = true ∧ FunD K d.name d.qual d.params d.body d.scope (d.dvs K) (d.kws K) (He.fAd K d.at_) fd
/-- one def -/
theorem def_ok {M : Tab} {sub : Str → Str → Option Bool} {K : PySem.W.Frag} {mg : Str → Option Value} (Lk : Link M sub K mg) {f : Nat} {fn : Fn} (hf : M.fns[f]? = some fn) :
    ∃ (qual : Str) (name : Str) (params : Arguments) (body : List Stmt) (scope : Scope) (fd : FuncData), FunD K name qual params body scope [] [] (He.ga K fn.name) fd ∧ FnScope fn.names fn.params scope ∧ Binds K fd fn.params [] ∧ PySem.W.keepIn K (.ref (He.ga K fn.name)) = true ∧
      mg fn.name = some (.ref (He.ga K fn.name)) ∧ chkTL M fn.body ⟨scope.names, fn.names, .top, []⟩ body = true ∧ (∀ (s : Shared) (us : List Value), us.length = fn.params.length → BindsTo s fd ⟨us, []⟩ (fn.params.zip us)) ∧ ∃ oc od osl, K.lookup (He.ga K fn.name) = some ⟨oc, od, .func fd, osl⟩ := by
  obtain ⟨hg, d, fd, hc, F⟩ := Lk.defs f fn hf
  obtain ⟨h1, g⟩ := ba2 hc
  obtain ⟨h2, g⟩ := ba2 g
  obtain ⟨h3, g⟩ := ba2 g
  obtain ⟨h4, g⟩ := ba2 g
  obtain ⟨h5, g⟩ := ba2 g
  obtain ⟨h6, h7⟩ := ba2 g
  have e1 : He.fAd K d.at_ = He.ga K fn.name := by rw [of_decide_eq_true h1]; rfl
  have e2 : d.dvs K = [] := by
    unfold He.DefD.dvs
    rw [List.isEmpty_iff.mp h2]; rfl
  have e3 : d.kws K = [] := by
    unfold He.DefD.kws
    rw [List.isEmpty_iff.mp h3]; rfl
  rw [e1, e2, e3] at F
  have h4 := of_decide_eq_true h4
  have bs : ∀ (kV doc pm : Value) (an : Option Addr) (cdv ct : Value) (us : List Value), us.length = fn.params.length → bindArgs (PySem.W.fnOf d.name d.qual d.params d.body d.scope .none kV doc pm an cdv ct) ⟨us, []⟩ = pure (fn.params.zip us) := by
    intro kV doc pm an cdv ct us hl
    revert h5
    generalize d.params = ag
    intro h5
    unfold argsB at h5
    split at h5
    · rename_i as
      have e := of_decide_eq_true h5
      rw [← e]
      exact binds_n (by rw [hl, ← e, List.length_map]) (by rw [e]; exact h4)
    · cases h5
  exact ⟨d.qual, d.name, d.params, d.body, d.scope, fd, F, fnSc_ok h6, F.bindsN bs, F.kp, hg, h7, fun s us hl => F.bindsA bs s us hl, by
    obtain ⟨oc, od, dV, kV, doc, pm, an, cdv, ct, osl, rfl, lk, _⟩ := F.ex
    exact ⟨oc, od, osl, lk⟩⟩
theorem start_lr {K : PySem.W.Frag} {w : Wd} {fn : Fn} {vs : List V} {ws : List W} (r : Rvs K w vs ws) : Lr K w (L2.start fn.names vs) (startL fn ws) := by
  have hl := Rvs.length r
  unfold L2.start startL
  refine ⟨by simp [hl], fun i x q => ?_⟩
  by_cases hi : i < ws.length
  · rw [List.getElem?_append_left (by simpa using hi)] at q
    rw [List.getElem?_map] at q
    cases e : ws[i]? with
    | none => rw [e] at q; cases q
    | some y =>
      rw [e] at q; cases q
      obtain ⟨v, e2, r2⟩ := Rvs.get r e
      exact ⟨v, by rw [List.getElem?_append_left (by simpa [hl] using hi), List.getElem?_map, e2]; rfl, r2⟩
  · rw [List.getElem?_append_right (by simpa using hi), List.getElem?_replicate] at q
    split at q <;> cases q
/-- THE RULE: every def, to a depth -/
theorem fns_ok {P : Program} {w : World} {M : Tab} {sub : Str → Str → Option Bool} {K : PySem.W.Frag} {mg : Str → Option Value} {base : Heap} (fuel : Nat) (Lk : Link M sub K mg) : ∀ (n f : Nat) (fn : Fn), M.fns[f]? = some fn →
    ∃ fd, FnOk P w K mg base (L2.CX P w) n (He.ga K fn.name) fd fn.params (spMi K (run M.fns sub fuel n f) fn.params.length) ∧ Binds K fd fn.params [] ∧ mg fn.name = some (.ref (He.ga K fn.name)) ∧ PySem.W.keepIn K (.ref (He.ga K fn.name)) = true ∧ (∀ (s : Shared) (us : List Value), us.length = fn.params.length → BindsTo s fd ⟨us, []⟩ (fn.params.zip us)) ∧ ∃ oc od osl, K.lookup (He.ga K fn.name) = some ⟨oc, od, .func fd, osl⟩
  | 0, f, fn, hf => by
    obtain ⟨qual, name, params, body, scope, fd, F, S, hb, hk, hg, hc, hA⟩ := def_ok Lk hf
    exact ⟨fd, ⟨fun vs H Q E h => by obtain ⟨_, _, _, _, _, e, _⟩ := h; exact e, fun A outer s H args us vs Q E _ _ _ _ h => by obtain ⟨_, _, _, _, _, _, z⟩ := h; exact z.elim⟩, hb, hg, hk, hA⟩
  | n + 1, f, fn, hf => by
    obtain ⟨qual, name, params, body, scope, fd, F, S, hb, hk, hg, hc, hA⟩ := def_ok Lk hf
    refine ⟨fd, ?_, hb, hg, hk, hA⟩
    refine F.ok S (fun vs H Q E h => by obtain ⟨_, _, _, _, _, e, _⟩ := h; exact e) fun cdv A outer s H vs Q E hr hsp => ?_
    obtain ⟨w0, ws, eH, ok, rv, hl, h⟩ := hsp
    let cf : Cf := ⟨fuel, run M.fns sub fuel n, sub⟩
    let X := cxOf (L2.CX P w) P w K mg base fn.names qual scope (He.ga K fn.name) cdv A outer s H E
    have G : Good M cf n (fun cls d _ H => E cls d H) X ⟨scope.names, fn.names, .top, []⟩ := {
      cst := Lk.cst
      free := Lk.free
      exc := Lk.exc
      fns := fun f fn hf => by
        obtain ⟨fd, a1, a2, a3, a4, _⟩ := fns_ok (P := P) (w := w) (base := base) fuel Lk n f fn hf
        exact ⟨fd, a1, a2, a3, a4⟩
      sub := Lk.subs
      nm := rfl
      kind := S.kind
      N := rfl
      nd := S.nd
      hu := by
        have := hr.un
        show (A.deeper _).units + 65 < cLine
        omega
      fn := fun _ _ => rfl
      psO := fun _ => passes_of rfl
      calm := fun _ => rfl
      room := fun _ => hr
      tk := fun _ => takes_of rfl rfl rfl rfl
      top := fun _ => ⟨rfl, rfl⟩ }
    have B := okTL M cf n fn.body _ X _ body G hc
    refine ⟨_, B, w0, startL fn ws, eH, ok, start_lr rv, ?_⟩
    have hw : ws.length = fn.params.length := by rw [← Rvs.length rv]; exact hl
    have e : run M.fns sub fuel (n + 1) f ws w0.S = match exs cf fn.body (startL fn ws) w0.S with
      | .nx _ S => .ok (.pv .none) S
      | .rt w S => .ok w S
      | .err x _ S => .err x S
      | _ => .stuck := by
      show (match M.fns[f]? with
        | some fn => runFn cf fn ws w0.S
        | none => .stuck) = _
      rw [hf]
      show runFn cf fn ws w0.S = _
      unfold runFn
      refine (if_pos hw).trans ?_
      cases exs cf fn.body (startL fn ws) w0.S <;> rfl
    rw [e] at h
    cases q : exs cf fn.body (startL fn ws) w0.S with
    | nx l S =>
      rw [q] at h
      exact fun w' σ' a b c d => h w' .non a b c .non
    | rt x S =>
      rw [q] at h
      exact h
    | err x l S =>
      rw [q] at h
      exact fun w' σ' cls d a1 a2 a3 a4 a5 => h w' cls d a1 a2 a3 a5
    | bk l S => rw [q] at h; exact h.elim
    | ct l S => rw [q] at h; exact h.elim
    | stuck => rw [q] at h; exact h.elim
end Mi
set_option Elab.async false
set_option linter.all false
set_option maxRecDepth 100000
set_option autoImplicit false
/-! Mi: what a program's head leaves, as a Link; the law's promise. -/
namespace Mi
open PySem PySem.Spec L2
/-! ### constants of the module -/
mutual
def repB (K : PySem.W.Frag) : P → Value → Bool
  | .none => fun u => match u with
    | .none => true
    | _ => false
  | .bool b => fun u => match u with
    | .bool c => b == c
    | _ => false
  | .int i => fun u => match u with
    | .int j _ => decide (i = j)
    | _ => false
  | .str x => fun u => match u with
    | .str y _ => decide (x = y)
    | _ => false
  | .tuple ps => fun u => match u with
    | .ref a => (match K.lookup a with
      | some ⟨.type c, _, .seq its _, _⟩ => decide (c = "tuple") && (decide (its.size ≤ sizeLine) && repBs K ps its.toList)
      | _ => false)
    | _ => false
  | .list _ => fun _ => false
  | .dict _ => fun _ => false
def repBs (K : PySem.W.Frag) : List P → List Value → Bool
  | [] => fun us => us.isEmpty
  | p :: ps => fun us => match us with
    | u :: us => repB K p u && repBs K ps us
    | [] => false
end
mutual
theorem repB_ok {K : PySem.W.Frag} : ∀ (p : P) (u : Value), repB K p u = true → ∃ v, RelV v u ∧ ∀ H B, Rp K H B v p
  | .none, u, h => by
    cases u with
    | none => exact ⟨.non, rfl, fun _ _ => .non⟩
    | _ => cases h
  | .bool b, u, h => by
    cases u with
    | bool c =>
      have e := eq_of_beq (show (b == c) = true from h)
      subst e
      exact ⟨.bl b, rfl, fun _ _ => .bl b⟩
    | _ => cases h
  | .int i, u, h => by
    cases u with
    | int j t =>
      have e := of_decide_eq_true (show decide (i = j) = true from h)
      subst e
      exact ⟨.int i, ⟨t, rfl⟩, fun _ _ => .int i⟩
    | _ => cases h
  | .str x, u, h => by
    cases u with
    | str y t =>
      have e := of_decide_eq_true (show decide (x = y) = true from h)
      subst e
      exact ⟨.str x, ⟨t, rfl⟩, fun _ _ => .str x⟩
    | _ => cases h
  | .tuple ps, u, h => by
    cases u with
    | ref a =>
      have h : (match K.lookup a with
        | some ⟨.type c, _, .seq its _, _⟩ => decide (c = "tuple") && (decide (its.size ≤ sizeLine) && repBs K ps its.toList)
        | _ => false) = true := h
      cases q : K.lookup a with
      | none => rw [q] at h; cases h
      | some o =>
        obtain ⟨oc, od, dt, os⟩ := o
        rw [q] at h
        cases oc with
        | type c =>
          cases dt with
          | seq its n =>
            obtain ⟨h1, h2⟩ := ba2 (show (decide (c = "tuple") && (decide (its.size ≤ sizeLine) && repBs K ps its.toList)) = true from h)
            obtain ⟨h2, h3⟩ := ba2 h2
            obtain ⟨vs, r1, r2⟩ := repBs_ok ps its.toList h3
            exact ⟨.ref a, rfl, fun H B => .tup (.inr ⟨_, its, n, q, by rw [of_decide_eq_true h1], rfl, of_decide_eq_true h2, r1⟩) trivial (r2 H B)⟩
          | _ => cases h
        | _ => cases dt <;> cases h
    | _ => cases h
  | .list _, u, h => by cases h
  | .dict _, u, h => by cases h
theorem repBs_ok {K : PySem.W.Frag} : ∀ (ps : List P) (us : List Value), repBs K ps us = true → ∃ vs, Vals vs us ∧ ∀ H B, RpAll K H B vs ps
  | [], us, h => by
    cases us with
    | nil => exact ⟨[], .nil, fun _ _ => .nil⟩
    | cons _ _ => cases h
  | p :: ps, us, h => by
    cases us with
    | nil => cases h
    | cons u us =>
      obtain ⟨h1, h2⟩ := ba2 (show (repB K p u && repBs K ps us) = true from h)
      obtain ⟨v, r1, r2⟩ := repB_ok p u h1
      obtain ⟨vs, r3, r4⟩ := repBs_ok ps us h2
      exact ⟨v :: vs, .cons r1 r3, fun H B => .cons (r2 H B) (r4 H B)⟩
end
/-- a constant of the module as it lies -/
def cstK (K : PySem.W.Frag) (c : Str × P) : Bool := match PySem.W.nsIn K mainGlobals c.1 with
  | some (some u) => repB K c.2 u
  | _ => false
/-! ### the Hook: facts, constants, defs -/
abbrev AlM : Type := Bool × He.AlD
def obsM (cs : List (Str × P)) (fa : List He.Fa) (ds : List He.DefD) (K : PySem.W.Frag) : AlM := (cs.all (cstK K), He.obsD fa ds K)
def obsMG (n : Nat) (cs : List (Str × P)) (fa : List He.Fa) (ds : List He.DefD) (g : Addr → Option Obj) : AlM := obsM cs fa ds (He.frG g (He.asD g n))
def hookM (n : Nat) (cs : List (Str × P)) (fa : List He.Fa) (ds : List He.DefD) : PySem.W.Hook where
  α := AlM
  obs s := obsMG n cs fa ds s.heap.get?
  val _ := (true, He.valD ds)
  says _ h := ∃ K : PySem.W.Frag, K.In h ∧ obsM cs fa ds K = (true, He.valD ds)
  of _ _ e := ⟨_, He.frG_in, e⟩
  keeps _ _ _ h k := let ⟨K, a, b⟩ := h; ⟨K, a.keeps k, b⟩
theorem obsMG_eq {n : Nat} {cs : List (Str × P)} {fa : List He.Fa} {ds : List He.DefD} {g : Addr → Option Obj} {s : Shared} (h : ∀ a, g a = s.heap.get? a) : obsMG n cs fa ds g = (hookM n cs fa ds).obs s := by
  rw [show g = s.heap.get? from funext h]; rfl
/-! ### the facts that a Link asks -/
def exmOf (ex : List (Str × Str × Bool)) : List He.Fa := ex.map fun p => .exm p.1 p.2.1 p.2.2
def faOf (M : Tab) (ex : List (Str × Str × Bool)) : List He.Fa := (M.fns.map fun fn => .glo fn.name) ++ ((M.free.map .free) ++ ((M.exc.map .glo) ++ ((M.exc.map .exc) ++ exmOf ex)))
theorem subOf_mem {x y : Str} {b : Bool} : ∀ {ex : List (Str × Str × Bool)}, subOf ex x y = some b → (x, y, b) ∈ ex
  | [], h => by cases h
  | (a, c, k) :: r, h => by
    unfold subOf at h
    split at h
    · rename_i e
      obtain ⟨rfl, rfl⟩ := e
      cases h
      exact List.mem_cons_self
    · exact List.mem_cons_of_mem _ (subOf_mem h)
theorem lookup_mem {x : Str} {p : P} {cs : List (Str × P)} (h : cs.lookup x = some p) : (x, p) ∈ cs := PySem.mem_of_lookup h
/-- all defs checked against their small texts -/
def chkAll (M : Tab) : List Fn → List He.DefD → Bool
  | [], [] => true
  | fn :: fs, d :: ds => chkFn M fn d && chkAll M fs ds
  | _, _ => false
theorem chkAll_at {M : Tab} : ∀ {fs : List Fn} {ds : List He.DefD}, chkAll M fs ds = true → ∀ (f : Nat) (fn : Fn), fs[f]? = some fn → ∃ d, ds[f]? = some d ∧ chkFn M fn d = true
  | [], [], _, f, fn, e => by simp at e
  | fn :: fs, d :: ds, h, f, fn', e => by
    obtain ⟨h1, h2⟩ := ba2 (show (chkFn M fn d && chkAll M fs ds) = true from h)
    cases f with
    | zero => simp at e; subst e; exact ⟨d, rfl, h1⟩
    | succ f => exact chkAll_at h2 f fn' (by simpa using e)
  | [], _ :: _, h, _, _, _ => by cases h
  | _ :: _, [], h, _, _, _ => by cases h
theorem link_ok {M : Tab} {ex : List (Str × Str × Bool)} {ds : List He.DefD} {K : PySem.W.Frag} {h : Heap} {mg : Str → Option Value} (X : K.In h) (G : h.Ns mainGlobals mg) (c : obsM M.consts (faOf M ex) ds K = (true, He.valD ds)) (hc : chkAll M M.fns ds = true) : Link M (subOf ex) K mg := by
  have c1 : M.consts.all (cstK K) = true := congrArg (·.1) c
  have c2 : He.SaysD (faOf M ex) ds K := show He.obsD (faOf M ex) ds K = He.valD ds from congrArg (fun z : AlM => z.2) c
  have fact : ∀ f ∈ faOf M ex, f.ok K = true := fun f hf => by
    obtain ⟨i, hi⟩ := List.mem_iff_getElem?.mp hf
    exact c2.fact i hi
  refine ⟨fun x p hp => ?_, fun x hx => ?_, fun x hx => ⟨?_, ?_⟩, fun x y b e => ?_, fun f fn e => ⟨?_, ?_⟩⟩
  · have q := List.all_eq_true.mp c1 (x, p) (lookup_mem hp)
    unfold cstK at q
    dsimp only at q
    cases e : PySem.W.nsIn K mainGlobals x with
    | none => rw [e] at q; cases q
    | some o =>
      rw [e] at q
      cases o with
      | none => cases q
      | some u =>
        obtain ⟨v, r1, r2⟩ := repB_ok p u q
        exact ⟨u, v, PySem.W.mg_of X G e, r1, r2⟩
  · exact He.free_ok X G (fact (.free x) (by unfold faOf; simp [hx]))
  · exact He.glo_ok X G (fact (.glo x) (by unfold faOf; simp [hx]))
  · exact fact (.exc x) (by unfold faOf; simp [hx])
  · exact He.exm_ok (fact (.exm x y b) (List.mem_append_right _ (List.mem_append_right _ (List.mem_append_right _ (List.mem_append_right _ (List.mem_map.mpr ⟨(x, y, b), subOf_mem e, rfl⟩))))))
  · exact He.glo_ok X G (fact (.glo fn.name) (by
      have := List.mem_of_getElem? e
      unfold faOf
      simp
      exact .inl ⟨fn, this, rfl⟩))
  · obtain ⟨d, hd, h2⟩ := chkAll_at hc f fn e
    obtain ⟨fd, F⟩ := c2.def_ f hd
    exact ⟨d, fd, h2, F⟩
/-! ### the law's promise -/
/-- nothing is let out: in no world -/
theorem fn_calm {P : Program} {w : World} {K : PySem.W.Frag} {mg : Str → Option Value} {base : Heap} {k : Nat} {f : Addr} {fd : FuncData} {ps : List Str} {sp : Sp} (F : FnOk P w K mg base (L2.CX P w) k f fd ps sp) : FnOk P w K mg base CX0 k f fd ps fun vs H Q _ => sp vs H Q fun _ _ _ => False :=
  ⟨fun vs H Q _ h => F.len vs H Q _ h, fun A outer s H args us vs Q E hr he hb hv hs => codeAny_mono (F.run A outer s H args us vs Q _ hr he hb hv hs) fun r s' h => by
    cases r with
    | ok fl => cases fl <;> exact h
    | error e =>
      obtain ⟨_, _, _, _, _, _, _, _, _, _, _, _, z⟩ := (show L2.CX P w outer H s (fun _ _ _ => False) e s' from h)
      exact z.elim⟩
def spLaw (K : PySem.W.Frag) (r : List W → Sto → R W) : Sp := fun vs H Q _ => spMi K r 1 vs H Q fun _ _ _ => False
/-- what the law answers, from its meaning -/
theorem law_says {K : PySem.W.Frag} {r : List W → Sto → R W} {H : Hp} {a : Addr} {ns : List Int} (hr : ∃ S, r [.sc ns] [] = .ok (.pv (.bool true)) S) (h : SqL K H a (ns.map V.int)) (E : XK) : spLaw K r [.ref a] H (fun v _ => v = .bl true) E := by
  refine ⟨⟨H, [], [], fun _ => False⟩, [.sc ns], rfl, ⟨rfl, fun i j a o o' h => (nomatch h), fun n a o h => (nomatch h), fun a h => h.elim, fun a ⟨n, o, h, _⟩ => (nomatch h)⟩, .cons ⟨a, rfl, SqLB.of h ?_⟩ .nil, rfl, ?_⟩
  · rintro (⟨n, o, h, _⟩ | h)
    · cases h
    · exact h
  · obtain ⟨S, e⟩ := hr
    show After K _ (Rv K) (r [.sc ns] []) _ [] _
    rw [e]
    intro w' v _ _ _ h4
    cases h4
    rfl
/-- a def of the text as the Hook takes it -/
def dOf (st : Stmt) : He.DefD := match st with
  | .FunctionDef n a b _ _ _ sc _ _ _ => ⟨(n, none), n, n, a, b, sc, [], []⟩
  | _ => ⟨(Str.empty, none), Str.empty, Str.empty, ⟨[], [], none, [], [], none, []⟩, [], ⟨.function, [], false, false, []⟩, [], []⟩
/-- THE END: what walk_ofE asks -/
theorem ends {M : Tab} {ex : List (Str × Str × Bool)} {ds : List He.DefD} {P : Program} {w : World} {K : PySem.W.Frag} {h : Heap} {mg : Str → Option Value} {fa : Addr} {f : Nat} {fn : Fn} {x : Str} (fuel n most : Nat) (X : K.In h) (G : h.Ns mainGlobals mg) (c : obsM M.consts (faOf M ex) ds K = (true, He.valD ds)) (hc : chkAll M M.fns ds = true)
    (hf : M.fns[f]? = some fn) (hp : fn.params = [x]) (hm : mg fn.name = some (.ref fa)) (hr : ∀ ns : List Int, ns.length ≤ most → ∃ S, run M.fns (subOf ex) fuel n f [.sc ns] [] = .ok (.pv (.bool true)) S) :
    ∃ (K : PySem.W.Frag) (fd : FuncData) (sp : Sp), K.In h ∧ (∀ (s : Shared) (u : Value), BindsTo s fd ⟨[u], []⟩ [(x, u)]) ∧ (∀ (H : Hp) (a : Addr) (ns : List Int), ns.length ≤ most → Only H → SqL K H a (ns.map V.int) → sp [.ref a] H (fun v _ => v = .bl true) fun _ _ _ => False) ∧
      ∀ base : Heap, K.In base → base.Ns mainGlobals mg → FnOk P w K mg base CX0 n fa fd [x] sp := by
  have Lk := link_ok X G c hc
  obtain ⟨qual, name, params, body, scope, fd, F, S, hb, hk, hg, hcb, hA, oc, od, os, lk⟩ := def_ok Lk hf
  have e : fa = He.ga K fn.name := by
    rw [hg] at hm
    cases hm; rfl
  subst e
  refine ⟨K, fd, spLaw K (run M.fns (subOf ex) fuel n f), X, fun s u => ?_, fun H a ns hl _ hS => law_says (hr ns hl) hS _, fun base _ _ => ?_⟩
  · have := hA s [u] (by rw [hp]; rfl)
    rw [hp] at this
    exact this
  · obtain ⟨fd', a1, a2, a3, a4, a5, oc', od', os', lk'⟩ := fns_ok (P := P) (w := w) (base := base) fuel Lk n f fn hf
    rw [lk] at lk'
    cases lk'
    have := fn_calm a1
    rw [hp] at this
    exact this
end Mi
set_option Elab.async false
set_option linter.all false
set_option maxRecDepth 100000
set_option autoImplicit false
/-! Mi: simp sets to run a small text upon symbolic values: a rule for each form, no match unfolded. -/
namespace Mi
open PySem
/-! the first part is run before what follows is looked at -/
section
variable {α β : Type}
/-- a result whose type names what follows: simp then leaves what follows alone -/
abbrev RT (f : α → Sto → R β) : Type := R β
abbrev ST (f : α → Sto → SR) : Type := SR
abbrev S2 (f : L → Sto → SR) : Type := SR
abbrev I2 (a b : R W) : Type := R W
abbrev H2 (a b : SR) : Type := SR
def bindK (r : R α) (f : α → Sto → R β) : RT f := R.bind r f
def thenK (r : R α) (l : L) (f : α → Sto → SR) : ST f := SR.thenR r l f
def seqK (r : SR) (f : L → Sto → SR) : S2 f := SR.seq r f
@[simp] theorem bind_ok (a : α) (S : Sto) (f : α → Sto → R β) : bindK (.ok a S) f = f a S := rfl
@[simp] theorem bind_err (x : Ex) (S : Sto) (f : α → Sto → R β) : bindK (.err x S) f = .err x S := rfl
@[simp] theorem bind_stuck (f : α → Sto → R β) : bindK .stuck f = .stuck := rfl
@[simp] theorem thenR_ok (a : α) (S : Sto) (l : L) (f : α → Sto → SR) : thenK (.ok a S) l f = f a S := rfl
@[simp] theorem thenR_err (x : Ex) (S : Sto) (l : L) (f : α → Sto → SR) : thenK (.err x S) l f = .err x l S := rfl
@[simp] theorem thenR_stuck (l : L) (f : α → Sto → SR) : thenK .stuck l f = .stuck := rfl
@[simp] theorem seq_nx (l : L) (S : Sto) (f : L → Sto → SR) : seqK (.nx l S) f = f l S := rfl
@[simp] theorem seq_rt (x : W) (S : Sto) (f : L → Sto → SR) : seqK (.rt x S) f = .rt x S := rfl
@[simp] theorem seq_bk (l : L) (S : Sto) (f : L → Sto → SR) : seqK (.bk l S) f = .bk l S := rfl
@[simp] theorem seq_ct (l : L) (S : Sto) (f : L → Sto → SR) : seqK (.ct l S) f = .ct l S := rfl
@[simp] theorem seq_err (x : Ex) (l : L) (S : Sto) (f : L → Sto → SR) : seqK (.err x l S) f = .err x l S := rfl
@[simp] theorem seq_stuck (f : L → Sto → SR) : seqK .stuck f = .stuck := rfl
@[simp] theorem calm_ok (a : α) (S : Sto) : R.calm (.ok a S) = .ok a S := rfl
@[simp] theorem scalm_nx (l : L) (S : Sto) : SR.calm (.nx l S) = .nx l S := rfl
@[simp] theorem scalm_rt (x : W) (S : Sto) : SR.calm (.rt x S) = .rt x S := rfl
@[simp] theorem scalm_bk (l : L) (S : Sto) : SR.calm (.bk l S) = .bk l S := rfl
@[simp] theorem scalm_ct (l : L) (S : Sto) : SR.calm (.ct l S) = .ct l S := rfl
@[simp] theorem ret_some (a : α) (S : Sto) : ret (some a) S = .ok a S := rfl
@[simp] theorem retP_some (p : P) (S : Sto) : retP (some p) S = .ok (.pv p) S := rfl
end
section
variable (c : Cf) (l : L) (S : Sto) (w v : W) (p q : P)
/-! expressions -/
/-- a local's value -/
def look (o : Option (Option W)) (S : Sto) : R W := match o with
  | some (some w) => .ok w S
  | _ => .stuck
@[simp] theorem look_some : look (some (some w)) S = .ok w S := rfl
def ifB (o : Option Bool) (a b : R W) : I2 a b := match o with
  | some true => a
  | some false => b
  | none => .stuck
@[simp] theorem ifB_t (a b : R W) : ifB (some true) a b = a := rfl
@[simp] theorem ifB_f (a b : R W) : ifB (some false) a b = b := rfl
theorem ifB_b (k : Bool) (a b : R W) : ifB (some k) a b = if k then a else b := by cases k <;> rfl
@[simp] theorem ev_var (i : Nat) : ev c (.var i) l S = look l[i]? S := rfl
@[simp] theorem ev_cst : ev c (.cst p) l S = .ok (.pv p) S := rfl
@[simp] theorem ev_gcst (x : Str) : ev c (.gcst x p) l S = .ok (.pv p) S := rfl
@[simp] theorem ev_bin (o : Operator) (a b : E) : ev c (.bin o a b) l S = bindK (ev c a l S) fun x S => bindK (ev c b l S) fun y S => pure2 (binop o) x y S := rfl
@[simp] theorem ev_un (o : UnaryOp) (a : E) : ev c (.un o a) l S = bindK (ev c a l S) fun x S => pure1 (unop o) x S := rfl
@[simp] theorem ev_cmp (o : CmpOp) (a b : E) : ev c (.cmp o a b) l S = bindK (ev c a l S) fun x S => bindK (ev c b l S) fun y S => cmpW o x y S := rfl
@[simp] theorem ev_cmp2 (o o' : CmpOp) (a b d : E) : ev c (.cmp2 o o' a b d) l S = bindK (ev c a l S) fun x S => bindK (ev c b l S) fun y S => bindK (cmpW o x y S) fun r S => ifB (boolW r) (bindK (ev c d l S) fun z S => cmpW o' y z S) (.ok (.pv (.bool false)) S) := by
  show R.bind _ _ = R.bind _ _
  congr 1
@[simp] theorem ev_and (a b : E) : ev c (.and_ a b) l S = bindK (ev c a l S) fun x S => ifB (boolW x) (ev c b l S) (.ok (.pv (.bool false)) S) := by
  show R.bind _ _ = R.bind _ _
  congr 1
@[simp] theorem ev_or (a b : E) : ev c (.or_ a b) l S = bindK (ev c a l S) fun x S => ifB (boolW x) (.ok (.pv (.bool true)) S) (ev c b l S) := by
  show R.bind _ _ = R.bind _ _
  congr 1; funext r S
  cases boolW r with
  | none => rfl
  | some k => cases k <;> rfl
@[simp] theorem ev_not (a : E) : ev c (.not_ a) l S = bindK (ev c a l S) fun x S => retP ((boolW x).map fun b => .bool (!b)) S := by
  show R.bind _ _ = R.bind _ _
  congr 1; funext r S
  cases boolW r <;> rfl
@[simp] theorem ev_ife (d a b : E) : ev c (.ife d a b) l S = bindK (te c d l S) fun k S => if k then ev c a l S else ev c b l S := rfl
@[simp] theorem ev_tup (es : EL) : ev c (.tup es) l S = bindK (evs c es l S) fun ws S => retP ((asPs ws).map .tuple) S := rfl
@[simp] theorem ev_lstv (es : EL) : ev c (.lstv es) l S = bindK (evs c es l S) fun ws S => retP ((asPs ws).map .list) S := rfl
@[simp] theorem ev_lstm (es : EL) : ev c (.lstm es) l S = bindK (evs c es l S) fun ws S => .ok (.rf S.length) (S ++ [.lst ws]) := rfl
@[simp] theorem ev_idx (a i : E) : ev c (.idx a i) l S = bindK (ev c a l S) fun x S => bindK (ev c i l S) fun y S => idxW x y S := rfl
@[simp] theorem ev_slc (a : E) (lo hi : OE) : ev c (.slc a lo hi) l S = bindK (ev c a l S) fun x S => bindK (evo c lo l S) fun y S => bindK (evo c hi l S) fun z S => slcW x y z S := rfl
@[simp] theorem ev_pcall (f : Nat) (es : EL) : ev c (.pcall f es) l S = bindK (evs c es l S) fun ws S => pcallW c f ws S := rfl
@[simp] theorem ev_hcall (f : Nat) (es : EL) : ev c (.hcall f es) l S = bindK (evs c es l S) fun ws S => hcallW c f ws S := rfl
@[simp] theorem ev_gcall (f : Nat) (es : EL) : ev c (.gcall f es) l S = bindK (evs c es l S) fun ws S => gcallW c f ws S := rfl
@[simp] theorem ev_bi (b : B) (es : EL) : ev c (.bi b es) l S = bindK (evs c es l S) fun ws S => biW b ws S := rfl
@[simp] theorem ev_isi (a : E) (t : Ty) : ev c (.isi a t) l S = bindK (ev c a l S) fun x S => pure1 (fun p => (isiP p t).map .bool) x S := rfl
@[simp] theorem ev_frz (a : E) : ev c (.frz a) l S = bindK (ev c a l S) fun x S => frzW x S := rfl
@[simp] theorem ev_app (a e : E) : ev c (.app a e) l S = bindK (ev c a l S) fun x S => if isLst x S then bindK (ev c e l S) fun y S => appW x y S else .stuck := rfl
@[simp] theorem ev_ext (a e : E) : ev c (.ext a e) l S = bindK (ev c a l S) fun x S => if isLst x S then bindK (ev c e l S) fun y S => extW x y S else .stuck := rfl
@[simp] theorem ev_pop (a : E) : ev c (.pop a) l S = bindK (ev c a l S) fun x S => popW x (-1) S := rfl
@[simp] theorem ev_popi (a e : E) : ev c (.popi a e) l S = bindK (ev c a l S) fun x S => if isLst x S then bindK (ev c e l S) fun y S => popiW x y S else .stuck := rfl
@[simp] theorem ev_lmk (a : E) : ev c (.lmk a) l S = bindK (ev c a l S) fun x S => lmkW x S := rfl
@[simp] theorem ev_lrng (k : Bool) (es : EL) : ev c (.lrng k es) l S = bindK (evs c es l S) fun ws S => rngW k ws S := rfl
@[simp] theorem ev_dnew : ev c .dnew l S = .ok (.rf S.length) (S ++ [.dct []]) := rfl
@[simp] theorem ev_dsrt (a : E) : ev c (.dsrt a) l S = bindK (ev c a l S) fun x S => srtD x S := rfl
@[simp] theorem ev_sset (a : E) : ev c (.sset a) l S = bindK (ev c a l S) fun x S => biW .sortedset [x] S := rfl
@[simp] theorem evs_nil : evs c .nil l S = .ok [] S := rfl
@[simp] theorem evs_cons (e : E) (r : EL) : evs c (.cons e r) l S = bindK (ev c e l S) fun x S => bindK (evs c r l S) fun xs S => .ok (x :: xs) S := rfl
@[simp] theorem evo_no : evo c .no l S = .ok none S := rfl
@[simp] theorem evo_some (e : E) : evo c (.some e) l S = bindK (ev c e l S) fun x S => intR x S := rfl
@[simp] theorem gt_nm (i : Nat) : gt c (.nm i) w l S = .ok (l.set i (some w)) S := rfl
@[simp] theorem gt_sub (o i : E) : gt c (.sub o i) w l S = bindK (ev c o l S) fun x S => bindK (ev c i l S) fun y S => bindK (setW x y w S) fun _ S => .ok l S := rfl
@[simp] theorem gts_nil : gts c .nil [] l S = .ok l S := rfl
@[simp] theorem gts_cons (t : G) (r : GL) (ws : List W) : gts c (.cons t r) (w :: ws) l S = bindK (gt c t w l S) fun l1 S => gts c r ws l1 S := rfl
/-! tests -/
@[simp] theorem te_and (a b : E) : te c (.and_ a b) l S = bindK (te c a l S) fun k S => if k then te c b l S else .ok false S := rfl
@[simp] theorem te_or (a b : E) : te c (.or_ a b) l S = bindK (te c a l S) fun k S => if k then .ok true S else te c b l S := rfl
@[simp] theorem te_not (a : E) : te c (.not_ a) l S = bindK (te c a l S) fun k S => .ok (!k) S := rfl
@[simp] theorem te_var (i : Nat) : te c (.var i) l S = truthR (ev c (.var i) l S) := rfl
@[simp] theorem te_cmp (o : CmpOp) (a b : E) : te c (.cmp o a b) l S = truthR (ev c (.cmp o a b) l S) := rfl
@[simp] theorem te_cmp2 (o o' : CmpOp) (a b d : E) : te c (.cmp2 o o' a b d) l S = truthR (ev c (.cmp2 o o' a b d) l S) := rfl
@[simp] theorem te_pcall (f : Nat) (es : EL) : te c (.pcall f es) l S = truthR (ev c (.pcall f es) l S) := rfl
@[simp] theorem te_hcall (f : Nat) (es : EL) : te c (.hcall f es) l S = truthR (ev c (.hcall f es) l S) := rfl
@[simp] theorem te_bi (b : B) (es : EL) : te c (.bi b es) l S = truthR (ev c (.bi b es) l S) := rfl
@[simp] theorem te_isi (a : E) (t : Ty) : te c (.isi a t) l S = truthR (ev c (.isi a t) l S) := rfl
@[simp] theorem te_bin (o : Operator) (a b : E) : te c (.bin o a b) l S = truthR (ev c (.bin o a b) l S) := rfl
@[simp] theorem te_idx (a b : E) : te c (.idx a b) l S = truthR (ev c (.idx a b) l S) := rfl
@[simp] theorem te_cst : te c (.cst p) l S = truthR (ev c (.cst p) l S) := rfl
@[simp] theorem tes_nil : tes c .nil l S = .ok true S := rfl
@[simp] theorem tes_one (e : E) : tes c (.cons e .nil) l S = te c e l S := by
  show R.bind (te c e l S) _ = _
  cases te c e l S with
  | ok k S => cases k <;> rfl
  | err x S => rfl
  | stuck => rfl
@[simp] theorem truthR_ok : truthR (.ok w S) = ret (truthW w S) S := rfl
@[simp] theorem truthR_err (x : Ex) : truthR (.err x S) = .err x S := rfl
@[simp] theorem truthW_bool (b : Bool) : truthW (.pv (.bool b)) S = some b := rfl
@[simp] theorem truthW_int (i : Int) : truthW (.pv (.int i)) S = some (i != 0) := rfl
@[simp] theorem truthW_none : truthW (.pv .none) S = some false := rfl
@[simp] theorem truthW_list (xs : List P) : truthW (.pv (.list xs)) S = some (!xs.isEmpty) := rfl
@[simp] theorem truthW_tup (xs : List P) : truthW (.pv (.tuple xs)) S = some (!xs.isEmpty) := rfl
@[simp] theorem boolW_bool (b : Bool) : boolW (.pv (.bool b)) = some b := rfl
/-! statements -/
@[simp] theorem exs_nil : exs c .nil l S = .nx l S := rfl
@[simp] theorem exs_cons (t : T) (r : TL) : exs c (.cons t r) l S = seqK (ex c t l S) fun l1 S1 => exs c r l1 S1 := rfl
@[simp] theorem ex_pass : ex c .pass l S = .nx l S := rfl
@[simp] theorem ex_brk : ex c .brk l S = .bk l S := rfl
@[simp] theorem ex_cont : ex c .cont l S = .ct l S := rfl
@[simp] theorem ex_retn : ex c .retn l S = .rt (.pv .none) S := rfl
@[simp] theorem ex_ret (e : E) : ex c (.ret e) l S = thenK (ev c e l S) l fun w S => .rt w S := rfl
@[simp] theorem ex_expr (e : E) : ex c (.expr e) l S = thenK (ev c e l S) l fun _ S => .nx l S := rfl
@[simp] theorem ex_asg (t : G) (e : E) : ex c (.asg t e) l S = thenK (ev c e l S) l fun w S => thenK (gt c t w l S).calm l fun l1 S => .nx l1 S := rfl
@[simp] theorem ex_par2 (i j : Nat) (a b : E) : ex c (.par2 i j a b) l S = thenK (ev c a l S) l fun x S => thenK (ev c b l S) l fun y S => .nx ((l.set i (some x)).set j (some y)) S := rfl
@[simp] theorem ex_if (d : E) (a b : TL) : ex c (.if_ d a b) l S = thenK (te c d l S) l fun k S => if k then exs c a l S else exs c b l S := rfl
@[simp] theorem ex_raise0 (x : Str) : ex c (.raise x .nil) l S = .err ⟨x, []⟩ l S := rfl
/-! operations -/
@[simp] theorem pure2_pv (f : P → P → Option P) : pure2 f (.pv p) (.pv q) S = retP (f p q) S := rfl
@[simp] theorem pure1_pv (f : P → Option P) : pure1 f (.pv p) S = retP (f p) S := rfl
@[simp] theorem cmpW_pv (o : CmpOp) : cmpW o (.pv p) (.pv q) S = retP ((cmpP o p q).map .bool) S := rfl
@[simp] theorem idxW_pv : idxW (.pv p) (.pv q) S = retP (idxP p q) S := rfl
@[simp] theorem idxP_list (xs : List P) (i : Int) : idxP (.list xs) (.int i) = idxL xs i := rfl
@[simp] theorem idxP_tup (xs : List P) (i : Int) : idxP (.tuple xs) (.int i) = idxL xs i := rfl
@[simp] theorem intR_int (i : Int) : intR (.pv (.int i)) S = .ok (some i) S := rfl
@[simp] theorem slcW_list (xs : List P) (a b : Option Int) : slcW (.pv (.list xs)) a b S = .ok (.pv (.list (cut xs a b))) S := rfl
@[simp] theorem slcW_tup (xs : List P) (a b : Option Int) : slcW (.pv (.tuple xs)) a b S = .ok (.pv (.tuple (cut xs a b))) S := rfl
@[simp] theorem asPs_nil : asPs [] = some [] := rfl
@[simp] theorem asPs_cons (ws : List W) : asPs (.pv p :: ws) = (asPs ws).map (p :: ·) := rfl
@[simp] theorem pcallR_ok (S' : Sto) : pcallR (.ok (.pv p) S') S = .ok (.pv p) S := rfl
@[simp] theorem pcallR_err (x : Ex) (S' : Sto) : pcallR (.err x S') S = .err x S := rfl
@[simp] theorem frzW_pv : frzW (.pv p) S = .ok (.pv p) S := rfl
@[simp] theorem lmkW_list (xs : List P) : lmkW (.pv (.list xs)) S = .ok (.rf S.length) (S ++ [.lst (xs.map .pv)]) := rfl
@[simp] theorem lmkW_tup (xs : List P) : lmkW (.pv (.tuple xs)) S = .ok (.rf S.length) (S ++ [.lst (xs.map .pv)]) := rfl
variable (i j : Int) (a b : Str) (xs ys : List P) (k m : Bool)
@[simp] theorem bin_add : binop .Add (.int i) (.int j) = some (.int (i + j)) := rfl
@[simp] theorem bin_sub : binop .Sub (.int i) (.int j) = some (.int (i - j)) := rfl
@[simp] theorem bin_mul : binop .Mult (.int i) (.int j) = if small i || small j then some (.int (i * j)) else none := rfl
@[simp] theorem bin_div : binop .FloorDiv (.int i) (.int j) = if 0 < j ∧ j < 1073741824 then some (.int (i / j)) else none := rfl
@[simp] theorem bin_mod : binop .Mod (.int i) (.int j) = if 0 < j then some (.int (i % j)) else none := rfl
@[simp] theorem bin_pow : binop .Pow (.int i) (.int j) = if 0 ≤ j ∧ j ≤ 1000000 ∧ i.natAbs < 2 ^ 64 then some (.int (i ^ j.toNat)) else none := rfl
@[simp] theorem bin_shl : binop .LShift (.int i) (.int j) = if 0 ≤ j ∧ j ≤ 1000000 ∧ i.natAbs < 2 ^ 64 then some (.int (i * 2 ^ j.toNat)) else none := rfl
@[simp] theorem bin_shr : binop .RShift (.int i) (.int j) = if 0 ≤ j then some (.int (i / 2 ^ j.toNat)) else none := rfl
@[simp] theorem bin_and : binop .BitAnd (.int i) (.int j) = some (.int (Builtin.bitAnd i j)) := rfl
@[simp] theorem bin_or : binop .BitOr (.int i) (.int j) = some (.int (Builtin.bitOr i j)) := rfl
@[simp] theorem bin_xor : binop .BitXor (.int i) (.int j) = some (.int (Builtin.bitXor i j)) := rfl
@[simp] theorem bin_addT : binop .Add (.tuple xs) (.tuple ys) = if xs.length + ys.length ≤ maxLen then some (.tuple (xs ++ ys)) else none := rfl
@[simp] theorem bin_addL : binop .Add (.list xs) (.list ys) = if xs.length + ys.length ≤ maxLen then some (.list (xs ++ ys)) else none := rfl
@[simp] theorem un_neg : unop .USub (.int i) = some (.int (-i)) := rfl
@[simp] theorem cmpP_eq : cmpP .Eq p q = eqP p q := rfl
@[simp] theorem cmpP_ne : cmpP .NotEq p q = (eqP p q).map (!·) := rfl
@[simp] theorem cmpP_in : cmpP .In p q = inP p q := rfl
@[simp] theorem cmpP_nin : cmpP .NotIn p q = (inP p q).map (!·) := rfl
@[simp] theorem cmpP_is : cmpP .Is p q = isP p q := rfl
@[simp] theorem cmpP_isn : cmpP .IsNot p q = (isP p q).map (!·) := rfl
@[simp] theorem cmpP_lt : cmpP .Lt (.int i) (.int j) = some (decide (i < j)) := rfl
@[simp] theorem cmpP_le : cmpP .LtE (.int i) (.int j) = some (decide (i ≤ j)) := rfl
@[simp] theorem cmpP_gt : cmpP .Gt (.int i) (.int j) = some (decide (j < i)) := rfl
@[simp] theorem cmpP_ge : cmpP .GtE (.int i) (.int j) = some (decide (j ≤ i)) := rfl
@[simp] theorem eqP_str : eqP (.str a) (.str b) = some (decide (a = b)) := rfl
@[simp] theorem eqP_int : eqP (.int i) (.int j) = some (decide (i = j)) := rfl
@[simp] theorem eqP_bool : eqP (.bool k) (.bool m) = some (k == m) := by cases k <;> cases m <;> rfl
@[simp] theorem eqv_str : PyData.eqv (.str a) (.str b) = decide (a = b) := rfl
@[simp] theorem eqv_int : PyData.eqv (.int i) (.int j) = decide (i = j) := rfl
@[simp] theorem inP_tupS : inP (.str a) (.tuple xs) = if xs.all flat then some (xs.any fun y => PyData.eqv y (.str a)) else none := by
  show (if (true && xs.all flat) = true then _ else _) = _
  rw [Bool.true_and]
@[simp] theorem flat_s : flat (.str a) = true := rfl
@[simp] theorem flat_i : flat (.int i) = true := rfl
@[simp] theorem flat_n : flat .none = true := rfl
@[simp] theorem isi_none_tint : isiP .none .tint = some false := rfl
@[simp] theorem isi_none_tbool : isiP .none .tbool = some false := rfl
@[simp] theorem isi_none_tstr : isiP .none .tstr = some false := rfl
@[simp] theorem isi_none_ttuple : isiP .none .ttuple = some false := rfl
@[simp] theorem isi_none_tlist : isiP .none .tlist = some false := rfl
@[simp] theorem isi_none_tdict : isiP .none .tdict = some false := rfl
@[simp] theorem isi_bool_tint : isiP (.bool k) .tint = some true := rfl
@[simp] theorem isi_bool_tbool : isiP (.bool k) .tbool = some true := rfl
@[simp] theorem isi_bool_tstr : isiP (.bool k) .tstr = some false := rfl
@[simp] theorem isi_bool_ttuple : isiP (.bool k) .ttuple = some false := rfl
@[simp] theorem isi_bool_tlist : isiP (.bool k) .tlist = some false := rfl
@[simp] theorem isi_bool_tdict : isiP (.bool k) .tdict = some false := rfl
@[simp] theorem isi_int_tint : isiP (.int i) .tint = some true := rfl
@[simp] theorem isi_int_tbool : isiP (.int i) .tbool = some false := rfl
@[simp] theorem isi_int_tstr : isiP (.int i) .tstr = some false := rfl
@[simp] theorem isi_int_ttuple : isiP (.int i) .ttuple = some false := rfl
@[simp] theorem isi_int_tlist : isiP (.int i) .tlist = some false := rfl
@[simp] theorem isi_int_tdict : isiP (.int i) .tdict = some false := rfl
@[simp] theorem isi_str_tint : isiP (.str a) .tint = some false := rfl
@[simp] theorem isi_str_tbool : isiP (.str a) .tbool = some false := rfl
@[simp] theorem isi_str_tstr : isiP (.str a) .tstr = some true := rfl
@[simp] theorem isi_str_ttuple : isiP (.str a) .ttuple = some false := rfl
@[simp] theorem isi_str_tlist : isiP (.str a) .tlist = some false := rfl
@[simp] theorem isi_str_tdict : isiP (.str a) .tdict = some false := rfl
@[simp] theorem isi_list_tint : isiP (.list xs) .tint = some false := rfl
@[simp] theorem isi_list_tbool : isiP (.list xs) .tbool = some false := rfl
@[simp] theorem isi_list_tstr : isiP (.list xs) .tstr = some false := rfl
@[simp] theorem isi_list_ttuple : isiP (.list xs) .ttuple = some false := rfl
@[simp] theorem isi_list_tlist : isiP (.list xs) .tlist = some true := rfl
@[simp] theorem isi_list_tdict : isiP (.list xs) .tdict = some false := rfl
@[simp] theorem isi_tuple_tint : isiP (.tuple xs) .tint = some false := rfl
@[simp] theorem isi_tuple_tbool : isiP (.tuple xs) .tbool = some false := rfl
@[simp] theorem isi_tuple_tstr : isiP (.tuple xs) .tstr = some false := rfl
@[simp] theorem isi_tuple_ttuple : isiP (.tuple xs) .ttuple = some true := rfl
@[simp] theorem isi_tuple_tlist : isiP (.tuple xs) .tlist = some false := rfl
@[simp] theorem isi_tuple_tdict : isiP (.tuple xs) .tdict = some false := rfl
@[simp] theorem biW_1 (g : B) : biW g [.pv p] S = retP (biP g [p]) S := rfl
@[simp] theorem biW_2 (g : B) : biW g [.pv p, .pv q] S = retP (biP g [p, q]) S := rfl
@[simp] theorem len_l : biP .len [.list xs] = some (.int xs.length) := rfl
@[simp] theorem len_t : biP .len [.tuple xs] = some (.int xs.length) := rfl
@[simp] theorem int_i : biP .int [.int i] = some (.int i) := rfl
@[simp] theorem abs_i : biP .abs [.int i] = some (.int (if i < 0 then -i else i)) := rfl
@[simp] theorem tup_l : biP .tuple [.list xs] = some (.tuple xs) := rfl
@[simp] theorem tup_t : biP .tuple [.tuple xs] = some (.tuple xs) := rfl
@[simp] theorem lst_t : biP .list [.tuple xs] = some (.list xs) := rfl
@[simp] theorem lst_l : biP .list [.list xs] = some (.list xs) := rfl
@[simp] theorem isP_nn : isP .none .none = some true := rfl
@[simp] theorem isP_ni : isP (.int i) .none = some false := rfl
@[simp] theorem isP_nb : isP (.bool k) .none = some false := rfl
@[simp] theorem isP_ns : isP (.str a) .none = some false := rfl
@[simp] theorem isP_nt : isP (.tuple xs) .none = some false := rfl
@[simp] theorem isP_nl : isP (.list xs) .none = some false := rfl
@[simp] theorem isP_bb : isP (.bool k) (.bool m) = some (k == m) := rfl
@[simp] theorem idxL0 {α : Type} (a : α) (r : List α) : idxL (a :: r) 0 = some a := by
  show (L2.ixN (r.length + 1) 0).bind _ = _
  unfold L2.ixN
  simp
@[simp] theorem idxL1 {α : Type} (a b : α) (r : List α) : idxL (a :: b :: r) 1 = some b := by
  show (L2.ixN (r.length + 2) 1).bind _ = _
  unfold L2.ixN
  rw [if_pos (by decide), if_pos (by omega)]
  rfl
@[simp] theorem idxL2 {α : Type} (a b c : α) (r : List α) : idxL (a :: b :: c :: r) 2 = some c := by
  show (L2.ixN (r.length + 3) 2).bind _ = _
  unfold L2.ixN
  rw [if_pos (by decide), if_pos (by omega)]
  rfl
end
@[simp] theorem nat_ne_1_0 (n : Nat) : ((n : Int) + 1 = 0) = False := eq_false (by omega)
@[simp] theorem nat_ne_2_0 (n : Nat) : ((n : Int) + 1 + 1 = 0) = False := eq_false (by omega)
@[simp] theorem nat_ne_2_1 (n : Nat) : ((n : Int) + 1 + 1 = 1) = False := eq_false (by omega)
@[simp] theorem nat_ne_3_0 (n : Nat) : ((n : Int) + 1 + 1 + 1 = 0) = False := eq_false (by omega)
@[simp] theorem nat_ne_3_1 (n : Nat) : ((n : Int) + 1 + 1 + 1 = 1) = False := eq_false (by omega)
@[simp] theorem nat_ne_3_2 (n : Nat) : ((n : Int) + 1 + 1 + 1 = 2) = False := eq_false (by omega)
@[simp] theorem nat_ne_4_1 (n : Nat) : ((n : Int) + 1 + 1 + 1 + 1 = 1) = False := eq_false (by omega)
@[simp] theorem nat_ne_4_2 (n : Nat) : ((n : Int) + 1 + 1 + 1 + 1 = 2) = False := eq_false (by omega)
@[simp] theorem nat_ne_4_3 (n : Nat) : ((n : Int) + 1 + 1 + 1 + 1 = 3) = False := eq_false (by omega)
@[simp] theorem nat_ne_4_0 (n : Nat) : ((n : Int) + 1 + 1 + 1 + 1 = 0) = False := eq_false (by omega)
theorem seq_of {c : Cf} {t : T} {r : TL} {l l1 : L} {S S1 : Sto} {x : SR} (h : ex c t l S = .nx l1 S1) (h2 : exs c r l1 S1 = x) : exs c (.cons t r) l S = x := by
  rw [exs_cons, h]
  exact h2
/-- a turn of a for -/
def turnOf (c : Cf) (t : G) (body : TL) : P → L → Sto → SR := fun x l S => SR.thenR (gt c t (.pv x) l S).calm l fun l1 S => exs c body l1 S
@[simp] theorem turnOf_nm (c : Cf) (i : Nat) (body : TL) (x : P) (l : L) (S : Sto) : turnOf c (.nm i) body x l S = exs c body (l.set i (some (.pv x))) S := rfl
def forR (o : Option (List P)) (turn : P → L → Sto → SR) (l : L) (S : Sto) : SR := match o with
  | some xs => forGo turn xs l S
  | none => .stuck
@[simp] theorem forR_some (xs : List P) (turn : P → L → Sto → SR) (l : L) (S : Sto) : forR (some xs) turn l S = forGo turn xs l S := rfl
@[simp] theorem ex_for (c : Cf) (t : G) (k : IK) (it : EL) (body : TL) (l : L) (S : Sto) : ex c (.for_ t k it body) l S = thenK (evs c it l S) l fun ws S => forR (items k ws) (turnOf c t body) l S := rfl
/-- a turn of a comprehension -/
def lcT (c : Cf) (t : G) (ifs : EL) (elt : E) (own : List Nat) (l : L) : P → Sto → R (Option P) := fun x S => ((gt c t (.pv x) (wipe l own) S).bind fun l1 S => (tes c ifs l1 S).bind fun k S =>
        if k then ((evT c elt).1 l1 S).bind fun y S => match y with
          | .pv p => .ok (some p) S
          | _ => .stuck
        else .ok none S).calm
def someP (y : W) (S : Sto) : R (Option P) := match y with
  | .pv p => .ok (some p) S
  | _ => .stuck
@[simp] theorem someP_pv (p : P) (S : Sto) : someP (.pv p) S = .ok (some p) S := rfl
@[simp] theorem lcT_eq (c : Cf) (i : Nat) (ifs : EL) (elt : E) (own : List Nat) (l : L) (x : P) (S : Sto) : lcT c (.nm i) ifs elt own l x S = (bindK (tes c ifs ((wipe l own).set i (some (.pv x))) S) fun k S => if k then bindK (ev c elt ((wipe l own).set i (some (.pv x))) S) someP else .ok none S).calm := rfl
def lcR (o : Option (List P)) (turn : P → Sto → R (Option P)) (S : Sto) : R W := match o with
  | some xs => bindK (lcGo turn xs S) fun ys S => .ok (.pv (.list ys)) S
  | none => .stuck
@[simp] theorem lcR_some (xs : List P) (turn : P → Sto → R (Option P)) (S : Sto) : lcR (some xs) turn S = bindK (lcGo turn xs S) fun ys S => .ok (.pv (.list ys)) S := rfl
@[simp] theorem ev_lc (c : Cf) (t : G) (k : IK) (it ifs : EL) (elt : E) (own : List Nat) (l : L) (S : Sto) : ev c (.lc t k it ifs elt own) l S = bindK (evs c it l S) fun ws S => lcR (items k ws) (lcT c t ifs elt own l) S := rfl
/-- a comprehension whose turns leave the store as it is -/
theorem lcGo_pure {turn : P → Sto → R (Option P)} {S : Sto} (g : P → Option P) : ∀ (xs : List P), (∀ x ∈ xs, turn x S = .ok (g x) S) → lcGo turn xs S = .ok (xs.filterMap g) S := by
  intro xs
  induction xs with
  | nil => intro _; rfl
  | cons x r ih =>
    intro h
    show (turn x S).bind _ = _
    rw [h x (by simp)]
    show (lcGo turn r S).bind _ = _
    rw [ih fun y hy => h y (List.mem_cons_of_mem _ hy), List.filterMap_cons]
    cases g x <;> rfl
@[simp] theorem ex_while (c : Cf) (d : E) (body : TL) (l : L) (S : Sto) : ex c (.while_ d body) l S = whileGo (te c d) (exs c body) c.fuel l S := rfl
def tryR (r : SR) (f : Ex → L → Sto → SR) : SR := match r with
  | .err x l S => f x l S
  | r => r
@[simp] theorem tryR_nx (l : L) (S : Sto) (f : Ex → L → Sto → SR) : tryR (.nx l S) f = .nx l S := rfl
@[simp] theorem tryR_rt (w : W) (S : Sto) (f : Ex → L → Sto → SR) : tryR (.rt w S) f = .rt w S := rfl
@[simp] theorem tryR_err (x : Ex) (l : L) (S : Sto) (f : Ex → L → Sto → SR) : tryR (.err x l S) f = f x l S := rfl
@[simp] theorem ex_try (c : Cf) (body : TL) (hs : HL) (l : L) (S : Sto) : ex c (.try_ body hs) l S = tryR (exs c body l S) (handle c hs) := by
  show (match exs c body l S with | .err x l1 S1 => handle c hs x l1 S1 | r => r) = _
  cases exs c body l S <;> rfl
def hR (o : Option Bool) (a b : SR) : H2 a b := match o with
  | some true => a
  | some false => b
  | none => .stuck
@[simp] theorem hR_t (a b : SR) : hR (some true) a b = a := rfl
@[simp] theorem hR_f (a b : SR) : hR (some false) a b = b := rfl
@[simp] theorem handle_cons (c : Cf) (y : Str) (suite : TL) (r : HL) (x : Ex) (l : L) (S : Sto) : handle c (.cons y suite r) x l S = hR (c.sub x.cls y) (exs c suite l S).calm (handle c r x l S) := by
  show (match c.sub x.cls y with | some true => _ | some false => _ | none => _) = _
  cases c.sub x.cls y with
  | none => rfl
  | some b => cases b <;> rfl
@[simp] theorem handle_named (c : Cf) (y : Str) (i : Nat) (suite : TL) (r : HL) (x : Ex) (l : L) (S : Sto) : handle c (.named y i suite r) x l S = hR (c.sub x.cls y) ((exs c suite (l.set i none) S).calm.gone i) (handle c r x l S) := by
  show (match c.sub x.cls y with | some true => _ | some false => _ | none => _) = _
  cases c.sub x.cls y with
  | none => rfl
  | some b => cases b <;> rfl
@[simp] theorem gone_nx (l : L) (S : Sto) (i : Nat) : SR.gone (.nx l S) i = .nx (l.set i none) S := rfl
@[simp] theorem gone_rt (w : W) (S : Sto) (i : Nat) : SR.gone (.rt w S) i = .rt w S := rfl
@[simp] theorem handle_nil (c : Cf) (x : Ex) (l : L) (S : Sto) : handle c .nil x l S = .err x l S := rfl
@[simp] theorem items_list (xs : List P) : items .seq [.pv (.list xs)] = some xs := rfl
@[simp] theorem items_tup (xs : List P) : items .seq [.pv (.tuple xs)] = some xs := rfl
theorem items_rng1 (n : Nat) (h : n ≤ 16777216) : items .rng1 [.pv (.int (n : Nat))] = some (rngL 0 n) := by
  show (if _ then _ else _) = _
  rw [if_pos ⟨by omega, by show (n : Int) ≤ (16777216 : Nat); omega⟩, Int.toNat_natCast]
@[simp] theorem forGo_nil (turn : P → L → Sto → SR) (l : L) (S : Sto) : forGo turn [] l S = .nx l S := rfl
theorem forGo_nx {turn : P → L → Sto → SR} {x : P} {xs : List P} {l l1 : L} {S S1 : Sto} (h : turn x l S = .nx l1 S1) : forGo turn (x :: xs) l S = forGo turn xs l1 S1 := by
  show (match turn x l S with | .nx l1 S1 => forGo turn xs l1 S1 | .ct l1 S1 => forGo turn xs l1 S1 | .bk l1 S1 => .nx l1 S1 | .rt p S1 => .rt p S1 | .err x l1 S1 => .err x l1 S1 | .stuck => .stuck) = _
  rw [h]
theorem forGo_rt {turn : P → L → Sto → SR} {x : P} {xs : List P} {l : L} {S S1 : Sto} {w : W} (h : turn x l S = .rt w S1) : forGo turn (x :: xs) l S = .rt w S1 := by
  show (match turn x l S with | .nx l1 S1 => forGo turn xs l1 S1 | .ct l1 S1 => forGo turn xs l1 S1 | .bk l1 S1 => .nx l1 S1 | .rt p S1 => .rt p S1 | .err x l1 S1 => .err x l1 S1 | .stuck => .stuck) = _
  rw [h]
/-! the last object of the store -/
section
variable (S0 : Sto) (xs ys : List W) (zs : List P) (w : W)
@[simp] theorem isLst_last : isLst (.rf S0.length) (S0 ++ [.lst ys]) = true := by
  show (match (S0 ++ [O.lst ys])[S0.length]? with | some (.lst _) => true | _ => false) = true
  rw [List.getElem?_append_right (Nat.le_refl _), Nat.sub_self]
  rfl
@[simp] theorem set_last (o o' : O) : List.set (S0 ++ [o]) S0.length o' = S0 ++ [o'] := by
  rw [List.set_append_right _ _ (Nat.le_refl _), Nat.sub_self]
  rfl
@[simp] theorem get_last (o : O) : (S0 ++ [o])[S0.length]? = some o := by
  rw [List.getElem?_append_right (Nat.le_refl _), Nat.sub_self]
  rfl
theorem extW_last (h : ys.length + zs.length ≤ 16777216) : extW (.rf S0.length) (.pv (.list zs)) (S0 ++ [.lst ys]) = .ok (.pv .none) (S0 ++ [.lst (ys ++ zs.map .pv)]) := by
  show (match (S0 ++ [O.lst ys])[S0.length]? with
    | some (.lst xs) => if xs.length + zs.length ≤ maxLen then R.ok (W.pv .none) ((S0 ++ [O.lst ys]).set S0.length (.lst (xs ++ zs.map W.pv))) else .stuck
    | _ => .stuck) = _
  rw [get_last]
  show (if _ then _ else _) = _
  rw [if_pos (show _ ≤ maxLen from h), set_last]
theorem extW_lastT (h : ys.length + zs.length ≤ 16777216) : extW (.rf S0.length) (.pv (.tuple zs)) (S0 ++ [.lst ys]) = .ok (.pv .none) (S0 ++ [.lst (ys ++ zs.map .pv)]) := extW_last S0 ys zs h
theorem appW_last (h : ys.length < 16777216) : appW (.rf S0.length) w (S0 ++ [.lst ys]) = .ok (.pv .none) (S0 ++ [.lst (ys ++ [w])]) := by
  show (match (S0 ++ [O.lst ys])[S0.length]? with
    | some (.lst xs) => if xs.length < maxLen then R.ok (W.pv .none) ((S0 ++ [O.lst ys]).set S0.length (.lst (xs ++ [w]))) else .stuck
    | _ => .stuck) = _
  rw [get_last]
  show (if _ then _ else _) = _
  rw [if_pos (show _ < maxLen from h), set_last]
theorem asPs_pvs (ps : List P) : asPs (ps.map .pv) = some ps := by
  induction ps with
  | nil => rfl
  | cons p r ih =>
    show (asPs (r.map .pv)).map (p :: ·) = _
    rw [ih]
    rfl
@[simp] theorem frzW_last : frzW (.rf S0.length) (S0 ++ [.lst (zs.map .pv)]) = .ok (.pv (.list zs)) (S0 ++ [.dead]) := by
  unfold frzW
  simp only [get_last]
  rw [asPs_pvs]
  simp only [set_last]
end
/-! a mutable list of five at place 0 -/
section
variable (x0 x1 x2 x3 x4 v : W) (T : Sto) (xs : List W)
@[simp] theorem idxW_rf0 (i : Int) : idxW (.rf 0) (.pv (.int i)) (.lst xs :: T) = ret (idxL xs i) (.lst xs :: T) := rfl
@[simp] theorem idx5_0 : idxL [x0, x1, x2, x3, x4] 0 = some x0 := rfl
@[simp] theorem idx5_1 : idxL [x0, x1, x2, x3, x4] 1 = some x1 := rfl
@[simp] theorem idx5_2 : idxL [x0, x1, x2, x3, x4] 2 = some x2 := rfl
@[simp] theorem idx5_3 : idxL [x0, x1, x2, x3, x4] 3 = some x3 := rfl
@[simp] theorem idx5_4 : idxL [x0, x1, x2, x3, x4] 4 = some x4 := rfl
@[simp] theorem set5_1 : setW (.rf 0) (.pv (.int 1)) v (.lst [x0, x1, x2, x3, x4] :: T) = .ok () (.lst [x0, v, x2, x3, x4] :: T) := rfl
@[simp] theorem set5_2 : setW (.rf 0) (.pv (.int 2)) v (.lst [x0, x1, x2, x3, x4] :: T) = .ok () (.lst [x0, x1, v, x3, x4] :: T) := rfl
@[simp] theorem set5_3 : setW (.rf 0) (.pv (.int 3)) v (.lst [x0, x1, x2, x3, x4] :: T) = .ok () (.lst [x0, x1, x2, v, x4] :: T) := rfl
@[simp] theorem set5_4 : setW (.rf 0) (.pv (.int 4)) v (.lst [x0, x1, x2, x3, x4] :: T) = .ok () (.lst [x0, x1, x2, x3, v] :: T) := rfl
end
theorem idxL_nat {α : Type} (xs : List α) (n : Nat) (h : n < xs.length) : idxL xs (n : Int) = some xs[n] := by
  unfold idxL idxN L2.ixN
  rw [if_pos (by omega), if_pos (by omega)]
  show xs[(n : Int).toNat]? = _
  rw [Int.toNat_natCast, List.getElem?_eq_getElem h]
/-- how a def ends -/
def endF (r : SR) : R W := match r with
  | .nx _ S => .ok (.pv .none) S
  | .rt w S => .ok w S
  | .err x _ S => .err x S
  | _ => .stuck
@[simp] theorem endF_nx (l : L) (S : Sto) : endF (.nx l S) = .ok (.pv .none) S := rfl
@[simp] theorem endF_rt (w : W) (S : Sto) : endF (.rt w S) = .ok w S := rfl
@[simp] theorem endF_err (x : Ex) (l : L) (S : Sto) : endF (.err x l S) = .err x S := rfl
theorem runFn_eq {c : Cf} {f : Fn} {ws : List W} {S : Sto} (h : ws.length = f.params.length) : runFn c f ws S = endF (exs c f.body (startL f ws) S) := by
  unfold runFn
  refine (if_pos h).trans ?_
  cases exs c f.body (startL f ws) S <;> rfl
end Mi
set_option Elab.async false
set_option linter.all false
set_option maxRecDepth 100000
set_option autoImplicit false
/-! Mi: general facts of comprehensions and loops; rules for dicts. -/
namespace Mi
open PySem
/-! general: comprehensions and loops over coded lists -/
theorem lcGo_map {α : Type} {turn : P → Sto → R (Option P)} {S : Sto} (enc : α → P) (t : α → Bool) (f : α → P) : ∀ (l : List α), (∀ a ∈ l, turn (enc a) S = .ok (if t a then some (f a) else none) S) → lcGo turn (l.map enc) S = .ok ((l.filter t).map f) S := by
  intro l
  induction l with
  | nil => intro _; rfl
  | cons a r ih =>
    intro h
    show (turn (enc a) S).bind _ = _
    rw [h a (by simp)]
    show (lcGo turn (r.map enc) S).bind _ = _
    rw [ih fun y hy => h y (List.mem_cons_of_mem _ hy), List.filter_cons]
    cases t a <;> rfl
theorem lcGo_all {α : Type} {turn : P → Sto → R (Option P)} {S : Sto} (enc : α → P) (f : α → P) (l : List α) (h : ∀ a ∈ l, turn (enc a) S = .ok (some (f a)) S) : lcGo turn (l.map enc) S = .ok (l.map f) S := by
  have := lcGo_map (turn := turn) (S := S) enc (fun _ => true) f l (by simpa using h)
  rw [this, List.filter_eq_self.mpr (fun _ _ => rfl)]
theorem bools_map {α : Type} (t : α → Bool) (l : List α) : boolsOf (l.map fun a => .bool (t a)) = some (l.map t) := by
  induction l with
  | nil => rfl
  | cons a r ih =>
    show (boolsOf (r.map fun a => .bool (t a))).map _ = _
    rw [ih]
    rfl
theorem any_map {α : Type} (t : α → Bool) (l : List α) : biP .any [.list (l.map fun a => .bool (t a))] = some (.bool (l.any t)) := by
  show (boolsOf _).map _ = _
  rw [bools_map]
  simp
theorem all_map {α : Type} (t : α → Bool) (l : List α) : biP .all [.list (l.map fun a => .bool (t a))] = some (.bool (l.all t)) := by
  show (boolsOf _).map _ = _
  rw [bools_map]
  simp
theorem forGo_any {α : Type} {turn : P → L → Sto → SR} (enc : α → P) (t : α → Bool) (Inv : L → Prop) (W1 : W) (S : Sto) : ∀ (ws : List α) (l : L), Inv l → (∀ a ∈ ws, ∀ l, Inv l → if t a then turn (enc a) l S = .rt W1 S else ∃ l', Inv l' ∧ turn (enc a) l S = .nx l' S) →
    if ws.any t then forGo turn (ws.map enc) l S = .rt W1 S else ∃ l', Inv l' ∧ forGo turn (ws.map enc) l S = .nx l' S := by
  intro ws
  induction ws with
  | nil => intro l hl _; exact ⟨l, hl, rfl⟩
  | cons a r ih =>
    intro l hl h
    have h1 := h a (by simp) l hl
    rw [List.any_cons]
    cases ht : t a with
    | true =>
      rw [ht] at h1
      simp at h1
      simp
      exact forGo_rt h1
    | false =>
      rw [ht] at h1
      simp at h1
      obtain ⟨l', hl', e⟩ := h1
      have := ih l' hl' fun b hb => h b (List.mem_cons_of_mem _ hb)
      simp
      cases hr : r.any t with
      | true =>
        rw [if_pos (by simpa using hr)]
        rw [hr] at this
        simp at this
        exact (forGo_nx e).trans this
      | false =>
        rw [if_neg (by simpa using hr)]
        rw [hr] at this
        simp at this
        obtain ⟨l2, hl2, e2⟩ := this
        exact ⟨l2, hl2, (forGo_nx e).trans e2⟩
@[simp] theorem gt_tup2 (c : Cf) (i j : Nat) (p q : P) (l : L) (S : Sto) : gt c (.tup (.cons (.nm i) (.cons (.nm j) .nil))) (.pv (.tuple [p, q])) l S = .ok ((l.set i (some (.pv p))).set j (some (.pv q))) S := rfl
@[simp] theorem turnOf_tup2 (c : Cf) (i j : Nat) (body : TL) (p q : P) (l : L) (S : Sto) : turnOf c (.tup (.cons (.nm i) (.cons (.nm j) .nil))) body (.tuple [p, q]) l S = exs c body ((l.set i (some (.pv p))).set j (some (.pv q))) S := rfl
theorem lcT_tup2 (c : Cf) (i j : Nat) (ifs : EL) (elt : E) (own : List Nat) (l : L) (p q : P) (S : Sto) : lcT c (.tup (.cons (.nm i) (.cons (.nm j) .nil))) ifs elt own l (.tuple [p, q]) S = (bindK (tes c ifs (((wipe l own).set i (some (.pv p))).set j (some (.pv q))) S) fun k S => if k then bindK (ev c elt (((wipe l own).set i (some (.pv p))).set j (some (.pv q))) S) someP else .ok none S).calm := rfl
theorem forGo_inv {α : Type} {turn : P → L → Sto → SR} (enc : α → P) (Inv : L → Prop) (S : Sto) : ∀ (ws : List α) (l : L), Inv l → (∀ a ∈ ws, ∀ l, Inv l → ∃ l', Inv l' ∧ turn (enc a) l S = .nx l' S) → ∃ l', Inv l' ∧ forGo turn (ws.map enc) l S = .nx l' S := by
  intro ws
  induction ws with
  | nil => intro l hl _; exact ⟨l, hl, rfl⟩
  | cons a r ih =>
    intro l hl h
    obtain ⟨l1, h1, e1⟩ := h a (by simp) l hl
    obtain ⟨l2, h2, e2⟩ := ih l1 h1 fun b hb => h b (List.mem_cons_of_mem _ hb)
    exact ⟨l2, h2, (forGo_nx e1).trans e2⟩
/-! ranks -/
theorem forGo_ct {turn : P → L → Sto → SR} {x : P} {xs : List P} {l l1 : L} {S S1 : Sto} (h : turn x l S = .ct l1 S1) : forGo turn (x :: xs) l S = forGo turn xs l1 S1 := by
  show (match turn x l S with | .nx l1 S1 => forGo turn xs l1 S1 | .ct l1 S1 => forGo turn xs l1 S1 | .bk l1 S1 => .nx l1 S1 | .rt p S1 => .rt p S1 | .err x l1 S1 => .err x l1 S1 | .stuck => .stuck) = _
  rw [h]
theorem forGo_then {α : Type} {turn : P → L → Sto → SR} (enc : α → P) (Inv : L → Prop) (S : Sto) (rest : List P) : ∀ (ws : List α) (l : L), Inv l → (∀ a ∈ ws, ∀ l, Inv l → ∃ l', Inv l' ∧ turn (enc a) l S = .nx l' S) → ∃ l', Inv l' ∧ forGo turn (ws.map enc ++ rest) l S = forGo turn rest l' S := by
  intro ws
  induction ws with
  | nil => intro l hl _; exact ⟨l, hl, rfl⟩
  | cons a r ih =>
    intro l hl h
    obtain ⟨l1, h1, e1⟩ := h a (by simp) l hl
    obtain ⟨l2, h2, e2⟩ := ih l1 h1 fun b hb => h b (List.mem_cons_of_mem _ hb)
    exact ⟨l2, h2, (forGo_nx e1).trans e2⟩
/-! dicts -/
section
variable (c : Cf) (l : L) (S : Sto) (w v : W) (p q : P)
@[simp] theorem ev_dcp (a : E) : ev c (.dcp a) l S = bindK (ev c a l S) fun x S => dcpW x S := rfl
@[simp] theorem ev_dget (a i : E) : ev c (.dget a i) l S = bindK (ev c a l S) fun x S => if isDct x then bindK (ev c i l S) fun y S => dgetW x y S else .stuck := rfl
@[simp] theorem ev_lidx (a i : E) : ev c (.lidx a i) l S = bindK (ev c a l S) fun x S => if isLstP x then bindK (ev c i l S) fun y S => pure2 lidxP x y S else .stuck := rfl
variable (kvs : List (P × P)) (xs : List P) (i : Int) (s : Str)
@[simp] theorem isDct_d : isDct (.pv (.dict kvs)) = true := rfl
@[simp] theorem isLstP_l : isLstP (.pv (.list xs)) = true := rfl
@[simp] theorem dgetW_i : dgetW (.pv (.dict kvs)) (.pv (.int i)) S = .ok (.pv ((dgetP kvs (.inl i)).getD .none)) S := rfl
@[simp] theorem dgetW_s : dgetW (.pv (.dict kvs)) (.pv (.str s)) S = .ok (.pv ((dgetP kvs (.inr s)).getD .none)) S := rfl
@[simp] theorem inP_di : inP (.int i) (.dict kvs) = some (dgetP kvs (.inl i)).isSome := rfl
@[simp] theorem inP_ds : inP (.str s) (.dict kvs) = some (dgetP kvs (.inr s)).isSome := rfl
@[simp] theorem inP_dn : inP .none (.dict kvs) = some false := rfl
@[simp] theorem idxP_di : idxP (.dict kvs) (.int i) = dgetP kvs (.inl i) := rfl
@[simp] theorem idxP_ds : idxP (.dict kvs) (.str s) = dgetP kvs (.inr s) := rfl
@[simp] theorem len_d : biP .len [.dict kvs] = some (.int kvs.length) := rfl
@[simp] theorem ev_dsetd (a i : E) : ev c (.dsetd a i) l S = bindK (ev c a l S) fun x S => if isDctS x S then bindK (ev c i l S) fun y S => dsetdW x y S else .stuck := rfl
@[simp] theorem ev_catm (a b : E) : ev c (.catm a b) l S = bindK (ev c a l S) fun x S => bindK (ev c b l S) fun y S => catW x y S := rfl
@[simp] theorem ev_lrep (a b : E) : ev c (.lrep a b) l S = bindK (ev c a l S) fun x S => bindK (ev c b l S) fun y S => repW x y S := rfl
/-- a turn of the second clause, one of the first -/
def l2T (c : Cf) (t : G) (ifs : EL) (t1 : G) (k1 : IK) (it1 ifs1 : EL) (elt : E) (own own1 : List Nat) (l : L) : P → Sto → R (List P) := fun x S => ((gt c t (.pv x) (wipe l own) S).bind fun l1 S => (tes c ifs l1 S).bind fun k S =>
        if k then (evs c it1 l1 S).bind fun ws S => match items k1 ws with
          | some xs => lcGo (lcT c t1 ifs1 elt own1 l1) xs S
          | none => .stuck
        else .ok [] S).calm
def l2R (o : Option (List P)) (turn : P → Sto → R (List P)) (S : Sto) : R W := match o with
  | some xs => bindK (lc2Go turn xs S) lc2End
  | none => .stuck
@[simp] theorem l2R_some (turn : P → Sto → R (List P)) : l2R (some xs) turn S = bindK (lc2Go turn xs S) lc2End := rfl
@[simp] theorem ev_lc2 (t t1 : G) (k k1 : IK) (it ifs it1 ifs1 : EL) (elt : E) (own own1 : List Nat) : ev c (.lc2 t k it ifs t1 k1 it1 ifs1 elt own own1) l S = bindK (evs c it l S) fun ws S => l2R (items k ws) (l2T c t ifs t1 k1 it1 ifs1 elt own own1 l) S := rfl
/-- a turn of a dict comprehension -/
def dcT (c : Cf) (t : G) (ifs : EL) (ke ve : E) (own : List Nat) (l : L) : P → Sto → R (Option ((Int ⊕ Str) × P)) := fun x S => ((gt c t (.pv x) (wipe l own) S).bind fun l1 S => (tes c ifs l1 S).bind fun k S =>
        if k then ((evT c ke).1 l1 S).bind fun y S => ((evT c ve).1 l1 S).bind fun z S => dcPair y z S
        else .ok none S).calm
@[simp] theorem dcPair_i : dcPair (.pv (.int i)) (.pv p) S = .ok (some (.inl i, p)) S := rfl
@[simp] theorem dcPair_s : dcPair (.pv (.str s)) (.pv p) S = .ok (some (.inr s, p)) S := rfl
@[simp] theorem dcT_eq (i : Nat) (ifs : EL) (ke ve : E) (own : List Nat) (x : P) : dcT c (.nm i) ifs ke ve own l x S = (bindK (tes c ifs ((wipe l own).set i (some (.pv x))) S) fun k S => if k then bindK (ev c ke ((wipe l own).set i (some (.pv x))) S) fun y S => bindK (ev c ve ((wipe l own).set i (some (.pv x))) S) fun z S => dcPair y z S else .ok none S).calm := rfl
def dcR (o : Option (List P)) (turn : P → Sto → R (Option ((Int ⊕ Str) × P))) (S : Sto) : R W := match o with
  | some xs => bindK (dcGo turn xs [] S) fun ys S => .ok (.pv (.dict ys)) S
  | none => .stuck
@[simp] theorem dcR_some (turn : P → Sto → R (Option ((Int ⊕ Str) × P))) : dcR (some xs) turn S = bindK (dcGo turn xs [] S) fun ys S => .ok (.pv (.dict ys)) S := rfl
@[simp] theorem ev_dcomp (t : G) (k : IK) (it ifs : EL) (ke ve : E) (own : List Nat) : ev c (.dcomp t k it ifs ke ve own) l S = bindK (evs c it l S) fun ws S => dcR (items k ws) (dcT c t ifs ke ve own l) S := rfl
end
theorem lc2Go_all {α : Type} {turn : P → Sto → R (List P)} {S : Sto} (enc : α → P) (f : α → List P) : ∀ (l : List α), (∀ a ∈ l, turn (enc a) S = .ok (f a) S) → lc2Go turn (l.map enc) S = .ok (l.flatMap f) S := by
  intro l
  induction l with
  | nil => intro _; rfl
  | cons a r ih =>
    intro h
    show (turn (enc a) S).bind _ = _
    rw [h a (by simp)]
    show (lc2Go turn (r.map enc) S).bind _ = _
    rw [ih fun y hy => h y (List.mem_cons_of_mem _ hy)]
    rfl
/-- a dict comprehension whose turns leave the store as it is -/
theorem dcGo_map {α : Type} {turn : P → Sto → R (Option ((Int ⊕ Str) × P))} {S : Sto} (enc : α → P) (f : α → Option ((Int ⊕ Str) × P)) : ∀ (xs : List α) (acc : List (P × P)), acc.length + xs.length ≤ maxLen → (∀ x ∈ xs, turn (enc x) S = .ok (f x) S) → dcGo turn (xs.map enc) acc S = .ok ((xs.filterMap f).foldl (fun a kv => putP a kv.1 kv.2) acc) S := by
  intro xs
  induction xs with
  | nil => intro acc _ _; rfl
  | cons x r ih =>
    intro acc hl h
    have h1 := h x (by simp)
    have h2 := fun y hy => h y (List.mem_cons_of_mem x hy)
    simp only [List.length_cons] at hl
    show (turn (enc x) S).bind _ = _
    rw [h1]
    cases e : f x with
    | none =>
      show dcGo turn (r.map enc) acc S = _
      rw [ih acc (by omega) h2, List.filterMap_cons_none e]
    | some kv =>
      show (if acc.length < maxLen then dcGo turn (r.map enc) (putP acc kv.1 kv.2) S else .stuck) = _
      rw [if_pos (by omega), List.filterMap_cons_some e]
      refine ih _ ?_ h2
      have : (putP acc kv.1 kv.2).length ≤ acc.length + 1 := by
        unfold putP
        split <;> simp
      omega
theorem dget_put {kvs : List (P × P)} {k j : Int ⊕ Str} {v : P} : dgetP (putP kvs k v) j = if k = j then some v else dgetP kvs j := by
  have kk : keyP (kP k) = some k := by cases k <;> rfl
  unfold putP
  split
  · rename_i h
    induction kvs with
    | nil => simp at h
    | cons a r ih =>
      rw [List.any_cons, Bool.or_eq_true] at h
      rw [List.map_cons]
      by_cases ha : keyP a.1 = some k
      · rw [if_pos ha]
        by_cases e : k = j
        · subst e; simp [dgetP, ha]
        · have hn : keyP a.1 ≠ some j := by rw [ha]; simpa using e
          rw [if_neg e]
          have e1 : dgetP (a :: r) j = dgetP r j := by simp [dgetP, List.find?_cons, hn]
          rw [e1]
          have e2 : ∀ r : List (P × P), dgetP (r.map fun kv => if keyP kv.1 = some k then (kv.1, v) else kv) j = dgetP r j := by
            intro r
            induction r with
            | nil => rfl
            | cons b r ih2 =>
              rw [List.map_cons]
              by_cases hb : keyP b.1 = some k
              · have hbn : keyP b.1 ≠ some j := by rw [hb]; simpa using e
                rw [if_pos hb]
                have a1 : dgetP ((b.1, v) :: r.map fun kv => if keyP kv.1 = some k then (kv.1, v) else kv) j = dgetP (r.map fun kv => if keyP kv.1 = some k then (kv.1, v) else kv) j := by simp [dgetP, List.find?_cons, hbn]
                have a2 : dgetP (b :: r) j = dgetP r j := by simp [dgetP, List.find?_cons, hbn]
                rw [a1, a2, ih2]
              · rw [if_neg hb]
                by_cases hj : keyP b.1 = some j
                · simp [dgetP, List.find?_cons, hj]
                · have a1 : dgetP (b :: r.map fun kv => if keyP kv.1 = some k then (kv.1, v) else kv) j = dgetP (r.map fun kv => if keyP kv.1 = some k then (kv.1, v) else kv) j := by simp [dgetP, List.find?_cons, hj]
                  have a2 : dgetP (b :: r) j = dgetP r j := by simp [dgetP, List.find?_cons, hj]
                  rw [a1, a2, ih2]
          have e3 : dgetP ((a.1, v) :: r.map fun kv => if keyP kv.1 = some k then (kv.1, v) else kv) j = dgetP (r.map fun kv => if keyP kv.1 = some k then (kv.1, v) else kv) j := by simp [dgetP, List.find?_cons, hn]
          rw [e3, e2]
      · rw [if_neg ha]
        have hr : (r.any fun kv => decide (keyP kv.1 = some k)) = true := by simpa [ha] using h
        have ih := ih hr
        by_cases hj : keyP a.1 = some j
        · have : k ≠ j := fun e => ha (e ▸ hj)
          rw [if_neg this]
          simp [dgetP, List.find?_cons, hj]
        · have a1 : dgetP (a :: r.map fun kv => if keyP kv.1 = some k then (kv.1, v) else kv) j = dgetP (r.map fun kv => if keyP kv.1 = some k then (kv.1, v) else kv) j := by simp [dgetP, List.find?_cons, hj]
          have a2 : dgetP (a :: r) j = dgetP r j := by simp [dgetP, List.find?_cons, hj]
          rw [a1, a2, ih]
  · rename_i h
    have hn : ∀ x ∈ kvs, keyP x.1 ≠ some k := fun x hx e => h (List.any_eq_true.mpr ⟨x, hx, by simpa using e⟩)
    unfold dgetP
    rw [List.find?_append]
    by_cases e : k = j
    · subst e
      have : kvs.find? (fun kv => decide (keyP kv.1 = some k)) = none := by
        rw [List.find?_eq_none]
        intro x hx
        simpa using hn x hx
      rw [this]
      simp [kk]
    · rw [if_neg e]
      cases q : kvs.find? (fun kv => decide (keyP kv.1 = some j)) with
      | some x => simp
      | none => simp [List.find?_cons, kk, e]
theorem items_rng3 (i : Int) (h : -1 ≤ i ∧ i ≤ 1000000) : items .rng3 [.pv (.int i), .pv (.int (-1)), .pv (.int (-1))] = some (rngD i (i + 1).toNat) := by
  show (if _ then _ else _) = _
  rw [if_pos ⟨rfl, by omega, by omega, by omega, by omega, by unfold maxLen; omega⟩]
  rw [show i - -1 = i + 1 by omega]
theorem rngD_map (n : Nat) : rngD ((n : Int) - 1) n = (List.range n).reverse.map fun j : Nat => PyData.int (j : Int) := by
  induction n with
  | zero => rfl
  | succ n ih =>
    rw [List.range_succ, List.reverse_append, List.reverse_singleton, List.singleton_append, List.map_cons, ← ih]
    show PyData.int _ :: rngD _ n = PyData.int _ :: _
    have e1 : ((n + 1 : Nat) : Int) - 1 = n := by omega
    rw [e1]
end Mi
set_option Elab.async false
set_option linter.all false
set_option maxRecDepth 100000
set_option autoImplicit false
namespace Lw
open PySem Mi
def i_is_integer : TL :=
 (.cons (.ret (.and_ (.isi (.var 0) .tint) (.not_ (.isi (.var 0) .tbool))))
 .nil)
def f_is_integer : Fn := ⟨⟨#[105, 115, 95, 105, 110, 116, 101, 103, 101, 114]⟩, [⟨#[116, 104, 105, 110, 103]⟩], [⟨#[116, 104, 105, 110, 103]⟩], i_is_integer⟩
def i_is_between : TL :=
 (.cons (.ret (.and_ (.pcall 0 (.cons (.var 0) .nil)) (.cmp2 .LtE .LtE (.var 1) (.var 0) (.var 2))))
 .nil)
def f_is_between : Fn := ⟨⟨#[105, 115, 95, 98, 101, 116, 119, 101, 101, 110]⟩, [⟨#[116, 104, 105, 110, 103]⟩, ⟨#[108, 101, 97, 115, 116]⟩, ⟨#[103, 114, 101, 97, 116, 101, 115, 116]⟩], [⟨#[116, 104, 105, 110, 103]⟩, ⟨#[108, 101, 97, 115, 116]⟩, ⟨#[103, 114, 101, 97, 116, 101, 115, 116]⟩], i_is_between⟩
def i_need_count : TL :=
 (.cons (.if_ (.not_ (.pcall 1 (.cons (.var 0) (.cons (.cst (.int 1)) (.cons (.gcst ⟨#[77, 79, 83, 84, 95, 87, 79, 82, 76, 68, 83]⟩ (.int 8)) .nil)))))
 (.cons (.raise ⟨#[78, 111, 67, 111, 117, 110, 116]⟩ .nil)
 .nil)
 .nil)
 .nil)
def f_need_count : Fn := ⟨⟨#[110, 101, 101, 100, 95, 99, 111, 117, 110, 116]⟩, [⟨#[116, 104, 105, 110, 103]⟩], [⟨#[116, 104, 105, 110, 103]⟩], i_need_count⟩
def e_bits_of_1 : E :=
 (.bin .LShift (.cst (.int 1)) (.var 1))
def i_bits_of : TL :=
 (.cons (.ret (.bi .sum (.cons (.lc (.nm 1) .seq (.cons (.var 0) .nil) .nil e_bits_of_1 [1]) .nil)))
 .nil)
def f_bits_of : Fn := ⟨⟨#[98, 105, 116, 115, 95, 111, 102]⟩, [⟨#[108, 111, 116]⟩], [⟨#[108, 111, 116]⟩, ⟨#[119, 111, 114, 108, 100]⟩], i_bits_of⟩
def q_lot_at_1 : EL :=
 (.cons (.bin .BitAnd (.bin .RShift (.var 1) (.var 2)) (.cst (.int 1))) .nil)
def e_lot_at_2 : E :=
 (.var 2)
def i_lot_at : TL :=
 (.cons (.ret (.bi .tuple (.cons (.lc (.nm 2) .rng1 (.cons (.var 0) .nil) q_lot_at_1 e_lot_at_2 [2]) .nil)))
 .nil)
def f_lot_at : Fn := ⟨⟨#[108, 111, 116, 95, 97, 116]⟩, [⟨#[109, 97, 110, 121]⟩, ⟨#[98, 105, 116, 115]⟩], [⟨#[109, 97, 110, 121]⟩, ⟨#[98, 105, 116, 115]⟩, ⟨#[119, 111, 114, 108, 100]⟩], i_lot_at⟩
def e_lots_of_1 : E :=
 (.pcall 4 (.cons (.var 0) (.cons (.var 1) .nil)))
def i_lots_of : TL :=
 (.cons (.ret (.lc (.nm 1) .rng2 (.cons (.cst (.int 1)) (.cons (.bin .LShift (.cst (.int 1)) (.var 0)) .nil)) .nil e_lots_of_1 [1]))
 .nil)
def f_lots_of : Fn := ⟨⟨#[108, 111, 116, 115, 95, 111, 102]⟩, [⟨#[109, 97, 110, 121]⟩], [⟨#[109, 97, 110, 121]⟩, ⟨#[98, 105, 116, 115]⟩], i_lots_of⟩
def e_are_ranks_1 : E :=
 (.and_ (.pcall 0 (.cons (.var 2) .nil)) (.cmp .GtE (.var 2) (.cst (.int 0))))
def i_are_ranks : TL :=
 (.cons (.if_ (.or_ (.not_ (.isi (.var 1) .ttuple)) (.cmp .NotEq (.bi .len (.cons (.var 1) .nil)) (.var 0)))
 (.cons (.ret (.cst (.bool false)))
 .nil)
 .nil)
 (.cons (.ret (.bi .all (.cons (.lc (.nm 2) .seq (.cons (.var 1) .nil) .nil e_are_ranks_1 [2]) .nil)))
 .nil))
def f_are_ranks : Fn := ⟨⟨#[97, 114, 101, 95, 114, 97, 110, 107, 115]⟩, [⟨#[109, 97, 110, 121]⟩, ⟨#[116, 104, 105, 110, 103]⟩], [⟨#[109, 97, 110, 121]⟩, ⟨#[116, 104, 105, 110, 103]⟩, ⟨#[114, 97, 110, 107]⟩], i_are_ranks⟩
def i_need_ranks : TL :=
 (.cons (.if_ (.or_ (.not_ (.isi (.var 0) .ttuple)) (.or_ (.not_ (.cmp2 .LtE .LtE (.cst (.int 1)) (.bi .len (.cons (.var 0) .nil)) (.gcst ⟨#[77, 79, 83, 84, 95, 87, 79, 82, 76, 68, 83]⟩ (.int 8)))) (.not_ (.pcall 6 (.cons (.bi .len (.cons (.var 0) .nil)) (.cons (.var 0) .nil))))))
 (.cons (.raise ⟨#[78, 111, 82, 97, 110, 107, 115]⟩ .nil)
 .nil)
 .nil)
 .nil)
def f_need_ranks : Fn := ⟨⟨#[110, 101, 101, 100, 95, 114, 97, 110, 107, 115]⟩, [⟨#[116, 104, 105, 110, 103]⟩], [⟨#[116, 104, 105, 110, 103]⟩], i_need_ranks⟩
def q_least_of_1 : EL :=
 (.cons (.cmp .Eq (.idx (.var 0) (.var 3)) (.var 2)) .nil)
def e_least_of_2 : E :=
 (.var 3)
def e_least_of_3 : E :=
 (.idx (.var 0) (.var 3))
def i_least_of : TL :=
 (.cons (.asg (.nm 2) (.bi .min (.cons (.lc (.nm 3) .seq (.cons (.var 1) .nil) .nil e_least_of_3 [3]) .nil)))
 (.cons (.ret (.bi .tuple (.cons (.lc (.nm 3) .seq (.cons (.var 1) .nil) q_least_of_1 e_least_of_2 [3]) .nil)))
 .nil))
def f_least_of : Fn := ⟨⟨#[108, 101, 97, 115, 116, 95, 111, 102]⟩, [⟨#[114, 97, 110, 107, 115]⟩, ⟨#[108, 111, 116]⟩], [⟨#[114, 97, 110, 107, 115]⟩, ⟨#[108, 111, 116]⟩, ⟨#[108, 101, 97, 115, 116]⟩, ⟨#[119, 111, 114, 108, 100]⟩], i_least_of⟩
def e_dense_of_1 : E :=
 (.idx (.var 1) (.var 3))
def e_dense_of_2 : E :=
 (.var 3)
def v_dense_of_3 : E :=
 (.cst (.bool true))
def e_dense_of_4 : E :=
 (.var 3)
def v_dense_of_5 : E :=
 (.var 2)
def i_dense_of : TL :=
 (.cons (.asg (.nm 1) (.dcomp (.tup (.cons (.nm 2) (.cons (.nm 3) .nil))) .enum (.cons (.dsrt (.dcomp (.nm 3) .seq (.cons (.var 0) .nil) .nil e_dense_of_2 v_dense_of_3 [3])) .nil) .nil e_dense_of_4 v_dense_of_5 [2, 3]))
 (.cons (.ret (.bi .tuple (.cons (.lc (.nm 3) .seq (.cons (.var 0) .nil) .nil e_dense_of_1 [3]) .nil)))
 .nil))
def f_dense_of : Fn := ⟨⟨#[100, 101, 110, 115, 101, 95, 111, 102]⟩, [⟨#[114, 97, 110, 107, 115]⟩], [⟨#[114, 97, 110, 107, 115]⟩, ⟨#[110, 97, 109, 101, 115]⟩, ⟨#[97, 116]⟩, ⟨#[114, 97, 110, 107]⟩], i_dense_of⟩
def e_table_of_1 : E :=
 (.pcall 8 (.cons (.var 0) (.cons (.var 1) .nil)))
def i_table_of : TL :=
 (.cons (.ret (.bi .tuple (.cons (.lc (.nm 1) .seq (.cons (.pcall 5 (.cons (.bi .len (.cons (.var 0) .nil)) .nil)) .nil) .nil e_table_of_1 [1]) .nil)))
 .nil)
def f_table_of : Fn := ⟨⟨#[116, 97, 98, 108, 101, 95, 111, 102]⟩, [⟨#[114, 97, 110, 107, 115]⟩], [⟨#[114, 97, 110, 107, 115]⟩, ⟨#[108, 111, 116]⟩], i_table_of⟩
def i_table_of_ranks : TL :=
 (.cons (.expr (.pcall 7 (.cons (.var 0) .nil)))
 (.cons (.ret (.pcall 10 (.cons (.var 0) .nil)))
 .nil))
def f_table_of_ranks : Fn := ⟨⟨#[116, 97, 98, 108, 101, 95, 111, 102, 95, 114, 97, 110, 107, 115]⟩, [⟨#[114, 97, 110, 107, 115]⟩], [⟨#[114, 97, 110, 107, 115]⟩], i_table_of_ranks⟩
def e_is_world_lot_1 : E :=
 (.cmp .Lt (.idx (.var 1) (.bin .Sub (.var 2) (.cst (.int 1)))) (.idx (.var 1) (.var 2)))
def e_is_world_lot_2 : E :=
 (.pcall 1 (.cons (.var 3) (.cons (.cst (.int 0)) (.cons (.bin .Sub (.var 0) (.cst (.int 1))) .nil))))
def i_is_world_lot : TL :=
 (.cons (.if_ (.or_ (.not_ (.isi (.var 1) .ttuple)) (.not_ (.bi .all (.cons (.lc (.nm 3) .seq (.cons (.var 1) .nil) .nil e_is_world_lot_2 [3]) .nil))))
 (.cons (.ret (.cst (.bool false)))
 .nil)
 .nil)
 (.cons (.ret (.bi .all (.cons (.lc (.nm 2) .rng2 (.cons (.cst (.int 1)) (.cons (.bi .len (.cons (.var 1) .nil)) .nil)) .nil e_is_world_lot_1 [2]) .nil)))
 .nil))
def f_is_world_lot : Fn := ⟨⟨#[105, 115, 95, 119, 111, 114, 108, 100, 95, 108, 111, 116]⟩, [⟨#[109, 97, 110, 121]⟩, ⟨#[116, 104, 105, 110, 103]⟩], [⟨#[109, 97, 110, 121]⟩, ⟨#[116, 104, 105, 110, 103]⟩, ⟨#[97, 116]⟩, ⟨#[119, 111, 114, 108, 100]⟩], i_is_world_lot⟩
def e_is_table_of_1 : E :=
 (.pcall 12 (.cons (.var 0) (.cons (.var 2) .nil)))
def i_is_table_of : TL :=
 (.cons (.if_ (.or_ (.not_ (.isi (.var 1) .ttuple)) (.cmp .NotEq (.bi .len (.cons (.var 1) .nil)) (.bin .Sub (.bin .LShift (.cst (.int 1)) (.var 0)) (.cst (.int 1)))))
 (.cons (.ret (.cst (.bool false)))
 .nil)
 .nil)
 (.cons (.ret (.bi .all (.cons (.lc (.nm 2) .seq (.cons (.var 1) .nil) .nil e_is_table_of_1 [2]) .nil)))
 .nil))
def f_is_table_of : Fn := ⟨⟨#[105, 115, 95, 116, 97, 98, 108, 101, 95, 111, 102]⟩, [⟨#[109, 97, 110, 121]⟩, ⟨#[116, 104, 105, 110, 103]⟩], [⟨#[109, 97, 110, 121]⟩, ⟨#[116, 104, 105, 110, 103]⟩, ⟨#[108, 111, 116]⟩], i_is_table_of⟩
def i_need_table : TL :=
 (.cons (.expr (.pcall 2 (.cons (.var 0) .nil)))
 (.cons (.if_ (.not_ (.pcall 13 (.cons (.var 0) (.cons (.var 1) .nil))))
 (.cons (.raise ⟨#[78, 111, 84, 97, 98, 108, 101]⟩ .nil)
 .nil)
 .nil)
 .nil))
def f_need_table : Fn := ⟨⟨#[110, 101, 101, 100, 95, 116, 97, 98, 108, 101]⟩, [⟨#[109, 97, 110, 121]⟩, ⟨#[116, 104, 105, 110, 103]⟩], [⟨#[109, 97, 110, 121]⟩, ⟨#[116, 104, 105, 110, 103]⟩], i_need_table⟩
def q_meet_1 : EL :=
 (.cons (.cmp .In (.var 2) (.var 1)) .nil)
def e_meet_2 : E :=
 (.var 2)
def i_meet : TL :=
 (.cons (.ret (.bi .tuple (.cons (.lc (.nm 2) .seq (.cons (.var 0) .nil) q_meet_1 e_meet_2 [2]) .nil)))
 .nil)
def f_meet : Fn := ⟨⟨#[109, 101, 101, 116]⟩, [⟨#[111, 110, 101]⟩, ⟨#[111, 116, 104, 101, 114]⟩], [⟨#[111, 110, 101]⟩, ⟨#[111, 116, 104, 101, 114]⟩, ⟨#[119, 111, 114, 108, 100]⟩], i_meet⟩
def e_is_within_1 : E :=
 (.cmp .In (.var 2) (.var 1))
def i_is_within : TL :=
 (.cons (.ret (.bi .all (.cons (.lc (.nm 2) .seq (.cons (.var 0) .nil) .nil e_is_within_1 [2]) .nil)))
 .nil)
def f_is_within : Fn := ⟨⟨#[105, 115, 95, 119, 105, 116, 104, 105, 110]⟩, [⟨#[111, 110, 101]⟩, ⟨#[111, 116, 104, 101, 114]⟩], [⟨#[111, 110, 101]⟩, ⟨#[111, 116, 104, 101, 114]⟩, ⟨#[119, 111, 114, 108, 100]⟩], i_is_within⟩
def i_is_choice_broken : TL :=
 (.cons (.if_ (.or_ (.cmp .Eq (.bi .len (.cons (.var 1) .nil)) (.cst (.int 0))) (.not_ (.pcall 16 (.cons (.var 1) (.cons (.var 2) .nil)))))
 (.cons (.ret (.cst (.bool false)))
 .nil)
 .nil)
 (.cons (.asg (.nm 3) (.pcall 15 (.cons (.idx (.var 0) (.bin .Sub (.pcall 3 (.cons (.var 2) .nil)) (.cst (.int 1)))) (.cons (.var 1) .nil))))
 (.cons (.ret (.and_ (.cmp .Gt (.bi .len (.cons (.var 3) .nil)) (.cst (.int 0))) (.cmp .NotEq (.idx (.var 0) (.bin .Sub (.pcall 3 (.cons (.var 1) .nil)) (.cst (.int 1)))) (.var 3))))
 .nil)))
def f_is_choice_broken : Fn := ⟨⟨#[105, 115, 95, 99, 104, 111, 105, 99, 101, 95, 98, 114, 111, 107, 101, 110]⟩, [⟨#[116, 97, 98, 108, 101]⟩, ⟨#[108, 111, 116]⟩, ⟨#[111, 116, 104, 101, 114]⟩], [⟨#[116, 97, 98, 108, 101]⟩, ⟨#[108, 111, 116]⟩, ⟨#[111, 116, 104, 101, 114]⟩, ⟨#[115, 104, 97, 114, 101, 100]⟩], i_is_choice_broken⟩
def b_first_break_1 : TL :=
 (.cons (.if_ (.pcall 17 (.cons (.var 1) (.cons (.var 4) (.cons (.var 3) .nil))))
 (.cons (.ret (.tup (.cons (.cst (.str ⟨#[108, 97, 119]⟩)) (.cons (.cst (.str ⟨#[99, 104, 111, 105, 99, 101]⟩)) (.cons (.var 4) (.cons (.var 3) .nil))))))
 .nil)
 .nil)
 .nil)
def b_first_break_2 : TL :=
 (.cons (.for_ (.nm 4) .seq (.cons (.var 2) .nil) b_first_break_1)
 .nil)
def b_first_break_3 : TL :=
 (.cons (.if_ (.cmp .Eq (.bi .len (.cons (.var 5) .nil)) (.cst (.int 0)))
 (.cons (.ret (.tup (.cons (.cst (.str ⟨#[108, 97, 119]⟩)) (.cons (.cst (.str ⟨#[110, 111, 110, 101]⟩)) (.cons (.var 4) (.cons (.var 5) .nil))))))
 .nil)
 .nil)
 (.cons (.if_ (.not_ (.pcall 16 (.cons (.var 5) (.cons (.var 4) .nil))))
 (.cons (.ret (.tup (.cons (.cst (.str ⟨#[108, 97, 119]⟩)) (.cons (.cst (.str ⟨#[119, 105, 116, 104, 105, 110]⟩)) (.cons (.var 4) (.cons (.var 5) .nil))))))
 .nil)
 .nil)
 .nil))
def i_first_break : TL :=
 (.cons (.asg (.nm 2) (.pcall 5 (.cons (.var 0) .nil)))
 (.cons (.for_ (.tup (.cons (.nm 4) (.cons (.nm 5) .nil))) .zip (.cons (.var 2) (.cons (.var 1) .nil)) b_first_break_3)
 (.cons (.for_ (.nm 3) .seq (.cons (.var 2) .nil) b_first_break_2)
 (.cons (.ret (.cst .none))
 .nil))))
def f_first_break : Fn := ⟨⟨#[102, 105, 114, 115, 116, 95, 98, 114, 101, 97, 107]⟩, [⟨#[109, 97, 110, 121]⟩, ⟨#[116, 97, 98, 108, 101]⟩], [⟨#[109, 97, 110, 121]⟩, ⟨#[116, 97, 98, 108, 101]⟩, ⟨#[108, 111, 116, 115]⟩, ⟨#[111, 116, 104, 101, 114]⟩, ⟨#[108, 111, 116]⟩, ⟨#[116, 111, 108, 100]⟩], i_first_break⟩
def q_ranks_by_pairs_1 : EL :=
 (.cons (.cmp .Eq (.idx (.var 1) (.bin .Sub (.pcall 3 (.cons (.tup (.cons (.var 3) (.cons (.var 5) .nil))) .nil)) (.cst (.int 1)))) (.tup (.cons (.var 5) .nil))) .nil)
def e_ranks_by_pairs_2 : E :=
 (.var 5)
def q_ranks_by_pairs_3 : EL :=
 (.cons (.cmp .NotEq (.var 5) (.var 3)) .nil)
def e_ranks_by_pairs_4 : E :=
 (.var 5)
def b_ranks_by_pairs_5 : TL :=
 (.cons (.asg (.nm 4) (.lc (.nm 5) .rng1 (.cons (.var 0) .nil) q_ranks_by_pairs_3 e_ranks_by_pairs_4 [5]))
 (.cons (.expr (.app (.var 2) (.bi .len (.cons (.lc (.nm 5) .seq (.cons (.var 4) .nil) q_ranks_by_pairs_1 e_ranks_by_pairs_2 [5]) .nil))))
 .nil))
def i_ranks_by_pairs : TL :=
 (.cons (.asg (.nm 2) (.lstm .nil))
 (.cons (.for_ (.nm 3) .rng1 (.cons (.var 0) .nil) b_ranks_by_pairs_5)
 (.cons (.ret (.pcall 9 (.cons (.bi .tuple (.cons (.var 2) .nil)) .nil)))
 .nil)))
def f_ranks_by_pairs : Fn := ⟨⟨#[114, 97, 110, 107, 115, 95, 98, 121, 95, 112, 97, 105, 114, 115]⟩, [⟨#[109, 97, 110, 121]⟩, ⟨#[116, 97, 98, 108, 101]⟩], [⟨#[109, 97, 110, 121]⟩, ⟨#[116, 97, 98, 108, 101]⟩, ⟨#[97, 104, 101, 97, 100]⟩, ⟨#[119, 111, 114, 108, 100]⟩, ⟨#[112, 97, 105, 114, 115]⟩, ⟨#[111, 116, 104, 101, 114]⟩], i_ranks_by_pairs⟩
def i_ranks_of_table_of : TL :=
 (.cons (.asg (.nm 2) (.pcall 18 (.cons (.var 0) (.cons (.var 1) .nil))))
 (.cons (.ret (.ife (.cmp .IsNot (.var 2) (.cst .none)) (.var 2) (.tup (.cons (.cst (.str ⟨#[114, 97, 110, 107, 115]⟩)) (.cons (.pcall 19 (.cons (.var 0) (.cons (.var 1) .nil))) .nil)))))
 .nil))
def f_ranks_of_table_of : Fn := ⟨⟨#[114, 97, 110, 107, 115, 95, 111, 102, 95, 116, 97, 98, 108, 101, 95, 111, 102]⟩, [⟨#[109, 97, 110, 121]⟩, ⟨#[116, 97, 98, 108, 101]⟩], [⟨#[109, 97, 110, 121]⟩, ⟨#[116, 97, 98, 108, 101]⟩, ⟨#[98, 114, 111, 107, 101, 110]⟩], i_ranks_of_table_of⟩
def i_ranks_of_table : TL :=
 (.cons (.expr (.pcall 14 (.cons (.var 0) (.cons (.var 1) .nil))))
 (.cons (.ret (.pcall 20 (.cons (.var 0) (.cons (.var 1) .nil))))
 .nil))
def f_ranks_of_table : Fn := ⟨⟨#[114, 97, 110, 107, 115, 95, 111, 102, 95, 116, 97, 98, 108, 101]⟩, [⟨#[109, 97, 110, 121]⟩, ⟨#[116, 97, 98, 108, 101]⟩], [⟨#[109, 97, 110, 121]⟩, ⟨#[116, 97, 98, 108, 101]⟩], i_ranks_of_table⟩
def b_choose_1 : TL :=
 (.cons (.asg (.nm 2) (.bin .FloorDiv (.bin .Mult (.var 2) (.bin .Sub (.var 0) (.var 3))) (.bin .Add (.var 3) (.cst (.int 1)))))
 .nil)
def i_choose : TL :=
 (.cons (.asg (.nm 2) (.cst (.int 1)))
 (.cons (.for_ (.nm 3) .rng1 (.cons (.var 1) .nil) b_choose_1)
 (.cons (.ret (.var 2))
 .nil)))
def f_choose : Fn := ⟨⟨#[99, 104, 111, 111, 115, 101]⟩, [⟨#[109, 97, 110, 121]⟩, ⟨#[115, 111, 109, 101]⟩], [⟨#[109, 97, 110, 121]⟩, ⟨#[115, 111, 109, 101]⟩, ⟨#[102, 111, 117, 110, 100]⟩, ⟨#[97, 116]⟩], i_choose⟩
def e_orders_upto_1 : E :=
 (.bin .Mult (.pcall 22 (.cons (.var 2) (.cons (.var 3) .nil))) (.idx (.var 1) (.bin .Sub (.var 2) (.var 3))))
def b_orders_upto_2 : TL :=
 (.cons (.expr (.app (.var 1) (.bi .sum (.cons (.lc (.nm 3) .rng2 (.cons (.cst (.int 1)) (.cons (.bin .Add (.var 2) (.cst (.int 1))) .nil)) .nil e_orders_upto_1 [3]) .nil))))
 .nil)
def i_orders_upto : TL :=
 (.cons (.asg (.nm 1) (.lstm (.cons (.cst (.int 1)) .nil)))
 (.cons (.for_ (.nm 2) .rng2 (.cons (.cst (.int 1)) (.cons (.bin .Add (.var 0) (.cst (.int 1))) .nil)) b_orders_upto_2)
 (.cons (.ret (.frz (.var 1)))
 .nil)))
def f_orders_upto : Fn := ⟨⟨#[111, 114, 100, 101, 114, 115, 95, 117, 112, 116, 111]⟩, [⟨#[109, 97, 110, 121]⟩], [⟨#[109, 97, 110, 121]⟩, ⟨#[102, 111, 117, 110, 100]⟩, ⟨#[115, 105, 122, 101]⟩, ⟨#[115, 111, 109, 101]⟩], i_orders_upto⟩
def i_many_orders : TL :=
 (.cons (.expr (.pcall 2 (.cons (.var 0) .nil)))
 (.cons (.ret (.idx (.pcall 23 (.cons (.var 0) .nil)) (.var 0)))
 .nil))
def f_many_orders : Fn := ⟨⟨#[109, 97, 110, 121, 95, 111, 114, 100, 101, 114, 115]⟩, [⟨#[109, 97, 110, 121]⟩], [⟨#[109, 97, 110, 121]⟩], i_many_orders⟩
def q_many_with_1 : EL :=
 (.cons (.cmp .NotIn (.var 5) (.var 0)) .nil)
def e_many_with_2 : E :=
 (.var 5)
def b_many_with_3 : TL :=
 (.cons (.asg (.nm 4) (.bi .len (.cons (.lc (.nm 5) .rng1 (.cons (.bin .Add (.var 3) (.cst (.int 1))) .nil) q_many_with_1 e_many_with_2 [5]) .nil)))
 (.cons (.aug 2 .Add (.pcall 26 (.cons (.bin .Sub (.var 1) (.bi .len (.cons (.var 0) .nil))) (.cons (.bin .Add (.var 3) (.cst (.int 1))) (.cons (.var 4) .nil)))))
 .nil))
def i_many_with : TL :=
 (.cons (.asg (.nm 2) (.cst (.int 0)))
 (.cons (.for_ (.nm 3) .rng2 (.cons (.bi .max (.cons (.bin .Add (.var 0) (.lstv (.cons (.cst (.int 0)) .nil))) .nil)) (.cons (.var 1) .nil)) b_many_with_3)
 (.cons (.ret (.var 2))
 .nil)))
def f_many_with : Fn := ⟨⟨#[109, 97, 110, 121, 95, 119, 105, 116, 104]⟩, [⟨#[98, 101, 103, 105, 110]⟩, ⟨#[109, 97, 110, 121]⟩], [⟨#[98, 101, 103, 105, 110]⟩, ⟨#[109, 97, 110, 121]⟩, ⟨#[116, 111, 116, 97, 108]⟩, ⟨#[103, 114, 101, 97, 116, 101, 115, 116]⟩, ⟨#[108, 97, 99, 107, 105, 110, 103]⟩, ⟨#[114, 97, 110, 107]⟩], i_many_with⟩
def b_onto_1 : TL :=
 (.cons (.asg (.nm 5) (.bin .Mult (.var 5) (.bin .Sub (.var 1) (.var 4))))
 .nil)
def b_onto_2 : TL :=
 (.cons (.asg (.nm 5) (.cst (.int 1)))
 (.cons (.for_ (.nm 6) .rng1 (.cons (.var 0) .nil) b_onto_1)
 (.cons (.aug 3 .Add (.bin .Mult (.bin .Mult (.pcall 22 (.cons (.var 2) (.cons (.var 4) .nil))) (.var 5)) (.ife (.cmp .Eq (.bin .Mod (.var 4) (.cst (.int 2))) (.cst (.int 0))) (.cst (.int 1)) (.un .USub (.cst (.int 1))))))
 .nil)))
def i_onto : TL :=
 (.cons (.asg (.nm 3) (.cst (.int 0)))
 (.cons (.for_ (.nm 4) .rng1 (.cons (.bin .Add (.var 2) (.cst (.int 1))) .nil) b_onto_2)
 (.cons (.ret (.var 3))
 .nil)))
def f_onto : Fn := ⟨⟨#[111, 110, 116, 111]⟩, [⟨#[108, 101, 102, 116]⟩, ⟨#[114, 97, 110, 107, 115]⟩, ⟨#[108, 97, 99, 107, 105, 110, 103]⟩], [⟨#[108, 101, 102, 116]⟩, ⟨#[114, 97, 110, 107, 115]⟩, ⟨#[108, 97, 99, 107, 105, 110, 103]⟩, ⟨#[116, 111, 116, 97, 108]⟩, ⟨#[111, 117, 116]⟩, ⟨#[114, 111, 119, 115]⟩, ⟨#[95]⟩], i_onto⟩
def w_order_at_1 : E :=
 (.cmp .Lt (.bi .len (.cons (.var 2) .nil)) (.var 0))
def w_order_at_2 : E :=
 (.cmp .GtE (.var 1) (.pcall 25 (.cons (.catm (.var 2) (.lstv (.cons (.var 3) .nil))) (.cons (.var 0) .nil))))
def b_order_at_3 : TL :=
 (.cons (.aug 1 .Sub (.pcall 25 (.cons (.catm (.var 2) (.lstv (.cons (.var 3) .nil))) (.cons (.var 0) .nil))))
 (.cons (.aug 3 .Add (.cst (.int 1)))
 .nil))
def b_order_at_4 : TL :=
 (.cons (.asg (.nm 3) (.cst (.int 0)))
 (.cons (.while_ w_order_at_2 b_order_at_3)
 (.cons (.expr (.app (.var 2) (.var 3)))
 .nil)))
def i_order_at : TL :=
 (.cons (.expr (.pcall 2 (.cons (.var 0) .nil)))
 (.cons (.if_ (.not_ (.pcall 1 (.cons (.var 1) (.cons (.cst (.int 0)) (.cons (.bin .Sub (.idx (.pcall 23 (.cons (.var 0) .nil)) (.var 0)) (.cst (.int 1))) .nil)))))
 (.cons (.raise ⟨#[78, 111, 78, 117, 109, 98, 101, 114]⟩ .nil)
 .nil)
 .nil)
 (.cons (.asg (.nm 2) (.lstm .nil))
 (.cons (.while_ w_order_at_1 b_order_at_4)
 (.cons (.ret (.bi .tuple (.cons (.var 2) .nil)))
 .nil)))))
def f_order_at : Fn := ⟨⟨#[111, 114, 100, 101, 114, 95, 97, 116]⟩, [⟨#[109, 97, 110, 121]⟩, ⟨#[110, 117, 109, 98, 101, 114]⟩], [⟨#[109, 97, 110, 121]⟩, ⟨#[110, 117, 109, 98, 101, 114]⟩, ⟨#[102, 111, 117, 110, 100]⟩, ⟨#[114, 97, 110, 107]⟩], i_order_at⟩
def e_order_number_1 : E :=
 (.pcall 25 (.cons (.bin .Add (.bi .list (.cons (.slc (.var 0) .no (.some (.var 2))) .nil)) (.lstv (.cons (.var 4) .nil))) (.cons (.bi .len (.cons (.var 0) .nil)) .nil)))
def b_order_number_2 : TL :=
 (.cons (.aug 1 .Add (.bi .sum (.cons (.lc (.nm 4) .rng1 (.cons (.var 3) .nil) .nil e_order_number_1 [4]) .nil)))
 .nil)
def i_order_number : TL :=
 (.cons (.expr (.pcall 7 (.cons (.var 0) .nil)))
 (.cons (.if_ (.cmp .NotEq (.pcall 9 (.cons (.var 0) .nil)) (.var 0))
 (.cons (.raise ⟨#[78, 111, 82, 97, 110, 107, 115]⟩ .nil)
 .nil)
 .nil)
 (.cons (.asg (.nm 1) (.cst (.int 0)))
 (.cons (.for_ (.tup (.cons (.nm 2) (.cons (.nm 3) .nil))) .enum (.cons (.var 0) .nil) b_order_number_2)
 (.cons (.ret (.var 1))
 .nil)))))
def f_order_number : Fn := ⟨⟨#[111, 114, 100, 101, 114, 95, 110, 117, 109, 98, 101, 114]⟩, [⟨#[114, 97, 110, 107, 115]⟩], [⟨#[114, 97, 110, 107, 115]⟩, ⟨#[116, 111, 116, 97, 108]⟩, ⟨#[97, 116]⟩, ⟨#[114, 97, 110, 107]⟩, ⟨#[108, 101, 115, 115]⟩], i_order_number⟩
def e__law_hand_1 : E :=
 (.bi .abs (.cons (.bi .int (.cons (.var 2) .nil)) .nil))
def i__law_hand : TL :=
 (.cons (.asg (.nm 1) (.lc (.nm 2) .seq (.cons (.slc (.var 0) .no (.some (.cst (.int 63)))) .nil) .nil e__law_hand_1 [2]))
 (.cons (.ret (.lstm (.cons (.var 1) (.cons (.cst (.int 0)) (.cons (.cst (.int 0)) (.cons (.bin .Add (.cst (.int 31)) (.bin .Mult (.cst (.int 7)) (.bi .len (.cons (.var 1) .nil)))) (.cons (.cst (.int 0)) .nil)))))))
 .nil))
def f__law_hand : Fn := ⟨⟨#[95, 108, 97, 119, 95, 104, 97, 110, 100]⟩, [⟨#[115, 99, 114, 105, 112, 116]⟩], [⟨#[115, 99, 114, 105, 112, 116]⟩, ⟨#[99, 101, 108, 108, 115]⟩, ⟨#[99, 101, 108, 108]⟩], i__law_hand⟩
def i__law_draw : TL :=
 (.cons (.if_ (.and_ (.cmp .Eq (.idx (.var 0) (.cst (.int 2))) (.cst (.int 0))) (.cmp .Lt (.idx (.var 0) (.cst (.int 1))) (.bi .len (.cons (.idx (.var 0) (.cst (.int 0))) .nil))))
 (.cons (.asg (.nm 3) (.idx (.idx (.var 0) (.cst (.int 0))) (.idx (.var 0) (.cst (.int 1)))))
 (.cons (.asg (.sub (.var 0) (.cst (.int 1))) (.bin .Add (.idx (.var 0) (.cst (.int 1))) (.cst (.int 1))))
 (.cons (.asg (.sub (.var 0) (.cst (.int 3))) (.bin .Mod (.bi .int (.cons (.bin .Add (.bin .Add (.bin .Mult (.idx (.var 0) (.cst (.int 3))) (.cst (.int 48271))) (.var 3)) (.cst (.int 11))) .nil)) (.cst (.int 2147483647))))
 (.cons (.if_ (.cmp .GtE (.var 3) (.bin .Pow (.cst (.int 10)) (.cst (.int 18))))
 (.cons (.asg (.sub (.var 0) (.cst (.int 2))) (.var 3))
 .nil)
 .nil)
 .nil))))
 .nil)
 (.cons (.if_ (.cmp .Gt (.idx (.var 0) (.cst (.int 2))) (.cst (.int 0)))
 (.cons (.asg (.nm 4) (.bin .Mod (.bi .int (.cons (.idx (.var 0) (.cst (.int 2))) .nil)) (.var 1)))
 (.cons (.asg (.sub (.var 0) (.cst (.int 2))) (.bin .FloorDiv (.idx (.var 0) (.cst (.int 2))) (.var 1)))
 (.cons (.ret (.var 4))
 .nil)))
 .nil)
 (.cons (.asg (.sub (.var 0) (.cst (.int 4))) (.bin .Add (.idx (.var 0) (.cst (.int 4))) (.cst (.int 1))))
 (.cons (.asg (.nm 2) (.bin .Mod (.bi .int (.cons (.bin .Mult (.bi .int (.cons (.bin .Add (.idx (.var 0) (.cst (.int 3))) (.bin .Mult (.cst (.int 6007)) (.idx (.var 0) (.cst (.int 4))))) .nil)) (.cst (.int 69621))) .nil)) (.cst (.int 2147483629))))
 (.cons (.asg (.nm 2) (.bin .Mod (.bi .int (.cons (.bin .Mult (.var 2) (.bin .Add (.bin .FloorDiv (.var 2) (.cst (.int 1013))) (.cst (.int 48271)))) .nil)) (.cst (.int 2147483647))))
 (.cons (.asg (.nm 2) (.bin .Mod (.bi .int (.cons (.bin .Mult (.var 2) (.bin .Add (.bin .FloorDiv (.var 2) (.cst (.int 2011))) (.cst (.int 16807)))) .nil)) (.cst (.int 2147483587))))
 (.cons (.ret (.bin .Mod (.bi .int (.cons (.bin .FloorDiv (.var 2) (.cst (.int 32))) .nil)) (.var 1)))
 .nil)))))))
def f__law_draw : Fn := ⟨⟨#[95, 108, 97, 119, 95, 100, 114, 97, 119]⟩, [⟨#[104, 97, 110, 100]⟩, ⟨#[109, 97, 110, 121]⟩], [⟨#[104, 97, 110, 100]⟩, ⟨#[109, 97, 110, 121]⟩, ⟨#[110, 117, 109, 98, 101, 114]⟩, ⟨#[99, 101, 108, 108]⟩, ⟨#[100, 105, 103, 105, 116]⟩], i__law_draw⟩
def i__law_some : TL :=
 (.cons (.ret (.idx (.var 1) (.hcall 30 (.cons (.var 0) (.cons (.bi .len (.cons (.var 1) .nil)) .nil)))))
 .nil)
def f__law_some : Fn := ⟨⟨#[95, 108, 97, 119, 95, 115, 111, 109, 101]⟩, [⟨#[104, 97, 110, 100]⟩, ⟨#[116, 104, 105, 110, 103, 115]⟩], [⟨#[104, 97, 110, 100]⟩, ⟨#[116, 104, 105, 110, 103, 115]⟩], i__law_some⟩
def e__law_kept_1 : E :=
 (.pcall 32 (.cons (.idx (.var 0) (.var 2)) (.cons (.idx (.var 1) (.var 2)) .nil)))
def i__law_kept : TL :=
 (.cons (.if_ (.or_ (.isi (.var 1) .ttuple) (.isi (.var 1) .tlist))
 (.cons (.if_ (.or_ (.cmp .NotEq (.isi (.var 0) .ttuple) (.isi (.var 1) .ttuple)) (.cmp .NotEq (.isi (.var 0) .tlist) (.isi (.var 1) .tlist)))
 (.cons (.ret (.cst (.bool false)))
 .nil)
 .nil)
 (.cons (.ret (.and_ (.cmp .Eq (.bi .len (.cons (.var 0) .nil)) (.bi .len (.cons (.var 1) .nil))) (.bi .all (.cons (.lc (.nm 2) .rng1 (.cons (.bi .len (.cons (.var 1) .nil)) .nil) .nil e__law_kept_1 [2]) .nil))))
 .nil))
 .nil)
 (.cons (.if_ (.cmp .Is (.var 1) (.cst .none))
 (.cons (.ret (.cmp .Is (.var 0) (.cst .none)))
 .nil)
 .nil)
 (.cons (.if_ (.isi (.var 1) .tbool)
 (.cons (.ret (.ife (.var 1) (.cmp .Is (.var 0) (.cst (.bool true))) (.cmp .Is (.var 0) (.cst (.bool false)))))
 .nil)
 .nil)
 (.cons (.if_ (.isi (.var 1) .tint)
 (.cons (.ret (.and_ (.isi (.var 0) .tint) (.and_ (.not_ (.isi (.var 0) .tbool)) (.cmp .Eq (.var 0) (.var 1)))))
 .nil)
 .nil)
 (.cons (.ret (.and_ (.isi (.var 0) .tstr) (.cmp .Eq (.var 0) (.var 1))))
 .nil)))))
def f__law_kept : Fn := ⟨⟨#[95, 108, 97, 119, 95, 107, 101, 112, 116]⟩, [⟨#[116, 111, 108, 100]⟩, ⟨#[100, 117, 101]⟩], [⟨#[116, 111, 108, 100]⟩, ⟨#[100, 117, 101]⟩, ⟨#[97, 116]⟩], i__law_kept⟩
def q__law_least_1 : EL :=
 (.cons (.and_ (.cmp .Gt (.bi .len (.cons (.var 2) .nil)) (.cst (.int 0))) (.cmp .Eq (.idx (.var 0) (.var 3)) (.bi .min (.cons (.var 2) .nil)))) .nil)
def e__law_least_2 : E :=
 (.var 3)
def q__law_least_3 : EL :=
 (.cons (.cmp .IsNot (.idx (.var 0) (.var 3)) (.cst .none)) .nil)
def e__law_least_4 : E :=
 (.idx (.var 0) (.var 3))
def i__law_least : TL :=
 (.cons (.asg (.nm 2) (.lc (.nm 3) .seq (.cons (.var 1) .nil) q__law_least_3 e__law_least_4 [3]))
 (.cons (.ret (.bi .tuple (.cons (.lc (.nm 3) .seq (.cons (.var 1) .nil) q__law_least_1 e__law_least_2 [3]) .nil)))
 .nil))
def f__law_least : Fn := ⟨⟨#[95, 108, 97, 119, 95, 108, 101, 97, 115, 116]⟩, [⟨#[114, 97, 110, 107, 115]⟩, ⟨#[108, 111, 116]⟩], [⟨#[114, 97, 110, 107, 115]⟩, ⟨#[108, 111, 116]⟩, ⟨#[116, 111, 108, 100]⟩, ⟨#[119, 111, 114, 108, 100]⟩], i__law_least⟩
def q__law_all_lots_1 : EL :=
 (.cons (.cmp .Eq (.bin .Mod (.bi .int (.cons (.bin .FloorDiv (.var 1) (.bin .LShift (.cst (.int 1)) (.var 2))) .nil)) (.cst (.int 2))) (.cst (.int 1))) .nil)
def e__law_all_lots_2 : E :=
 (.var 2)
def e__law_all_lots_3 : E :=
 (.bi .tuple (.cons (.lc (.nm 2) .rng1 (.cons (.var 0) .nil) q__law_all_lots_1 e__law_all_lots_2 [2]) .nil))
def i__law_all_lots : TL :=
 (.cons (.ret (.lc (.nm 1) .rng2 (.cons (.cst (.int 1)) (.cons (.bin .LShift (.cst (.int 1)) (.var 0)) .nil)) .nil e__law_all_lots_3 [1]))
 .nil)
def f__law_all_lots : Fn := ⟨⟨#[95, 108, 97, 119, 95, 97, 108, 108, 95, 108, 111, 116, 115]⟩, [⟨#[109, 97, 110, 121]⟩], [⟨#[109, 97, 110, 121]⟩, ⟨#[98, 105, 116, 115]⟩, ⟨#[119, 111, 114, 108, 100]⟩], i__law_all_lots⟩
def e__law_table_1 : E :=
 (.pcall 33 (.cons (.var 0) (.cons (.var 1) .nil)))
def i__law_table : TL :=
 (.cons (.ret (.bi .tuple (.cons (.lc (.nm 1) .seq (.cons (.pcall 34 (.cons (.bi .len (.cons (.var 0) .nil)) .nil)) .nil) .nil e__law_table_1 [1]) .nil)))
 .nil)
def f__law_table : Fn := ⟨⟨#[95, 108, 97, 119, 95, 116, 97, 98, 108, 101]⟩, [⟨#[114, 97, 110, 107, 115]⟩], [⟨#[114, 97, 110, 107, 115]⟩, ⟨#[108, 111, 116]⟩], i__law_table⟩
def q__law_orders_1 : EL :=
 (.cons (.cmp .Eq (.sset (.var 4)) (.lrng false (.cons (.bin .Add (.bi .max (.cons (.var 4) .nil)) (.cst (.int 1))) .nil))) .nil)
def e__law_orders_2 : E :=
 (.var 4)
def e__law_orders_3 : E :=
 (.bin .Add (.var 4) (.tup (.cons (.var 5) .nil)))
def b__law_orders_4 : TL :=
 (.cons (.asg (.nm 3) (.bin .Add (.var 3) (.lc (.nm 5) .rng1 (.cons (.var 0) .nil) .nil e__law_orders_3 [5])))
 .nil)
def b__law_orders_5 : TL :=
 (.cons (.asg (.nm 3) (.lstv .nil))
 (.cons (.for_ (.nm 4) .seq (.cons (.var 1) .nil) b__law_orders_4)
 (.cons (.asg (.nm 1) (.var 3))
 .nil)))
def i__law_orders : TL :=
 (.cons (.asg (.nm 1) (.lstv (.cons (.tup .nil) .nil)))
 (.cons (.for_ (.nm 2) .rng1 (.cons (.var 0) .nil) b__law_orders_5)
 (.cons (.ret (.lc (.nm 4) .seq (.cons (.var 1) .nil) q__law_orders_1 e__law_orders_2 [4]))
 .nil)))
def f__law_orders : Fn := ⟨⟨#[95, 108, 97, 119, 95, 111, 114, 100, 101, 114, 115]⟩, [⟨#[109, 97, 110, 121]⟩], [⟨#[109, 97, 110, 121]⟩, ⟨#[114, 111, 119, 115]⟩, ⟨#[119, 111, 114, 108, 100]⟩, ⟨#[108, 111, 110, 103, 101, 114]⟩, ⟨#[114, 111, 119]⟩, ⟨#[114, 97, 110, 107]⟩], i__law_orders⟩
def i__law_refusal : TL :=
 (.cons (.try_ (.cons (.if_ (.cmp .Eq (.var 0) (.cst (.int 0)))
 (.cons (.expr (.pcall 24 (.cons (.var 1) .nil)))
 .nil)
 (.cons (.if_ (.cmp .Eq (.var 0) (.cst (.int 1)))
 (.cons (.expr (.pcall 27 (.cons (.var 1) (.cons (.var 2) .nil))))
 .nil)
 (.cons (.expr (.pcall 28 (.cons (.var 1) .nil)))
 .nil))
 .nil))
 .nil)
 (.named ⟨#[78, 111, 67, 111, 117, 110, 116]⟩ 3 (.cons (.ret (.lstv (.cons (.cst (.str ⟨#[99, 111, 117, 110, 116]⟩)) .nil)))
 .nil) (.named ⟨#[78, 111, 78, 117, 109, 98, 101, 114]⟩ 3 (.cons (.ret (.lstv (.cons (.cst (.str ⟨#[110, 117, 109, 98, 101, 114]⟩)) .nil)))
 .nil) (.named ⟨#[78, 111, 82, 97, 110, 107, 115]⟩ 3 (.cons (.ret (.lstv (.cons (.cst (.str ⟨#[114, 97, 110, 107, 115]⟩)) .nil)))
 .nil) (.cons ⟨#[77, 105, 110, 100, 69, 114, 114, 111, 114]⟩ (.cons (.ret (.lstv (.cons (.cst (.str ⟨#[111, 116, 104, 101, 114]⟩)) .nil)))
 .nil) .nil)))))
 (.cons (.ret (.lstv (.cons (.cst (.str ⟨#[110, 111, 110, 101]⟩)) .nil)))
 .nil))
def f__law_refusal : Fn := ⟨⟨#[95, 108, 97, 119, 95, 114, 101, 102, 117, 115, 97, 108]⟩, [⟨#[107, 105, 110, 100]⟩, ⟨#[116, 104, 105, 110, 103]⟩, ⟨#[110, 117, 109, 98, 101, 114]⟩], [⟨#[107, 105, 110, 100]⟩, ⟨#[116, 104, 105, 110, 103]⟩, ⟨#[110, 117, 109, 98, 101, 114]⟩, ⟨#[101]⟩], i__law_refusal⟩
def b_law_1 : TL :=
 (.cons (.if_ (.cmp .NotEq (.pcall 37 (.cons (.cst (.int 2)) (.cons (.var 8) (.cons (.cst .none) .nil)))) (.lstv (.cons (.cst (.str ⟨#[114, 97, 110, 107, 115]⟩)) .nil)))
 (.cons (.ret (.cst (.bool false)))
 .nil)
 .nil)
 .nil)
def b_law_2 : TL :=
 (.cons (.if_ (.cmp .NotEq (.pcall 37 (.cons (.cst (.int 1)) (.cons (.var 5) (.cons (.var 8) .nil)))) (.lstv (.cons (.cst (.str ⟨#[110, 117, 109, 98, 101, 114]⟩)) .nil)))
 (.cons (.ret (.cst (.bool false)))
 .nil)
 .nil)
 .nil)
def b_law_3 : TL :=
 (.cons (.if_ (.or_ (.cmp .NotEq (.pcall 37 (.cons (.cst (.int 0)) (.cons (.var 8) (.cons (.cst .none) .nil)))) (.lstv (.cons (.cst (.str ⟨#[99, 111, 117, 110, 116]⟩)) .nil))) (.cmp .NotEq (.pcall 37 (.cons (.cst (.int 1)) (.cons (.var 8) (.cons (.cst .none) .nil)))) (.lstv (.cons (.cst (.str ⟨#[99, 111, 117, 110, 116]⟩)) .nil))))
 (.cons (.ret (.cst (.bool false)))
 .nil)
 .nil)
 .nil)
def e_law_4 : E :=
 (.pcall 24 (.cons (.var 5) .nil))
def b_law_5 : TL :=
 (.cons (.asg (.nm 6) (.hcall 30 (.cons (.var 1) (.cons (.bi .len (.cons (.var 3) .nil)) .nil))))
 (.cons (.if_ (.or_ (.not_ (.pcall 32 (.cons (.pcall 27 (.cons (.var 2) (.cons (.var 6) .nil))) (.cons (.idx (.var 3) (.var 6)) .nil)))) (.not_ (.pcall 32 (.cons (.pcall 28 (.cons (.idx (.var 3) (.var 6)) .nil)) (.cons (.var 6) .nil)))))
 (.cons (.ret (.cst (.bool false)))
 .nil)
 .nil)
 (.cons (.asg (.nm 9) (.pcall 11 (.cons (.idx (.var 3) (.var 6)) .nil)))
 (.cons (.if_ (.or_ (.cmp .NotEq (.var 9) (.pcall 35 (.cons (.idx (.var 3) (.var 6)) .nil))) (.not_ (.pcall 32 (.cons (.pcall 21 (.cons (.var 2) (.cons (.var 9) .nil))) (.cons (.tup (.cons (.cst (.str ⟨#[114, 97, 110, 107, 115]⟩)) (.cons (.idx (.var 3) (.var 6)) .nil))) .nil)))))
 (.cons (.ret (.cst (.bool false)))
 .nil)
 .nil)
 (.cons (.asg (.nm 10) (.hcall 31 (.cons (.var 1) (.cons (.var 3) .nil))))
 (.cons (.if_ (.cmp .NotEq (.cmp .Eq (.pcall 11 (.cons (.var 10) .nil)) (.var 9)) (.cmp .Eq (.var 10) (.idx (.var 3) (.var 6))))
 (.cons (.ret (.cst (.bool false)))
 .nil)
 .nil)
 .nil))))))
def i_law : TL :=
 (.cons (.asg (.nm 1) (.gcall 29 (.cons (.var 0) .nil)))
 (.cons (.asg (.nm 2) (.bin .Add (.cst (.int 1)) (.hcall 30 (.cons (.var 1) (.cons (.cst (.int 4)) .nil)))))
 (.cons (.asg (.nm 3) (.pcall 36 (.cons (.var 2) .nil)))
 (.cons (.if_ (.not_ (.pcall 32 (.cons (.pcall 24 (.cons (.var 2) .nil)) (.cons (.bi .len (.cons (.var 3) .nil)) .nil))))
 (.cons (.ret (.cst (.bool false)))
 .nil)
 .nil)
 (.cons (.for_ (.nm 4) .rng1 (.cons (.cst (.int 6)) .nil) b_law_5)
 (.cons (.if_ (.cmp .NotEq (.lc (.nm 5) .rng2 (.cons (.cst (.int 1)) (.cons (.cst (.int 9)) .nil)) .nil e_law_4 [5]) (.lstv (.cons (.cst (.int 1)) (.cons (.cst (.int 3)) (.cons (.cst (.int 13)) (.cons (.cst (.int 75)) (.cons (.cst (.int 541)) (.cons (.cst (.int 4683)) (.cons (.cst (.int 47293)) (.cons (.cst (.int 545835)) .nil))))))))))
 (.cons (.ret (.cst (.bool false)))
 .nil)
 .nil)
 (.cons (.asg (.nm 5) (.bin .Add (.cst (.int 5)) (.hcall 30 (.cons (.var 1) (.cons (.cst (.int 4)) .nil)))))
 (.cons (.asg (.nm 6) (.hcall 30 (.cons (.var 1) (.cons (.pcall 24 (.cons (.var 5) .nil)) .nil))))
 (.cons (.asg (.nm 7) (.pcall 27 (.cons (.var 5) (.cons (.var 6) .nil))))
 (.cons (.if_ (.or_ (.cmp .NotEq (.bi .len (.cons (.var 7) .nil)) (.var 5)) (.or_ (.cmp .NotEq (.sset (.var 7)) (.lrng false (.cons (.bin .Add (.bi .max (.cons (.var 7) .nil)) (.cst (.int 1))) .nil))) (.not_ (.pcall 32 (.cons (.pcall 28 (.cons (.var 7) .nil)) (.cons (.var 6) .nil))))))
 (.cons (.ret (.cst (.bool false)))
 .nil)
 .nil)
 (.cons (.if_ (.and_ (.cmp .Gt (.var 6) (.cst (.int 0))) (.not_ (.cmp .Lt (.pcall 27 (.cons (.var 5) (.cons (.bin .Sub (.var 6) (.cst (.int 1))) .nil))) (.var 7))))
 (.cons (.ret (.cst (.bool false)))
 .nil)
 .nil)
 (.cons (.for_ (.nm 8) .seq (.cons (.lstv (.cons (.cst (.int 0)) (.cons (.cst (.int 9)) (.cons (.un .USub (.cst (.int 1))) (.cons (.cst .none) (.cons (.cst (.bool true)) (.cons (.cst (.str ⟨#[51]⟩)) .nil))))))) .nil) b_law_3)
 (.cons (.for_ (.nm 8) .seq (.cons (.lstv (.cons (.un .USub (.cst (.int 1))) (.cons (.pcall 24 (.cons (.var 5) .nil)) (.cons (.cst .none) (.cons (.cst (.bool true)) (.cons (.cst (.str ⟨#[48]⟩)) .nil)))))) .nil) b_law_2)
 (.cons (.for_ (.nm 8) .seq (.cons (.lstv (.cons (.cst .none) (.cons (.tup .nil) (.cons (.tup (.cons (.cst (.int 1)) .nil)) (.cons (.tup (.cons (.cst (.int 0)) (.cons (.cst (.int 2)) .nil))) (.cons (.lstv (.cons (.cst (.int 0)) .nil)) (.cons (.bin .Mult (.tup (.cons (.cst (.int 0)) .nil)) (.cst (.int 9))) (.cons (.tup (.cons (.cst .none) .nil)) (.cons (.tup (.cons (.un .USub (.cst (.int 1))) (.cons (.cst (.int 0)) .nil))) (.cons (.cst (.str ⟨#[48]⟩)) .nil)))))))))) .nil) b_law_1)
 (.cons (.ret (.cst (.bool true)))
 .nil)))))))))))))))
def f_law : Fn := ⟨⟨#[108, 97, 119]⟩, [⟨#[115, 99, 114, 105, 112, 116]⟩], [⟨#[115, 99, 114, 105, 112, 116]⟩, ⟨#[104, 97, 110, 100]⟩, ⟨#[109, 97, 110, 121]⟩, ⟨#[111, 114, 100, 101, 114, 115]⟩, ⟨#[97, 103, 97, 105, 110]⟩, ⟨#[115, 105, 122, 101]⟩, ⟨#[110, 117, 109, 98, 101, 114]⟩, ⟨#[114, 111, 119]⟩, ⟨#[98, 97, 100]⟩, ⟨#[116, 97, 98, 108, 101]⟩, ⟨#[111, 116, 104, 101, 114]⟩], i_law⟩
def fns : List Fn := [f_is_integer, f_is_between, f_need_count, f_bits_of, f_lot_at, f_lots_of, f_are_ranks, f_need_ranks, f_least_of, f_dense_of, f_table_of, f_table_of_ranks, f_is_world_lot, f_is_table_of, f_need_table, f_meet, f_is_within, f_is_choice_broken, f_first_break, f_ranks_by_pairs, f_ranks_of_table_of, f_ranks_of_table, f_choose, f_orders_upto, f_many_orders, f_many_with, f_onto, f_order_at, f_order_number, f__law_hand, f__law_draw, f__law_some, f__law_kept, f__law_least, f__law_all_lots, f__law_table, f__law_orders, f__law_refusal, f_law]
def cs : List (Str × P) := [(⟨#[77, 79, 83, 84, 95, 87, 79, 82, 76, 68, 83]⟩, (.int 8))]
def fr : List Str := [⟨#[97, 98, 115]⟩, ⟨#[97, 108, 108]⟩, ⟨#[98, 111, 111, 108]⟩, ⟨#[101, 110, 117, 109, 101, 114, 97, 116, 101]⟩, ⟨#[105, 110, 116]⟩, ⟨#[105, 115, 105, 110, 115, 116, 97, 110, 99, 101]⟩, ⟨#[108, 101, 110]⟩, ⟨#[108, 105, 115, 116]⟩, ⟨#[109, 97, 120]⟩, ⟨#[109, 105, 110]⟩, ⟨#[114, 97, 110, 103, 101]⟩, ⟨#[115, 101, 116]⟩, ⟨#[115, 111, 114, 116, 101, 100]⟩, ⟨#[115, 116, 114]⟩, ⟨#[115, 117, 109]⟩, ⟨#[116, 117, 112, 108, 101]⟩, ⟨#[122, 105, 112]⟩]
def xs : List Str := [⟨#[77, 105, 110, 100, 69, 114, 114, 111, 114]⟩, ⟨#[78, 111, 67, 111, 117, 110, 116]⟩, ⟨#[78, 111, 78, 117, 109, 98, 101, 114]⟩, ⟨#[78, 111, 82, 97, 110, 107, 115]⟩, ⟨#[78, 111, 84, 97, 98, 108, 101]⟩]
def exT : List (Str × Str × Bool) := [(⟨#[77, 105, 110, 100, 69, 114, 114, 111, 114]⟩, ⟨#[77, 105, 110, 100, 69, 114, 114, 111, 114]⟩, true), (⟨#[77, 105, 110, 100, 69, 114, 114, 111, 114]⟩, ⟨#[78, 111, 67, 111, 117, 110, 116]⟩, false), (⟨#[77, 105, 110, 100, 69, 114, 114, 111, 114]⟩, ⟨#[78, 111, 78, 117, 109, 98, 101, 114]⟩, false), (⟨#[77, 105, 110, 100, 69, 114, 114, 111, 114]⟩, ⟨#[78, 111, 82, 97, 110, 107, 115]⟩, false), (⟨#[77, 105, 110, 100, 69, 114, 114, 111, 114]⟩, ⟨#[78, 111, 84, 97, 98, 108, 101]⟩, false), (⟨#[78, 111, 67, 111, 117, 110, 116]⟩, ⟨#[77, 105, 110, 100, 69, 114, 114, 111, 114]⟩, true), (⟨#[78, 111, 67, 111, 117, 110, 116]⟩, ⟨#[78, 111, 67, 111, 117, 110, 116]⟩, true), (⟨#[78, 111, 67, 111, 117, 110, 116]⟩, ⟨#[78, 111, 78, 117, 109, 98, 101, 114]⟩, false), (⟨#[78, 111, 67, 111, 117, 110, 116]⟩, ⟨#[78, 111, 82, 97, 110, 107, 115]⟩, false), (⟨#[78, 111, 67, 111, 117, 110, 116]⟩, ⟨#[78, 111, 84, 97, 98, 108, 101]⟩, false), (⟨#[78, 111, 78, 117, 109, 98, 101, 114]⟩, ⟨#[77, 105, 110, 100, 69, 114, 114, 111, 114]⟩, true), (⟨#[78, 111, 78, 117, 109, 98, 101, 114]⟩, ⟨#[78, 111, 67, 111, 117, 110, 116]⟩, false), (⟨#[78, 111, 78, 117, 109, 98, 101, 114]⟩, ⟨#[78, 111, 78, 117, 109, 98, 101, 114]⟩, true), (⟨#[78, 111, 78, 117, 109, 98, 101, 114]⟩, ⟨#[78, 111, 82, 97, 110, 107, 115]⟩, false), (⟨#[78, 111, 78, 117, 109, 98, 101, 114]⟩, ⟨#[78, 111, 84, 97, 98, 108, 101]⟩, false), (⟨#[78, 111, 82, 97, 110, 107, 115]⟩, ⟨#[77, 105, 110, 100, 69, 114, 114, 111, 114]⟩, true), (⟨#[78, 111, 82, 97, 110, 107, 115]⟩, ⟨#[78, 111, 67, 111, 117, 110, 116]⟩, false), (⟨#[78, 111, 82, 97, 110, 107, 115]⟩, ⟨#[78, 111, 78, 117, 109, 98, 101, 114]⟩, false), (⟨#[78, 111, 82, 97, 110, 107, 115]⟩, ⟨#[78, 111, 82, 97, 110, 107, 115]⟩, true), (⟨#[78, 111, 82, 97, 110, 107, 115]⟩, ⟨#[78, 111, 84, 97, 98, 108, 101]⟩, false), (⟨#[78, 111, 84, 97, 98, 108, 101]⟩, ⟨#[77, 105, 110, 100, 69, 114, 114, 111, 114]⟩, true), (⟨#[78, 111, 84, 97, 98, 108, 101]⟩, ⟨#[78, 111, 67, 111, 117, 110, 116]⟩, false), (⟨#[78, 111, 84, 97, 98, 108, 101]⟩, ⟨#[78, 111, 78, 117, 109, 98, 101, 114]⟩, false), (⟨#[78, 111, 84, 97, 98, 108, 101]⟩, ⟨#[78, 111, 82, 97, 110, 107, 115]⟩, false), (⟨#[78, 111, 84, 97, 98, 108, 101]⟩, ⟨#[78, 111, 84, 97, 98, 108, 101]⟩, true)]
end Lw
set_option Elab.async false
set_option linter.all false
set_option maxRecDepth 100000
set_option autoImplicit false
namespace Lw
open PySem Mi
/-! counting orders, in plain Lean -/
def chF (m : Nat) : Nat → Nat
  | 0 => 1
  | s + 1 => chF m s * (m - s) / (s + 1)
def sumI : List Int → Int
  | [] => 0
  | x :: r => x + sumI r
def ontoF (l r k : Nat) : Int := sumI ((List.range (k + 1)).map fun o => ((chF k o * (r - o) ^ l : Nat) : Int) * (if o % 2 = 0 then 1 else -1))
def mxF : List Nat → Nat
  | [] => 0
  | x :: r => max x (mxF r)
def lackF (b : List Nat) (g : Nat) : Nat := ((List.range (g + 1)).filter fun r => !decide (r ∈ b)).length
def mwF (m : Nat) (b : List Nat) : Int := sumI ((List.range' (mxF b) (m - mxF b)).map fun g => ontoF (m - b.length) (g + 1) (lackF b g))
def V (m l mx k : Nat) : Int := sumI ((List.range' mx (m - mx)).map fun g => ontoF (m - l) (g + 1) (k + (g - mx)))
def idB (m l mx k : Nat) : Bool := decide (V m l mx k = ((mx + 1 - k : Nat) : Int) * V m (l + 1) mx k + (k : Int) * V m (l + 1) mx (k - 1) + sumI ((List.range' (mx + 1) (m - (mx + 1))).map fun r => V m (l + 1) r (k + (r - mx) - 1)))
def idAll (m : Nat) : Bool := (List.range m).all fun l => (List.range m).all fun mx => (List.range (mx + 2)).all fun k => idB m l mx k
theorem id_all : ([1, 2, 3, 4, 5, 6, 7, 8].all idAll) = true := by decide +kernel
end Lw
set_option Elab.async false
set_option linter.all false
set_option maxRecDepth 100000
set_option autoImplicit false
namespace Lw
open PySem Mi
theorem sumI_app (a b : List Int) : sumI (a ++ b) = sumI a + sumI b := by
  induction a with
  | nil => simp [sumI]
  | cons x r ih => simp [sumI, ih]; omega
theorem sumI_perm {a b : List Int} (h : a.Perm b) : sumI a = sumI b := by
  induction h with
  | nil => rfl
  | cons x _ ih => simp [sumI, ih]
  | swap x y l => simp [sumI]; omega
  | trans _ _ i1 i2 => exact i1.trans i2
theorem sumI_const {α : Type} (c : Int) (l : List α) (f : α → Int) (h : ∀ x ∈ l, f x = c) : sumI (l.map f) = (l.length : Int) * c := by
  induction l with
  | nil => simp [sumI]
  | cons x r ih =>
    rw [List.map_cons, sumI, h x (by simp), ih fun y hy => h y (List.mem_cons_of_mem _ hy), List.length_cons]
    rw [show ((r.length + 1 : Nat) : Int) = (r.length : Int) + 1 by omega, Int.add_mul, Int.one_mul, Int.add_comm]
theorem sumI_congr {α : Type} {l : List α} {f g : α → Int} (h : ∀ x ∈ l, f x = g x) : sumI (l.map f) = sumI (l.map g) := by
  rw [List.map_congr_left h]
theorem sumI_split {α : Type} (t : α → Bool) (f : α → Int) : ∀ l : List α, sumI (l.map f) = sumI ((l.filter t).map f) + sumI ((l.filter fun x => !t x).map f) := by
  intro l
  induction l with
  | nil => simp [sumI]
  | cons x r ih =>
    rw [List.filter_cons, List.filter_cons, List.map_cons, sumI, ih]
    cases t x <;> simp [sumI] <;> omega
theorem sumI_nonneg {l : List Int} (h : ∀ x ∈ l, 0 ≤ x) : 0 ≤ sumI l := by
  induction l with
  | nil => simp [sumI]
  | cons x r ih =>
    have := h x (by simp)
    have := ih fun y hy => h y (List.mem_cons_of_mem _ hy)
    simp [sumI]
    omega
theorem filt_len {α : Type} (t : α → Bool) : ∀ l : List α, (l.filter t).length + (l.filter fun x => !t x).length = l.length := by
  intro l
  induction l with
  | nil => rfl
  | cons x r ih =>
    rw [List.filter_cons, List.filter_cons]
    cases t x <;> simp <;> omega
/-! greatest, lacking -/
theorem mx_app (b : List Nat) (r : Nat) : mxF (b ++ [r]) = max (mxF b) r := by
  induction b with
  | nil => simp [mxF]
  | cons x s ih =>
    show max x (mxF (s ++ [r])) = max (max x (mxF s)) r
    rw [ih]
    omega
theorem mx_ge {b : List Nat} {x : Nat} (h : x ∈ b) : x ≤ mxF b := by
  induction b with
  | nil => cases h
  | cons y s ih =>
    rcases List.mem_cons.mp h with e | e
    · subst e; exact Nat.le_max_left _ _
    · exact Nat.le_trans (ih e) (Nat.le_max_right _ _)
theorem mx_mem (b : List Nat) : mxF b = 0 ∨ mxF b ∈ b := by
  induction b with
  | nil => exact .inl rfl
  | cons y s ih =>
    rcases ih with e | e
    · right; simp [mxF, e]
    · by_cases h : mxF s ≤ y
      · right; simp [mxF, Nat.max_eq_left h]
      · right
        have : max y (mxF s) = mxF s := by omega
        simp [mxF, this, e]
theorem lack_succ (b : List Nat) (g : Nat) : lackF b (g + 1) = lackF b g + (if g + 1 ∈ b then 0 else 1) := by
  unfold lackF
  rw [List.range_succ (n := g + 1), List.filter_append, List.length_append]
  by_cases h : g + 1 ∈ b <;> simp [h]
theorem lack_le (b : List Nat) (g : Nat) : lackF b g ≤ g + 1 := by
  unfold lackF
  have := List.length_filter_le (fun r => !decide (r ∈ b)) (List.range (g + 1))
  simpa using this
theorem lack_ge {b : List Nat} : ∀ (d g : Nat), mxF b ≤ g → lackF b (g + d) = lackF b g + d := by
  intro d
  induction d with
  | zero => intro g _; rfl
  | succ d ih =>
    intro g h
    rw [show g + (d + 1) = (g + d) + 1 by omega, lack_succ, ih g h]
    have : ¬ (g + d + 1 ∈ b) := fun q => by have := mx_ge q; omega
    rw [if_neg this]
    omega
theorem lack_from {b : List Nat} {g : Nat} (h : mxF b ≤ g) : lackF b g = lackF b (mxF b) + (g - mxF b) := by
  have := lack_ge (b := b) (g - mxF b) (mxF b) (Nat.le_refl _)
  rwa [show mxF b + (g - mxF b) = g by omega] at this
theorem mw_V (m : Nat) (b : List Nat) : mwF m b = V m b.length (mxF b) (lackF b (mxF b)) := by
  unfold mwF V
  apply sumI_congr
  intro g hg
  rw [List.mem_range'_1] at hg
  rw [lack_from hg.1]
theorem lack_app {b : List Nat} {r g : Nat} (hr : r ≤ g) : lackF (b ++ [r]) g = lackF b g - (if r ∈ b then 0 else 1) := by
  by_cases h : r ∈ b
  · rw [if_pos h, Nat.sub_zero]
    unfold lackF
    congr 1
    apply List.filter_congr
    intro x _
    by_cases e : x = r
    · subst e; simp [h]
    · simp [e]
  · rw [if_neg h]
    unfold lackF
    have key : ∀ l : List Nat, l.Nodup → r ∈ l → (l.filter fun x => !decide (x ∈ b)).length = (l.filter fun x => !decide (x ∈ b ++ [r])).length + 1 := by
      intro l
      induction l with
      | nil => intro _ q; cases q
      | cons y s ih =>
        intro hn hm
        rw [List.nodup_cons] at hn
        by_cases e : y = r
        · subst e
          have same : s.filter (fun x => !decide (x ∈ b)) = s.filter (fun x => !decide (x ∈ b ++ [y])) := by
            apply List.filter_congr
            intro x hx
            have : x ≠ y := fun q => hn.1 (q ▸ hx)
            simp [this]
          rw [List.filter_cons, List.filter_cons, same]
          simp [h]
        · have hm' : r ∈ s := by
            rcases List.mem_cons.mp hm with q | q
            · exact absurd q.symm e
            · exact q
          have := ih hn.2 hm'
          rw [List.filter_cons, List.filter_cons]
          by_cases hy : y ∈ b <;> simp [hy, e] at this ⊢ <;> omega
    have := key (List.range (g + 1)) List.nodup_range (List.mem_range.mpr (by omega))
    omega
theorem idB_of {m l mx k : Nat} (h1 : 1 ≤ m) (h8 : m ≤ 8) (hl : l < m) (hx : mx < m) (hk : k ≤ mx + 1) : idB m l mx k = true := by
  have h := List.all_eq_true.mp id_all m (by simp; omega)
  have h := List.all_eq_true.mp h l (List.mem_range.mpr hl)
  have h := List.all_eq_true.mp h mx (List.mem_range.mpr hx)
  exact List.all_eq_true.mp h k (List.mem_range.mpr (by omega))
/-- one more place -/
theorem mw_split {m : Nat} {b : List Nat} (h8 : m ≤ 8) (hl : b.length < m) (hb : ∀ x ∈ b, x < m) : mwF m b = sumI ((List.range m).map fun r => mwF m (b ++ [r])) := by
  have hm1 : 1 ≤ m := by omega
  have hmx : mxF b < m := by
    rcases mx_mem b with e | e
    · omega
    · exact hb _ e
  have hk := lack_le b (mxF b)
  have id := idB_of hm1 h8 hl hmx hk
  unfold idB at id
  have id := of_decide_eq_true id
  rw [mw_V, id]
  generalize hk0 : lackF b (mxF b) = k0 at *
  generalize hmx0 : mxF b = mx at *
  -- the three kinds of ranks
  have e1 : List.range m = List.range (mx + 1) ++ List.range' (mx + 1) (m - (mx + 1)) := by
    rw [List.range_eq_range', List.range_eq_range']
    have := List.range'_append (s := 0) (m := mx + 1) (n := m - (mx + 1)) (step := 1)
    simp at this
    rw [show m = (mx + 1) + (m - (mx + 1)) by omega]
    rw [← this]
    simp
  rw [e1, List.map_append, sumI_app]
  have big : sumI ((List.range' (mx + 1) (m - (mx + 1))).map fun r => mwF m (b ++ [r])) = sumI ((List.range' (mx + 1) (m - (mx + 1))).map fun r => V m (b.length + 1) r (k0 + (r - mx) - 1)) := by
    apply sumI_congr
    intro r hr
    rw [List.mem_range'_1] at hr
    have hrb : ¬ r ∈ b := fun q => by have := mx_ge q; omega
    rw [mw_V, mx_app, hmx0, show max mx r = r by omega, lack_app (Nat.le_refl r), if_neg hrb, List.length_append, List.length_singleton, lack_from (b := b) (g := r) (by omega), hmx0, hk0]
  rw [big]
  have small : sumI ((List.range (mx + 1)).map fun r => mwF m (b ++ [r])) = ((mx + 1 - k0 : Nat) : Int) * V m (b.length + 1) mx k0 + (k0 : Int) * V m (b.length + 1) mx (k0 - 1) := by
    rw [sumI_split (fun r => decide (r ∈ b))]
    have c1 : ((List.range (mx + 1)).filter fun r => decide (r ∈ b)).length = mx + 1 - k0 := by
      have h1 : ((List.range (mx + 1)).filter fun r => decide (r ∈ b)).length + k0 = mx + 1 := by
        rw [← hk0]
        unfold lackF
        have := filt_len (fun r => decide (r ∈ b)) (List.range (mx + 1))
        rw [List.length_range] at this
        exact this
      omega
    have c2 : ((List.range (mx + 1)).filter fun r => !decide (r ∈ b)).length = k0 := by rw [← hk0]; rfl
    rw [sumI_const (V m (b.length + 1) mx k0) _ _ (by
      intro r hr
      have hr := List.mem_filter.mp hr
      have h1 := List.mem_range.mp hr.1
      have h2 : r ∈ b := by simpa using hr.2
      rw [mw_V, mx_app, hmx0, show max mx r = mx by omega, lack_app (by omega), if_pos h2, List.length_append, List.length_singleton, hk0]
      rfl), c1, sumI_const (V m (b.length + 1) mx (k0 - 1)) _ _ (by
      intro r hr
      have hr := List.mem_filter.mp hr
      have h1 := List.mem_range.mp hr.1
      have h2 : ¬ r ∈ b := by simpa using hr.2
      rw [mw_V, mx_app, hmx0, show max mx r = mx by omega, lack_app (by omega), if_neg h2, List.length_append, List.length_singleton, hk0]), c2]
  rw [small]
end Lw
set_option Elab.async false
set_option linter.all false
set_option maxRecDepth 100000
set_option autoImplicit false
namespace Lw
open PySem Mi
/-- each rank up to the greatest stands in it -/
def dnsB (b : List Nat) : Bool := (List.range (mxF b + 1)).all fun r => decide (r ∈ b)
def zeroB : Bool := (List.range 9).all fun r => (List.range (r + 1)).all fun k => decide (ontoF 0 r k = if k = 0 then 1 else 0)
theorem zero_all : zeroB = true := by decide +kernel
theorem onto_zero {r k : Nat} (hr : r ≤ 8) (hk : k ≤ r) : ontoF 0 r k = if k = 0 then 1 else 0 := by
  have h := List.all_eq_true.mp zero_all r (List.mem_range.mpr (by omega))
  have h := List.all_eq_true.mp h k (List.mem_range.mpr (by omega))
  exact of_decide_eq_true h
theorem lack_zero {b : List Nat} : lackF b (mxF b) = 0 ↔ dnsB b = true := by
  unfold lackF dnsB
  rw [List.length_eq_zero_iff, List.filter_eq_nil_iff, List.all_eq_true]
  constructor
  · intro h r hr
    have := h r hr
    simpa using this
  · intro h r hr
    have := h r hr
    simpa using this
theorem mw_full {m : Nat} {b : List Nat} (h8 : m ≤ 8) (h0 : 0 < m) (hl : b.length = m) (hb : ∀ x ∈ b, x < m) : mwF m b = if dnsB b then 1 else 0 := by
  have hmx : mxF b < m := by
    rcases mx_mem b with e | e
    · omega
    · exact hb _ e
  unfold mwF
  rw [hl, Nat.sub_self]
  obtain ⟨n, hn⟩ : ∃ n, m - mxF b = n + 1 := ⟨m - mxF b - 1, by omega⟩
  rw [hn, List.range'_succ, List.map_cons, sumI, onto_zero (by omega) (lack_le b _)]
  have rest : sumI ((List.range' (mxF b + 1) n).map fun g => ontoF 0 (g + 1) (lackF b g)) = 0 := by
    rw [sumI_const 0 _ _ (by
      intro g hg
      rw [List.mem_range'_1] at hg
      rw [onto_zero (by omega) (lack_le b _), if_neg]
      rw [lack_from (by omega)]
      omega)]
    simp
  rw [rest]
  by_cases h : dnsB b = true
  · rw [if_pos (lack_zero.mpr h), if_pos h]; rfl
  · rw [if_neg (fun q => h (lack_zero.mp q)), if_neg h]; rfl
theorem mw_nonneg {m : Nat} (h8 : m ≤ 8) (h0 : 0 < m) : ∀ (k : Nat) (b : List Nat), b.length + k = m → (∀ x ∈ b, x < m) → 0 ≤ mwF m b := by
  intro k
  induction k with
  | zero =>
    intro b hl hb
    rw [mw_full h8 h0 (by omega) hb]
    split <;> decide
  | succ k ih =>
    intro b hl hb
    rw [mw_split h8 (by omega) hb]
    refine sumI_nonneg fun x hx => ?_
    obtain ⟨r, hr, rfl⟩ := List.mem_map.mp hx
    rw [List.mem_range] at hr
    refine ih (b ++ [r]) (by simp; omega) fun y hy => ?_
    rcases List.mem_append.mp hy with q | q
    · exact hb y q
    · rw [List.mem_singleton] at q; omega
/-- the ranks below r take so many numbers -/
def below (m : Nat) (b : List Nat) (r : Nat) : Int := sumI ((List.range r).map fun x => mwF m (b ++ [x]))
theorem below_succ (m : Nat) (b : List Nat) (r : Nat) : below m b (r + 1) = below m b r + mwF m (b ++ [r]) := by
  unfold below
  rw [List.range_succ, List.map_append, sumI_app]
  simp [sumI]
theorem app_lt {m : Nat} {b : List Nat} {r : Nat} (hb : ∀ x ∈ b, x < m) (hr : r < m) : ∀ x ∈ b ++ [r], x < m := by
  intro x hx
  rcases List.mem_append.mp hx with q | q
  · exact hb x q
  · rw [List.mem_singleton] at q; omega
theorem below_mono {m : Nat} (h8 : m ≤ 8) {b : List Nat} (hl : b.length < m) (hb : ∀ x ∈ b, x < m) {r s : Nat} (hrs : r ≤ s) (hs : s ≤ m) : below m b r ≤ below m b s := by
  induction s with
  | zero => rw [show r = 0 by omega]; exact Int.le_refl _
  | succ s ih =>
    by_cases e : r = s + 1
    · subst e; exact Int.le_refl _
    · have := ih (by omega) (by omega)
      have := mw_nonneg h8 (by omega) (m - (b.length + 1)) (b ++ [s]) (by simp; omega) (app_lt hb (by omega))
      rw [below_succ]
      omega
/-- the rank that a number falls to -/
theorem pick_ex {m : Nat} (h8 : m ≤ 8) {b : List Nat} (hl : b.length < m) (hb : ∀ x ∈ b, x < m) {n : Int} (h0 : 0 ≤ n) (hn : n < mwF m b) :
    ∃ r, r < m ∧ below m b r ≤ n ∧ n < below m b (r + 1) := by
  have ht : mwF m b = below m b m := mw_split h8 hl hb
  rw [ht] at hn
  have key : ∀ k, k ≤ m → n < below m b k → ∃ r, r < k ∧ below m b r ≤ n ∧ n < below m b (r + 1) := by
    intro k
    induction k with
    | zero => intro _ h; have : below m b 0 = 0 := rfl; omega
    | succ k ih =>
      intro hk h
      by_cases q : n < below m b k
      · obtain ⟨r, h1, h2⟩ := ih (by omega) q
        exact ⟨r, by omega, h2⟩
      · exact ⟨k, by omega, by omega, h⟩
  obtain ⟨r, h1, h2⟩ := key m (Nat.le_refl _) hn
  exact ⟨r, h1, h2⟩
/-- b's row for a number, k places left -/
inductive Row (m : Nat) : List Nat → Int → List Nat → Prop
  | full {b : List Nat} (h : b.length = m) : Row m b 0 b
  | step {b row : List Nat} {n : Int} {r : Nat} (h : b.length < m) (hr : r < m) (h1 : below m b r ≤ n) (h2 : n < below m b (r + 1)) (t : Row m (b ++ [r]) (n - below m b r) row) : Row m b n row
theorem row_ex {m : Nat} (h8 : m ≤ 8) (h0 : 0 < m) : ∀ (k : Nat) (b : List Nat) (n : Int), b.length + k = m → (∀ x ∈ b, x < m) → 0 ≤ n → n < mwF m b → ∃ row, Row m b n row := by
  intro k
  induction k with
  | zero =>
    intro b n hl hb hn hn2
    rw [mw_full h8 h0 (by omega) hb] at hn2
    have : n = 0 := by split at hn2 <;> omega
    subst this
    exact ⟨b, .full (by omega)⟩
  | succ k ih =>
    intro b n hl hb hn hn2
    obtain ⟨r, h1, h2, h3⟩ := pick_ex h8 (by omega) hb hn hn2
    have bs := below_succ m b r
    obtain ⟨row, t⟩ := ih (b ++ [r]) (n - below m b r) (by simp; omega) (app_lt hb h1) (by omega) (by omega)
    exact ⟨row, .step (by omega) h1 h2 h3 t⟩
theorem row_len {m : Nat} {b row : List Nat} {n : Int} (t : Row m b n row) : row.length = m ∧ ∃ z, row = b ++ z := by
  induction t with
  | full h => exact ⟨h, [], by simp⟩
  | @step b row n r h hr h1 h2 t ih =>
    obtain ⟨i1, z, i2⟩ := ih
    exact ⟨i1, [r] ++ z, by rw [i2, List.append_assoc]⟩
theorem row_lt {m : Nat} {b row : List Nat} {n : Int} (t : Row m b n row) (hb : ∀ x ∈ b, x < m) : ∀ x ∈ row, x < m := by
  induction t with
  | full h => exact hb
  | step h hr h1 h2 t ih => exact ih (app_lt hb hr)
theorem row_dense {m : Nat} (h8 : m ≤ 8) (h0 : 0 < m) {b row : List Nat} {n : Int} (t : Row m b n row) (hb : ∀ x ∈ b, x < m) (hn : n < mwF m b) : dnsB row = true := by
  induction t with
  | @full b h =>
    rw [mw_full h8 h0 h hb] at hn
    cases q : dnsB b with
    | true => rfl
    | false => rw [q] at hn; exact absurd hn (by decide)
  | @step b row n r h hr h1 h2 t ih =>
    have bs := below_succ m b r
    exact ih (app_lt hb hr) (by omega)
/-- the number of a row, from b on -/
def numF (m : Nat) : List Nat → List Nat → Int
  | _, [] => 0
  | b, r :: z => below m b r + numF m (b ++ [r]) z
theorem row_num {m : Nat} {b row : List Nat} {n : Int} (t : Row m b n row) : ∀ z, row = b ++ z → numF m b z = n := by
  induction t with
  | full h =>
    intro z e
    have : z = [] := by simpa using e
    subst this; rfl
  | @step b row n r h hr h1 h2 t ih =>
    intro z e
    obtain ⟨_, y, q⟩ := row_len t
    rw [q] at e
    have e : r :: y = z := by simpa using e
    subst e
    have := ih y q
    show below m b r + numF m (b ++ [r]) y = n
    omega
theorem lex_app (p a b : List Int) : HT.lexLt (p ++ a) (p ++ b) = HT.lexLt a b := by
  induction p with
  | nil => rfl
  | cons x r ih =>
    show (if x = x then HT.lexLt (r ++ a) (r ++ b) else _) = _
    rw [if_pos rfl, ih]
def iL (l : List Nat) : List Int := l.map fun x : Nat => (x : Int)
theorem row_mono {m : Nat} (h8 : m ≤ 8) {b row : List Nat} {n : Int} (t : Row m b n row) : ∀ {n' : Int} {row' : List Nat}, Row m b n' row' → (∀ x ∈ b, x < m) → n < n' → HT.lexLt (iL row) (iL row') = true := by
  induction t with
  | @full b h =>
    intro n' row' t' hb hn
    cases t' with
    | full _ => omega
    | step h' _ _ _ _ => omega
  | @step b row n r h hr h1 h2 t ih =>
    intro n' row' t' hb hn
    cases t' with
    | full h' => omega
    | @step _ _ _ r' h' hr' h1' h2' t' =>
      by_cases e : r = r'
      · subst e
        exact ih t' (app_lt hb hr) (by omega)
      · have hlt : r < r' := by
          by_cases q : r < r'
          · exact q
          · have := below_mono h8 h hb (r := r' + 1) (s := r) (by omega) (by omega)
            omega
        obtain ⟨_, z, q⟩ := row_len t
        obtain ⟨_, z', q'⟩ := row_len t'
        rw [q, q']
        unfold iL
        simp only [List.map_append, List.append_assoc]
        rw [lex_app]
        show (if (r : Int) = (r' : Int) then _ else decide ((r : Int) < (r' : Int))) = true
        rw [if_neg (by omega)]
        simp
        omega
theorem row_det {m : Nat} (h8 : m ≤ 8) {b row : List Nat} {n : Int} (t : Row m b n row) : ∀ {row' : List Nat}, Row m b n row' → (∀ x ∈ b, x < m) → row = row' := by
  induction t with
  | @full b h =>
    intro row' t' hb
    cases t' with
    | full _ => rfl
    | step h' _ _ _ _ => omega
  | @step b row n r h hr h1 h2 t ih =>
    intro row' t' hb
    cases t' with
    | full h' => omega
    | @step _ _ _ r' h' hr' h1' h2' t' =>
      by_cases e : r = r'
      · subst e
        exact ih t' (app_lt hb hr)
      · exfalso
        by_cases q : r < r'
        · have := below_mono h8 h hb (r := r + 1) (s := r') (by omega) (by omega)
          omega
        · have := below_mono h8 h hb (r := r' + 1) (s := r) (by omega) (by omega)
          omega
def fub : List Nat := [1, 1, 3, 13, 75, 541, 4683, 47293, 545835]
theorem mw_top : ∀ m, m < 9 → 0 < m → mwF m [] = (fub.getD m 0 : Nat) := by decide +kernel
end Lw
set_option Elab.async false
set_option linter.all false
set_option maxRecDepth 100000
set_option autoImplicit false
namespace Lw
open PySem Mi
abbrev FU : Nat := 100000
def sb : Str → Str → Option Bool := subOf exT
def rn (d f : Nat) (ws : List W) (S : Sto) : R W := run fns sb FU d f ws S
def cf (d : Nat) : Cf := ⟨FU, run fns sb FU d, sb⟩
theorem rn_at {d f : Nat} {fn : Fn} {ws : List W} {S : Sto} (h : fns[f]? = some fn) : rn (d + 1) f ws S = runFn (cf d) fn ws S := by
  show (match fns[f]? with
    | some fn => runFn (cf d) fn ws S
    | none => .stuck) = _
  rw [h]
/-- a pure call, by what the def gives -/
theorem pc {d f : Nat} {fn : Fn} {ws : List W} {S : Sto} {ps : List P} {r : R W} (h : fns[f]? = some fn) (hp : asPs ws = some ps) (e : runFn (cf d) fn ws [] = r) : pcallW (cf (d + 1)) f ws S = pcallR r S := by
  unfold pcallW
  rw [hp]
  show pcallR (rn (d + 1) f ws []) S = _
  rw [rn_at h, e]
def isInt : P → Bool
  | .int _ => true
  | _ => false
def notD : P → Bool
  | .dict _ => false
  | _ => true
theorem k_is_integer (d : Nat) (p : P) (S : Sto) (h : notD p = true) : pcallW (cf (d + 1)) 0 [.pv p] S = .ok (.pv (.bool (isInt p))) S := by
  refine (pc (fn := f_is_integer) (ps := [p]) (r := .ok (.pv (.bool (isInt p))) []) rfl rfl ?_).trans rfl
  cases p <;> first | rfl | cases h
def between (p : P) (a b : Int) : Bool := match p with
  | .int i => decide (a ≤ i) && decide (i ≤ b)
  | _ => false
theorem k_is_between (d : Nat) (p : P) (a b : Int) (S : Sto) (h : notD p = true) : pcallW (cf (d + 2)) 1 [.pv p, .pv (.int a), .pv (.int b)] S = .ok (.pv (.bool (between p a b))) S := by
  refine (pc (fn := f_is_between) (ps := [p, .int a, .int b]) (r := .ok (.pv (.bool (between p a b))) []) rfl rfl ?_).trans rfl
  rw [runFn_eq rfl]
  simp -implicitDefEqProofs [f_is_between, i_is_between, startL, k_is_integer _ _ _ h]
  cases p with
  | int i => by_cases h1 : a ≤ i <;> simp [isInt, between, h1]
  | dict _ => cases h
  | _ => simp [isInt, between]

/-- a formula -/
inductive Op where
  | an | or_ | th | sa
inductive Fm where
  | lt (k : Nat) | tr | fl | ng (f : Fm) | bi (o : Op) (f g : Fm)
def Op.w : Op → Str
  | .an => ⟨#[97, 110, 100]⟩ | .or_ => ⟨#[111, 114]⟩ | .th => ⟨#[116, 104, 101, 110]⟩ | .sa => ⟨#[115, 97, 109, 101]⟩
def Op.ev : Op → Bool → Bool → Bool
  | .an, a, b => a && b
  | .or_, a, b => a || b
  | .th, a, b => b || !a
  | .sa, a, b => a == b
def Fm.p : Fm → P
  | .lt k => .tuple [.str ⟨#[108, 101, 116, 116, 101, 114]⟩, .int k]
  | .tr => .tuple [.str ⟨#[116, 114, 117, 101]⟩]
  | .fl => .tuple [.str ⟨#[102, 97, 108, 115, 101]⟩]
  | .ng f => .tuple [.str ⟨#[110, 111, 116]⟩, f.p]
  | .bi o f g => .tuple [.str o.w, f.p, g.p]
def Fm.ht : Fm → Nat
  | .lt _ => 0 | .tr => 0 | .fl => 0
  | .ng f => f.ht + 1
  | .bi _ f g => max f.ht g.ht + 1
/-- whether it is true in a world -/
def Fm.tv (w : Nat) : Fm → Bool
  | .lt k => w / 2 ^ k % 2 == 1
  | .tr => true
  | .fl => false
  | .ng f => !f.tv w
  | .bi o f g => o.ev (f.tv w) (g.tv w)
theorem bitAnd_one (n : Nat) : Builtin.bitAnd (n : Int) 1 = ((n % 2 : Nat) : Int) := by
  unfold Builtin.bitAnd
  rw [decide_eq_true (show (0 : Int) ≤ n by omega), decide_eq_true (show (0 : Int) ≤ 1 by omega)]
  show ((((n : Int).toNat &&& 1 : Nat)) : Int) = _
  rw [Int.toNat_natCast, Nat.and_one_is_mod]
theorem shr_nat (w k : Nat) : (w : Int) / 2 ^ k = ((w / 2 ^ k : Nat) : Int) := by
  push_cast
  rfl
abbrev sTrue : Str := ⟨#[116, 114, 117, 101]⟩
abbrev sFalse : Str := ⟨#[102, 97, 108, 115, 101]⟩
abbrev sLetter : Str := ⟨#[108, 101, 116, 116, 101, 114]⟩
abbrev sNot : Str := ⟨#[110, 111, 116]⟩
abbrev sAnd : Str := ⟨#[97, 110, 100]⟩
abbrev sOr : Str := ⟨#[111, 114]⟩
abbrev sThen : Str := ⟨#[116, 104, 101, 110]⟩
abbrev sSame : Str := ⟨#[115, 97, 109, 101]⟩
/-- the parts of a saying; none: it is none -/
def innerW (n : Int) (w : Str) (r : List P) : Option (List P) :=
  if w = sTrue ∨ w = sFalse then (match r with | [] => some [] | _ => none)
  else if w = sLetter then (match r with | [x] => if between x 0 (n - 1) then some [] else none | _ => none)
  else if w = sNot then (match r with | [x] => some [x] | _ => none)
  else if w = sAnd ∨ w = sOr ∨ w = sThen ∨ w = sSame then (match r with | [x, y] => some [x, y] | _ => none)
  else none
def inner (n : Int) : P → Option (List P)
  | .tuple (.str w :: r) => innerW n w r
  | _ => none
def innP (o : Option (List P)) : P := match o with
  | some xs => .list xs
  | none => .none
def noD : P → Bool
  | .tuple xs => xs.all notD
  | p => notD p
mutual
/-- no dict in it -/
def nd : P → Bool
  | .tuple xs => nds xs
  | .list xs => nds xs
  | .dict _ => false
  | _ => true
def nds : List P → Bool
  | [] => true
  | x :: r => nd x && nds r
end
theorem nd_notD {p : P} (h : nd p = true) : notD p = true := by
  cases p <;> first | rfl | (simp [nd] at h)
theorem nds_all {xs : List P} (h : nds xs = true) : ∀ x ∈ xs, nd x = true := by
  induction xs with
  | nil => intro x hx; cases hx
  | cons y r ih =>
    rw [nds, Bool.and_eq_true] at h
    intro x hx
    rcases List.mem_cons.mp hx with e | e
    · subst e; exact h.1
    · exact ih h.2 x e
theorem nd_noD {p : P} (h : nd p = true) : noD p = true := by
  cases p <;> first | rfl | (simp [nd] at h; done) | skip
  case tuple xs =>
    rw [nd] at h
    show xs.all notD = true
    rw [List.all_eq_true]
    exact fun x hx => nd_notD (nds_all h x hx)
def step (n : Int) : List P → Option (List P)
  | [] => some []
  | x :: r => match inner n x with
    | none => none
    | some ys => (step n r).map (ys ++ ·)
def lev (n : Int) : Nat → List P → Option (List P)
  | 0, row => some row
  | k + 1, row => (step n row).bind (lev n k)
theorem innerW_sub {n : Int} {w : Str} {r ys : List P} (h : innerW n w r = some ys) : (∀ y ∈ ys, y ∈ r) ∧ ys.length ≤ 2 := by
  unfold innerW at h
  repeat' split at h
  all_goals first | (cases h; done) | (injection h with h; subst h; simp)
theorem inner_nd {n : Int} {p : P} {ys : List P} (h : inner n p = some ys) (hp : nd p = true) : (∀ y ∈ ys, nd y = true) ∧ ys.length ≤ 2 := by
  unfold inner at h
  split at h
  · have a := innerW_sub h
    rw [nd, nds, Bool.and_eq_true] at hp
    exact ⟨fun y hy => nds_all hp.2 y (a.1 y hy), a.2⟩
  · cases h
theorem step_nd {n : Int} {row ys : List P} (h : step n row = some ys) (hp : ∀ x ∈ row, nd x = true) : (∀ y ∈ ys, nd y = true) ∧ ys.length ≤ 2 * row.length := by
  induction row generalizing ys with
  | nil => injection h with h; subst h; simp
  | cons x r ih =>
    rw [step] at h
    split at h
    · cases h
    · rename_i zs hz
      cases hs : step n r with
      | none => rw [hs] at h; cases h
      | some us =>
        rw [hs] at h
        injection h with h; subst h
        have a := inner_nd hz (hp x (by simp))
        have b := ih hs (fun y hy => hp y (List.mem_cons_of_mem _ hy))
        refine ⟨fun y hy => ?_, ?_⟩
        · rcases List.mem_append.mp hy with e | e
          · exact a.1 y e
          · exact b.1 y e
        · simp only [List.length_append, List.length_cons]
          omega
/-- the inner loop -/
theorem inner_loop {n : Int} {S0 : Sto} {l0 l1 l2 l3 : Option W} {turn : P → L → Sto → SR}
    (ht : ∀ (x : P) (acc : List P) (l5 l6 : Option W), nd x = true → acc.length + 2 ≤ 16777216 →
      match inner n x with
      | none => ∃ S', turn x [l0, l1, l2, l3, some (.rf S0.length), l5, l6] (S0 ++ [.lst (acc.map .pv)]) = .rt (.pv (.bool false)) S'
      | some ys => ∃ m5 m6, turn x [l0, l1, l2, l3, some (.rf S0.length), l5, l6] (S0 ++ [.lst (acc.map .pv)]) = .nx [l0, l1, l2, l3, some (.rf S0.length), m5, m6] (S0 ++ [.lst ((acc ++ ys).map .pv)])) :
    ∀ (row acc : List P) (l5 l6 : Option W), (∀ x ∈ row, nd x = true) → acc.length + 2 * row.length ≤ 16777216 →
      match step n row with
      | none => ∃ S', forGo turn row [l0, l1, l2, l3, some (.rf S0.length), l5, l6] (S0 ++ [.lst (acc.map .pv)]) = .rt (.pv (.bool false)) S'
      | some ys => ∃ m5 m6, forGo turn row [l0, l1, l2, l3, some (.rf S0.length), l5, l6] (S0 ++ [.lst (acc.map .pv)]) = .nx [l0, l1, l2, l3, some (.rf S0.length), m5, m6] (S0 ++ [.lst ((acc ++ ys).map .pv)]) := by
  intro row
  induction row with
  | nil =>
    intro acc l5 l6 _ _
    exact ⟨l5, l6, by rw [List.append_nil]; rfl⟩
  | cons x r ih =>
    intro acc l5 l6 hd hl
    simp only [List.length_cons] at hl
    have h1 := ht x acc l5 l6 (hd x (by simp)) (by omega)
    rw [step]
    cases hi : inner n x with
    | none =>
      rw [hi] at h1
      obtain ⟨S', e⟩ := h1
      exact ⟨S', forGo_rt e⟩
    | some ys =>
      rw [hi] at h1
      obtain ⟨m5, m6, e⟩ := h1
      have hy := inner_nd hi (hd x (by simp))
      have h2 := ih (acc ++ ys) m5 m6 (fun y hy => hd y (List.mem_cons_of_mem _ hy)) (by rw [List.length_append]; omega)
      cases hs : step n r with
      | none =>
        rw [hs] at h2
        obtain ⟨S', e2⟩ := h2
        exact ⟨S', (forGo_nx e).trans e2⟩
      | some zs =>
        rw [hs] at h2
        obtain ⟨k5, k6, e2⟩ := h2
        refine ⟨k5, k6, (forGo_nx e).trans ?_⟩
        rw [e2, List.append_assoc]
/-- the outer loop -/
theorem outer_loop {n : Int} {l0 l1 : Option W} {turn : P → L → Sto → SR}
    (ht : ∀ (i : P) (row : List P) (S : Sto) (l3 l4 l5 l6 : Option W), (∀ x ∈ row, nd x = true) → 2 * row.length ≤ 16777216 →
      match step n row with
      | none => ∃ S', turn i [l0, l1, some (.pv (.list row)), l3, l4, l5, l6] S = .rt (.pv (.bool false)) S'
      | some ys => ∃ m3 m4 m5 m6 S', turn i [l0, l1, some (.pv (.list row)), l3, l4, l5, l6] S = .nx [l0, l1, some (.pv (.list ys)), m3, m4, m5, m6] S') :
    ∀ (is row : List P) (S : Sto) (l3 l4 l5 l6 : Option W), (∀ x ∈ row, nd x = true) → row.length * 2 ^ is.length ≤ 16777216 →
      match lev n is.length row with
      | none => ∃ S', forGo turn is [l0, l1, some (.pv (.list row)), l3, l4, l5, l6] S = .rt (.pv (.bool false)) S'
      | some ys => ∃ m3 m4 m5 m6 S', forGo turn is [l0, l1, some (.pv (.list row)), l3, l4, l5, l6] S = .nx [l0, l1, some (.pv (.list ys)), m3, m4, m5, m6] S' := by
  intro is
  induction is with
  | nil =>
    intro row S l3 l4 l5 l6 _ _
    exact ⟨l3, l4, l5, l6, S, rfl⟩
  | cons i r ih =>
    intro row S l3 l4 l5 l6 hd hl
    have hl' : row.length * 2 * 2 ^ r.length ≤ 16777216 := by
      rw [List.length_cons, Nat.pow_succ, Nat.mul_comm (2 ^ r.length) 2, ← Nat.mul_assoc] at hl
      exact hl
    have hp : 0 < 2 ^ r.length := Nat.pow_pos (by decide)
    have hr : 2 * row.length ≤ 16777216 := by
      refine Nat.le_trans ?_ hl'
      rw [Nat.mul_comm 2]
      exact Nat.le_mul_of_pos_right _ hp
    have h1 := ht i row S l3 l4 l5 l6 hd hr
    show match (step n row).bind (lev n r.length) with
      | none => _
      | some ys => _
    cases hs : step n row with
    | none =>
      rw [hs] at h1
      obtain ⟨S', e⟩ := h1
      exact ⟨S', forGo_rt e⟩
    | some ys =>
      rw [hs] at h1
      obtain ⟨m3, m4, m5, m6, S1, e⟩ := h1
      have hy := step_nd hs hd
      have h2 := ih ys S1 m3 m4 m5 m6 hy.1 (Nat.le_trans (Nat.mul_le_mul_right _ (by omega)) hl')
      show match lev n r.length ys with
        | none => _
        | some ys => _
      cases hl : lev n r.length ys with
      | none =>
        rw [hl] at h2
        obtain ⟨S', e2⟩ := h2
        exact ⟨S', (forGo_nx e).trans e2⟩
      | some zs =>
        rw [hl] at h2
        obtain ⟨k3, k4, k5, k6, S2, e2⟩ := h2
        exact ⟨k3, k4, k5, k6, S2, (forGo_nx e).trans e2⟩
def isSay (n : Int) (p : P) : Bool := match lev n 12 [p] with
  | none => false
  | some ys => ys.isEmpty
theorem rngL_len (i : Int) (n : Nat) : (rngL i n).length = n := by
  induction n generalizing i with
  | zero => rfl
  | succ n ih => show (rngL (i + 1) n).length + 1 = _; rw [ih]
def eLetters : Ex := ⟨⟨#[78, 111, 76, 101, 116, 116, 101, 114, 115]⟩, []⟩
def eSaying : Ex := ⟨⟨#[78, 111, 83, 97, 121, 105, 110, 103]⟩, []⟩
def eWorld : Ex := ⟨⟨#[78, 111, 87, 111, 114, 108, 100]⟩, []⟩
def okN (n : Nat) : Prop := 1 ≤ n ∧ n ≤ 6
theorem okN_b {n : Nat} (h : okN n) : between (.int n) 1 6 = true := by
  unfold okN at h
  simp [between]
  omega
/-- its letters are letters -/
def Fm.ok (n : Nat) : Fm → Prop
  | .lt k => k < n
  | .tr => True
  | .fl => True
  | .ng f => f.ok n
  | .bi _ f g => f.ok n ∧ g.ok n
theorem Fm.nd (f : Fm) : nd f.p = true := by
  induction f with
  | lt k => rfl
  | tr => rfl
  | fl => rfl
  | ng f ih => simp [Fm.p, Lw.nd, nds, ih]
  | bi o f g i1 i2 => simp [Fm.p, Lw.nd, nds, i1, i2]
def Fm.subs : Fm → List Fm
  | .ng f => [f]
  | .bi _ f g => [f, g]
  | _ => []
theorem inner_fm {n : Nat} (f : Fm) (h : f.ok n) : inner n f.p = some (f.subs.map Fm.p) := by
  cases f with
  | lt k =>
    simp [Fm.ok] at h
    have : k ≤ n - 1 := by omega
    simp [Fm.p, Fm.subs, inner, innerW, between]
    omega
  | tr => rfl
  | fl => rfl
  | ng f => rfl
  | bi o f g => cases o <;> rfl
theorem step_fm {n : Nat} (fs : List Fm) (h : ∀ f ∈ fs, f.ok n) : step n (fs.map Fm.p) = some ((fs.flatMap Fm.subs).map Fm.p) := by
  induction fs with
  | nil => rfl
  | cons f r ih =>
    rw [List.map_cons, step, inner_fm f (h f (by simp))]
    show (step n (r.map Fm.p)).map _ = _
    rw [ih fun g hg => h g (List.mem_cons_of_mem _ hg)]
    simp
theorem subs_lt {f g : Fm} (h : g ∈ f.subs) : g.ht < f.ht := by
  cases f with
  | ng f =>
    simp [Fm.subs] at h
    subst h
    simp [Fm.ht]
  | bi o a b =>
    simp [Fm.subs] at h
    rcases h with h | h <;> subst h <;> simp [Fm.ht] <;> omega
  | _ => simp [Fm.subs] at h
theorem subs_ok {n : Nat} {f g : Fm} (h : g ∈ f.subs) (hf : f.ok n) : g.ok n := by
  cases f with
  | ng f =>
    simp [Fm.subs] at h
    subst h
    exact hf
  | bi o a b =>
    simp [Fm.subs] at h
    rcases h with h | h <;> subst h
    · exact hf.1
    · exact hf.2
  | _ => simp [Fm.subs] at h
theorem lev_fm {n : Nat} : ∀ (k : Nat) (fs : List Fm), (∀ f ∈ fs, f.ok n ∧ f.ht < k) → lev n k (fs.map Fm.p) = some [] := by
  intro k
  induction k with
  | zero =>
    intro fs h
    cases fs with
    | nil => rfl
    | cons f r => exact absurd (h f (by simp)).2 (by omega)
  | succ k ih =>
    intro fs h
    rw [lev, step_fm fs fun f hf => (h f hf).1]
    refine ih _ fun g hg => ?_
    obtain ⟨f, hf, hg⟩ := List.mem_flatMap.mp hg
    have a := h f hf
    have b := subs_lt hg
    exact ⟨subs_ok hg a.1, by omega⟩
theorem say_fm {n : Nat} (f : Fm) (h : f.ok n) (h2 : f.ht < 12) : isSay n f.p = true := by
  unfold isSay
  have := lev_fm (n := n) 12 [f] (by simp; exact ⟨h, h2⟩)
  simp only [List.map_cons, List.map_nil] at this
  rw [this]
  rfl
theorem pow_le {n : Nat} (h : okN n) : 2 ^ n ≤ 64 := by
  have : 2 ^ n ≤ 2 ^ 6 := Nat.pow_le_pow_right (by decide) h.2
  exact this
theorem rngL_map (k : Nat) : ∀ i : Int, rngL i k = (List.range k).map fun j : Nat => PyData.int (i + j) := by
  induction k with
  | zero => intro i; rfl
  | succ k ih =>
    intro i
    rw [List.range_succ_eq_map, List.map_cons, List.map_map]
    show PyData.int i :: rngL (i + 1) k = _
    rw [ih (i + 1)]
    simp
    intro a _
    omega
theorem rngL0 (k : Nat) : rngL 0 k = (List.range k).map fun j : Nat => PyData.int (j : Int) := by
  rw [rngL_map]
  simp
def lotL (n : Nat) (f : Fm) : List Nat := (List.range (2 ^ n)).filter fun w => f.tv w
def intL (xs : List Nat) : List P := xs.map fun w : Nat => PyData.int (w : Int)
theorem filterMap_ints (xs : List Nat) (t : Nat → Bool) (g : P → Option P) (h : ∀ w : Nat, g (.int (w : Int)) = if t w then some (.int (w : Int)) else none) : (xs.map fun w : Nat => PyData.int (w : Int)).filterMap g = intL (xs.filter t) := by
  induction xs with
  | nil => rfl
  | cons x r ih =>
    rw [List.map_cons, List.filterMap_cons, h, ih, List.filter_cons]
    cases t x <;> rfl
def tvP (f : Fm) : P → Option P
  | .int i => if f.tv i.toNat then some (.int i) else none
  | _ => none
theorem eqv_intL (xs : List Nat) : ∀ ys, PyData.eqvAll (intL xs) (intL ys) = decide (xs = ys) := by
  induction xs with
  | nil => intro ys; cases ys <;> rfl
  | cons x r ih =>
    intro ys
    cases ys with
    | nil => rfl
    | cons y s =>
      show (decide ((x : Int) = (y : Int)) && PyData.eqvAll (intL r) (intL s)) = _
      rw [ih]
      by_cases h : x = y <;> by_cases h2 : r = s <;> simp [h, h2]
      omega
theorem lay_intL (xs : List Nat) : PyData.canLayAll0 (intL xs) = true := by
  induction xs with
  | nil => rfl
  | cons x r ih => exact ih
theorem dep_intL (xs : List Nat) : PyData.depthAll (intL xs) = 0 := by
  induction xs with
  | nil => rfl
  | cons x r ih =>
    show max 0 (PyData.depthAll (intL r)) = 0
    rw [ih]
    rfl
theorem shaped_intL (xs : List Nat) : SeqAt.shaped (.tuple (intL xs)) = true := by
  show (PyData.canLayAll0 (intL xs) && decide (PyData.depthAll (intL xs) + 1 ≤ 64)) = true
  rw [lay_intL, dep_intL]
  rfl
@[simp] theorem eqP_intL (xs ys : List Nat) : eqP (.tuple (intL xs)) (.tuple (intL ys)) = some (decide (xs = ys)) := by
  unfold eqP
  rw [shaped_intL, shaped_intL, if_pos (by simp)]
  show some (PyData.eqvAll (intL xs) (intL ys)) = _
  rw [eqv_intL]
/-- the first world that parts -/
def partL (f g : Fm) : List Nat → P
  | [] => .none
  | w :: r => if f.tv w = g.tv w then partL f g r else .int (w : Int)
theorem mem_ins (x y : Int) (l : List Int) : y ∈ ins x l ↔ y = x ∨ y ∈ l := by
  induction l with
  | nil => simp [ins]
  | cons z r ih =>
    unfold ins
    split
    · simp
    · simp [ih]
      constructor <;> (rintro (h | h | h) <;> simp [h])
theorem mem_insU (x y : Int) (l : List Int) : y ∈ insU x l ↔ y = x ∨ y ∈ l := by
  induction l with
  | nil => simp [insU]
  | cons z r ih =>
    unfold insU
    split
    · simp
    · split
      · rename_i h; subst h; simp
      · simp [ih]
        constructor <;> (rintro (h | h | h) <;> simp [h])
theorem mem_isort (y : Int) (l : List Int) : y ∈ isort l ↔ y ∈ l := by
  induction l with
  | nil => simp [isort]
  | cons z r ih => simp [isort, mem_ins, ih]
theorem mem_usort (y : Int) (l : List Int) : y ∈ usort l ↔ y ∈ l := by
  induction l with
  | nil => simp [usort]
  | cons z r ih => simp [usort, mem_insU, ih]
theorem up_insU (x : Int) (l : List Int) (h : l.Pairwise (· < ·)) : (insU x l).Pairwise (· < ·) := by
  induction l with
  | nil => simp [insU]
  | cons z r ih =>
    rw [List.pairwise_cons] at h
    unfold insU
    split
    · rename_i hx
      rw [List.pairwise_cons, List.pairwise_cons]
      refine ⟨?_, h⟩
      intro y hy
      rcases List.mem_cons.mp hy with e | e
      · omega
      · have := h.1 y e; omega
    · split
      · rw [List.pairwise_cons]; exact h
      · rw [List.pairwise_cons]
        refine ⟨?_, ih h.2⟩
        intro y hy
        rcases (mem_insU _ _ _).mp hy with e | e
        · omega
        · exact h.1 y e
theorem up_usort (l : List Int) : (usort l).Pairwise (· < ·) := by
  induction l with
  | nil => exact List.Pairwise.nil
  | cons z r ih => exact up_insU _ _ ih
theorem up_ins (x : Int) (l : List Int) (h : l.Pairwise (· < ·)) (hx : x ∉ l) : (ins x l).Pairwise (· < ·) := by
  induction l with
  | nil => simp [ins]
  | cons z r ih =>
    rw [List.pairwise_cons] at h
    simp at hx
    unfold ins
    split
    · rw [List.pairwise_cons, List.pairwise_cons]
      refine ⟨?_, h⟩
      intro y hy
      rcases List.mem_cons.mp hy with e | e
      · omega
      · have := h.1 y e; omega
    · rw [List.pairwise_cons]
      refine ⟨?_, ih h.2 hx.2⟩
      intro y hy
      rcases (mem_ins _ _ _).mp hy with e | e
      · omega
      · exact h.1 y e
theorem up_isort (l : List Int) (h : l.Nodup) : (isort l).Pairwise (· < ·) := by
  induction l with
  | nil => exact List.Pairwise.nil
  | cons z r ih =>
    rw [List.nodup_cons] at h
    refine up_ins _ _ (ih h.2) ?_
    rw [mem_isort]
    exact h.1
theorem up_ext : ∀ (a b : List Int), a.Pairwise (· < ·) → b.Pairwise (· < ·) → (∀ x, x ∈ a ↔ x ∈ b) → a = b := by
  intro a
  induction a with
  | nil =>
    intro b _ _ h
    cases b with
    | nil => rfl
    | cons y s => exact absurd ((h y).mpr (by simp)) (by simp)
  | cons x r ih =>
    intro b ha hb h
    cases b with
    | nil => exact absurd ((h x).mp (by simp)) (by simp)
    | cons y s =>
      rw [List.pairwise_cons] at ha hb
      have e : x = y := by
        rcases List.mem_cons.mp ((h x).mp (by simp)) with e | e
        · exact e
        · rcases List.mem_cons.mp ((h y).mpr (by simp)) with e2 | e2
          · exact e2.symm
          · have := ha.1 y e2
            have := hb.1 x e
            omega
      subst e
      congr 1
      refine ih s ha.2 hb.2 fun z => ?_
      have hz := h z
      simp at hz
      constructor
      · intro m
        rcases hz.mp (Or.inr m) with e | e
        · have := ha.1 z m; omega
        · exact e
      · intro m
        rcases hz.mpr (Or.inr m) with e | e
        · have := hb.1 z m; omega
        · exact e
theorem isort_usort (a b : List Int) (h : a.Nodup) (hm : ∀ x, x ∈ a ↔ x ∈ b) : isort a = usort b :=
  up_ext _ _ (up_isort a h) (up_usort b) fun x => by rw [mem_isort, mem_usort, hm]
/-! letters of a saying -/
def Fm.lets : Fm → List Nat
  | .lt k => [k]
  | .tr => []
  | .fl => []
  | .ng f => f.lets
  | .bi _ f g => f.lets ++ g.lets
def Fm.size : Fm → Nat
  | .ng f => f.size + 1
  | .bi _ f g => f.size + g.size + 1
  | _ => 1
def tot : List Fm → Nat
  | [] => 0
  | f :: r => f.size + tot r
theorem tot_app (a b : List Fm) : tot (a ++ b) = tot a + tot b := by
  induction a with
  | nil => simp [tot]
  | cons x r ih => simp [tot, ih]; omega
theorem subs_size (f : Fm) : tot f.subs + 1 = f.size := by
  cases f <;> simp [Fm.subs, tot, Fm.size]
def kv (K : List Nat) : List ((Int ⊕ Str) × W) := K.map fun k : Nat => (.inl (k : Int), .pv (.bool true))
theorem kv_any (K : List Nat) (k : Nat) : ((kv K).any fun kv => decide (kv.1 = .inl (k : Int))) = decide (k ∈ K) := by
  induction K with
  | nil => rfl
  | cons x r ih =>
    show (decide ((Sum.inl (x : Int) : Int ⊕ Str) = .inl (k : Int)) || (kv r).any _) = _
    rw [ih]
    by_cases h : k = x
    · simp [h]
    · have : ¬ (x : Int) = (k : Int) := by omega
      simp [h, this]
def addK (K : List Nat) (k : Nat) : List Nat := if k ∈ K then K else K ++ [k]
theorem put_kv (K : List Nat) (k : Nat) : putW (kv K) (.inl (k : Int)) (.pv (.bool true)) = kv (addK K k) := by
  unfold putW addK
  rw [kv_any]
  by_cases h : k ∈ K
  · rw [if_pos (by simpa using h), if_pos h]
    unfold kv
    rw [List.map_map]
    apply List.map_congr_left
    intro x _
    by_cases hx : (Sum.inl (x : Int) : Int ⊕ Str) = .inl (k : Int)
    · simp [hx]
    · simp [hx]
  · rw [if_neg (by simpa using h), if_neg h]
    simp [kv]
theorem addK_mem (K : List Nat) (k x : Nat) : x ∈ addK K k ↔ x ∈ K ∨ x = k := by
  unfold addK
  split
  · constructor
    · exact Or.inl
    · rintro (h | h)
      · exact h
      · subst h; assumption
  · simp
theorem addK_nodup (K : List Nat) (k : Nat) (h : K.Nodup) : (addK K k).Nodup := by
  unfold addK
  split
  · exact h
  · rename_i hk
    rw [List.nodup_append]
    refine ⟨h, by simp, ?_⟩
    intro a ha b hb
    simp at hb
    subst hb
    intro e
    subst e
    exact hk ha
theorem addK_len (K : List Nat) (k : Nat) : (addK K k).length ≤ K.length + 1 := by
  unfold addK
  split <;> simp

theorem lt_ne_letter (f : Fm) : (∃ k, f = .lt k) ∨ ∃ w r, f.p = .tuple (.str w :: r) ∧ w ≠ sLetter ∧ r = f.subs.map Fm.p ∧ f.lets = f.subs.flatMap Fm.lets := by
  cases f with
  | lt k => exact Or.inl ⟨k, rfl⟩
  | tr => exact Or.inr ⟨_, _, rfl, by decide, rfl, rfl⟩
  | fl => exact Or.inr ⟨_, _, rfl, by decide, rfl, rfl⟩
  | ng f => exact Or.inr ⟨_, _, rfl, by decide, rfl, by simp [Fm.subs, Fm.lets]⟩
  | bi o f g => exact Or.inr ⟨_, _, rfl, by cases o <;> decide, rfl, by simp [Fm.subs, Fm.lets]⟩
theorem whileGo_nx {c : L → Sto → R Bool} {body : L → Sto → SR} {n : Nat} {l l1 : L} {S S1 S2 : Sto} (h : c l S = .ok true S1) (h2 : body l S1 = .nx l1 S2) : whileGo c body (n + 1) l S = whileGo c body n l1 S2 := by
  show (match c l S with | .ok true S1 => _ | .ok false S1 => _ | .err x S1 => _ | .stuck => _) = _
  rw [h]
  show (match body l S1 with | .nx l1 S2 => _ | .ct l1 S2 => _ | .bk l1 S2 => _ | .rt p S2 => _ | .err x l1 S2 => _ | .stuck => _) = _
  rw [h2]
theorem whileGo_end {c : L → Sto → R Bool} {body : L → Sto → SR} {n : Nat} {l : L} {S S1 : Sto} (h : c l S = .ok false S1) : whileGo c body (n + 1) l S = .nx l S1 := by
  show (match c l S with | .ok true S1 => _ | .ok false S1 => _ | .err x S1 => _ | .stuck => _) = _
  rw [h]
def fw (fs : List Fm) : List W := fs.map fun f => .pv f.p
theorem pop_last (o : O) (xs : List W) (x : W) : popW (.rf 1) (-1) [o, .lst (xs ++ [x])] = .ok x [o, .lst xs] := by
  show (match L2.ixN (xs ++ [x]).length (-1) with
      | some j => match (xs ++ [x])[j]? with
        | some y => R.ok y ([o, O.lst (xs ++ [x])].set 1 (.lst ((xs ++ [x]).eraseIdx j)))
        | none => .stuck
      | none => .stuck) = _
  have : L2.ixN (xs ++ [x]).length (-1) = some xs.length := by
    unfold L2.ixN
    rw [if_neg (by omega), if_pos (by simp; omega)]
    simp
    omega
  rw [this]
  simp
  rw [List.eraseIdx_append_of_length_le (Nat.le_refl _), Nat.sub_self]
  simp
theorem len_rf1 (o : O) (xs : List W) : biW .len [.rf 1] [o, .lst xs] = .ok (.pv (.int xs.length)) [o, .lst xs] := rfl
theorem ext_rf1 (o : O) (xs : List W) (zs : List P) (h : xs.length + zs.length ≤ 16777216) : extW (.rf 1) (.pv (.tuple zs)) [o, .lst xs] = .ok (.pv .none) [o, .lst (xs ++ zs.map .pv)] := by
  show (if xs.length + zs.length ≤ maxLen then R.ok (W.pv .none) ([o, O.lst xs].set 1 (.lst (xs ++ zs.map W.pv))) else .stuck) = _
  rw [if_pos (show _ ≤ maxLen from h)]
  rfl
theorem cut1 (w : P) (r : List P) : cut (w :: r) (some 1) none = r := by
  unfold cut
  have h1 : HT.sIx (w :: r).length 0 (some 1) = 1 := by
    unfold HT.sIx
    simp
  have h2 : HT.sIx (w :: r).length (w :: r).length none = r.length + 1 := by
    unfold HT.sIx
    simp
  show ((w :: r).drop (HT.sIx _ _ _)).take (HT.sIx _ _ _ - HT.sIx _ _ _) = _
  rw [h1, h2]
  simp
theorem setD_kv (K : List Nat) (k : Nat) (xs : List W) (h : K.length < 16777216) : setW (.rf 0) (.pv (.int (k : Nat))) (.pv (.bool true)) [.dct (kv K), .lst xs] = .ok () [.dct (kv (addK K k)), .lst xs] := by
  show (if (kv K).length < maxLen then R.ok () ([O.dct (kv K), .lst xs].set 0 (.dct (putW (kv K) (.inl (k : Int)) (.pv (.bool true))))) else .stuck) = _
  rw [if_pos (show (kv K).length < maxLen from by show _ < 16777216; simpa [kv] using h), put_kv]
  rfl
theorem up_len : ∀ (l : List Int) (a b : Int), l.Pairwise (· < ·) → (∀ x ∈ l, a ≤ x ∧ x < b) → l.length ≤ (b - a).toNat := by
  intro l
  induction l with
  | nil => intros; simp
  | cons x r ih =>
    intro a b h hm
    rw [List.pairwise_cons] at h
    have h1 := hm x (by simp)
    have h2 := ih (x + 1) b h.2 fun y hy => ⟨by have := h.1 y hy; omega, (hm y (by simp [hy])).2⟩
    simp only [List.length_cons]
    omega
theorem len_ins (x : Int) (l : List Int) : (ins x l).length = l.length + 1 := by
  induction l with
  | nil => rfl
  | cons z r ih =>
    unfold ins
    split
    · rfl
    · simp [ih]
theorem len_isort (l : List Int) : (isort l).length = l.length := by
  induction l with
  | nil => rfl
  | cons z r ih => rw [isort, len_ins, ih]; rfl
def castL (K : List Nat) : List Int := K.map fun k : Nat => (k : Int)
theorem castL_nodup {K : List Nat} (h : K.Nodup) : (castL K).Nodup := by
  unfold castL
  induction K with
  | nil => simp
  | cons x r ih =>
    rw [List.nodup_cons] at h
    rw [List.map_cons, List.nodup_cons]
    refine ⟨?_, ih h.2⟩
    intro hm
    obtain ⟨y, hy, e⟩ := List.mem_map.mp hm
    have : y = x := by omega
    subst this
    exact h.1 hy
theorem castL_mem {K : List Nat} {x : Int} : x ∈ castL K ↔ ∃ k ∈ K, (k : Int) = x := by
  unfold castL
  simp
theorem keys_kv (K : List Nat) : keysI (kv K) = some (castL K) := by
  induction K with
  | nil => rfl
  | cons x r ih =>
    show (keysI (kv r)).map _ = _
    rw [ih]
    rfl
theorem lets_ok {n : Nat} {f : Fm} (h : f.ok n) : ∀ k ∈ f.lets, k < n := by
  induction f with
  | lt k => intro x hx; simp [Fm.lets] at hx; subst hx; exact h
  | tr => intro x hx; simp [Fm.lets] at hx
  | fl => intro x hx; simp [Fm.lets] at hx
  | ng f ih => exact ih h
  | bi o f g i1 i2 =>
    intro x hx
    simp [Fm.lets] at hx
    rcases hx with hx | hx
    · exact i1 h.1 x hx
    · exact i2 h.2 x hx
def letP (f : Fm) : P := .tuple ((usort (castL f.lets)).map .int)
structure Hd where
  cs : List Nat
  a : Nat
  b : Nat
  c : Int
  e : Int
def Hd.ws (h : Hd) : List W := [.pv (.list (intL h.cs)), .pv (.int h.a), .pv (.int h.b), .pv (.int h.c), .pv (.int h.e)]
def Hd.o (h : Hd) : O := .lst h.ws
theorem hc {d f n : Nat} {fn : Fn} {S : Sto} {ps : List P} {h h' : Hd} {p : P} {T : Sto} (hf : fns[f]? = some fn) (hs : S[n]? = some h.o) (e : runFn (cf d) fn (.rf 0 :: ps.map .pv) [h.o] = .ok (.pv p) (h'.o :: T)) : hcallW (cf (d + 1)) f (.rf n :: ps.map .pv) S = .ok (.pv p) (S.set n h'.o) := by
  have a : toRf0 (.rf n :: ps.map .pv) = some (n, .rf 0 :: ps.map .pv) := by
    show (if (asPs (ps.map .pv)).isSome then _ else _) = _
    rw [asPs_pvs]
    rfl
  unfold hcallW
  rw [a]
  show (match S[n]? with
    | some o => if flatO o then hcallR n (rn (d + 1) f (.rf 0 :: ps.map .pv) [o]) S else .stuck
    | none => .stuck) = _
  rw [hs]
  show (if flatO h.o = true then hcallR n (rn (d + 1) f (.rf 0 :: ps.map .pv) [h.o]) S else .stuck) = _
  rw [if_pos (show flatO h.o = true from rfl), rn_at hf, e]
  rfl
theorem small_of {z : Int} (h : 0 ≤ z) (h2 : z < 4294967296) : small z = true := by
  unfold small
  rw [decide_eq_true_eq]
  omega
def mix1 (c e : Int) : Int := (c + 6007 * e) * 69621 % 2147483629
def mix2 (z : Int) : Int := z * (z / 1013 + 48271) % 2147483647
def mix3 (z : Int) : Int := z * (z / 2011 + 16807) % 2147483587
theorem mix1_b (c e : Int) : small (mix1 c e) = true := by
  unfold mix1
  exact small_of (by omega) (by omega)
theorem mix2_b (z : Int) : small (mix2 z) = true := by
  unfold mix2
  exact small_of (by omega) (by omega)
def TL.tl : TL → TL
  | .nil => .nil
  | .cons _ r => r
/-- the mixed number -/
theorem r_mix (d m : Nat) (hm : 0 < m) (h : Hd) (x : Option W) : ∃ z : Int, 0 ≤ z ∧ z < m ∧ ∃ h' : Hd, exs (cf d) (TL.tl (TL.tl i__law_draw)) [some (.rf 0), some (.pv (.int m)), none, x, none] [h.o] = .rt (.pv (.int z)) [h'.o] := by
  have hm' : (0 : Int) < m := by omega
  have s0 : small 69621 = true := by decide
  have s1 : small 6007 = true := by decide
  obtain ⟨cs, a, b, c, e⟩ := h
  have s2 := mix1_b c (e + 1)
  have s3 := mix2_b (mix1 c (e + 1))
  refine ⟨mix3 (mix2 (mix1 c (e + 1))) / 32 % m, Int.emod_nonneg _ (by omega), Int.emod_lt_of_pos _ hm', ⟨cs, a, b, c, e + 1⟩, ?_⟩
  unfold mix1 at s2 s3
  unfold mix2 at s3
  simp [TL.tl, i__law_draw, Hd.o, Hd.ws, s0, s1, s2, s3, hm, mix3, mix2, mix1]

/-- a draw -/
theorem r_draw (d m : Nat) (hm : 0 < m) (hm2 : m < 1073741824) (h : Hd) : ∃ k : Nat, k < m ∧ ∃ h' : Hd, runFn (cf d) f__law_draw [.rf 0, .pv (.int m)] [h.o] = .ok (.pv (.int (k : Nat))) [h'.o] := by
  have s0 : small 48271 = true := by decide
  have key : ∃ z : Int, 0 ≤ z ∧ z < m ∧ ∃ h' : Hd, runFn (cf d) f__law_draw [.rf 0, .pv (.int m)] [h.o] = .ok (.pv (.int z)) [h'.o] := by
    rw [runFn_eq rfl]
    show ∃ z : Int, 0 ≤ z ∧ z < m ∧ ∃ h' : Hd, endF ((ex (cf d) _ [some (.rf 0), some (.pv (.int m)), none, none, none] [h.o]).seq fun l1 S1 => exs (cf d) (TL.tl i__law_draw) l1 S1) = _
    have first : ∃ (x : Option W) (h1 : Hd), ex (cf d) (match i__law_draw with | .cons t _ => t | .nil => .pass) [some (.rf 0), some (.pv (.int m)), none, none, none] [h.o] = .nx [some (.rf 0), some (.pv (.int m)), none, x, none] [h1.o] := by
      obtain ⟨cs, a, b, c, e⟩ := h
      by_cases hb : b = 0
      · subst hb
        by_cases ha : a < cs.length
        · have hi : idxL (intL cs) (a : Int) = some (.int (cs[a] : Nat)) := by
            rw [idxL_nat _ _ (by simpa [intL] using ha)]
            simp [intL]
          have hl : (a : Int) < (intL cs).length := by simp [intL]; exact ha
          by_cases hx : 10 ^ 18 ≤ cs[a]
          · have hx' : (1000000000000000000 : Int) ≤ (cs[a] : Nat) := by omega
            refine ⟨some (.pv (.int (cs[a] : Nat))), ⟨cs, a + 1, cs[a], (c * 48271 + cs[a] + 11) % 2147483647, e⟩, ?_⟩
            simp [i__law_draw, Hd.o, Hd.ws, hi, hl, s0, hx, hx']
          · have hx' : ¬ (1000000000000000000 : Int) ≤ (cs[a] : Nat) := by omega
            refine ⟨some (.pv (.int (cs[a] : Nat))), ⟨cs, a + 1, 0, (c * 48271 + cs[a] + 11) % 2147483647, e⟩, ?_⟩
            simp [i__law_draw, Hd.o, Hd.ws, hi, hl, s0, hx, hx']
        · have hl : ¬ (a : Int) < (intL cs).length := by simp [intL]; omega
          refine ⟨none, ⟨cs, a, 0, c, e⟩, ?_⟩
          simp [i__law_draw, Hd.o, Hd.ws, hl]
      · have hb' : ¬ (b : Int) = 0 := by omega
        refine ⟨none, ⟨cs, a, b, c, e⟩, ?_⟩
        simp [i__law_draw, Hd.o, Hd.ws, hb]
    obtain ⟨x, h1, e1⟩ := first
    have e2 : ∀ r : R W, endF (exs (cf d) (TL.tl i__law_draw) [some (.rf 0), some (.pv (.int m)), none, x, none] [h1.o]) = r → endF (exs (cf d) i__law_draw [some (.rf 0), some (.pv (.int m)), none, none, none] [h.o]) = r := by
      intro r hr
      show endF (SR.seq (ex (cf d) (match i__law_draw with | .cons t _ => t | .nil => .pass) _ _) _) = r
      rw [e1]
      exact hr
    show ∃ z : Int, 0 ≤ z ∧ z < m ∧ ∃ h' : Hd, endF (exs (cf d) i__law_draw [some (.rf 0), some (.pv (.int m)), none, none, none] [h.o]) = _
    by_cases hb : h1.b = 0
    · obtain ⟨z, z1, z2, h', e3⟩ := r_mix d m hm h1 x
      refine ⟨z, z1, z2, h', e2 _ ?_⟩
      have e4 : exs (cf d) (TL.tl i__law_draw) [some (.rf 0), some (.pv (.int m)), none, x, none] [h1.o] = exs (cf d) (TL.tl (TL.tl i__law_draw)) [some (.rf 0), some (.pv (.int m)), none, x, none] [h1.o] := by
        refine seq_of ?_ rfl
        simp [Hd.o, Hd.ws, hb]
      rw [e4, e3]
      rfl
    · have hb1 : 0 < h1.b := by omega
      refine ⟨(h1.b % m : Nat), by omega, by have := Nat.mod_lt h1.b hm; omega, ⟨h1.cs, h1.a, h1.b / m, h1.c, h1.e⟩, e2 _ ?_⟩
      have hm' : (m : Int) < 1073741824 := by omega
      simp [TL.tl, i__law_draw, Hd.o, Hd.ws, hb1, hm, hm']
  obtain ⟨z, h1, h2, h', e⟩ := key
  obtain ⟨k, rfl⟩ := Int.eq_ofNat_of_zero_le h1
  exact ⟨k, by omega, h', e⟩
theorem k_draw (d m n : Nat) (S : Sto) (h : Hd) (hm : 0 < m) (hm2 : m < 1073741824) (hs : S[n]? = some h.o) : ∃ k : Nat, k < m ∧ ∃ h' : Hd, hcallW (cf (d + 1)) 30 [.rf n, .pv (.int m)] S = .ok (.pv (.int (k : Nat))) (S.set n h'.o) := by
  obtain ⟨k, h1, h', e⟩ := r_draw d m hm hm2 h
  exact ⟨k, h1, h', hc (ps := [.int m]) rfl hs e⟩

theorem k_some (d n : Nat) (xs : List P) (S : Sto) (h : Hd) (h0 : xs ≠ []) (hl : xs.length < 1073741824) (hs : S[n]? = some h.o) : ∃ p, p ∈ xs ∧ ∃ h' : Hd, hcallW (cf (d + 2)) 31 [.rf n, .pv (.list xs)] S = .ok (.pv p) (S.set n h'.o) := by
  obtain ⟨k, hk, h', e⟩ := k_draw d xs.length 0 [h.o] h (List.length_pos_iff.mpr h0) hl rfl
  refine ⟨xs[k], List.getElem_mem hk, h', hc (ps := [.list xs]) rfl hs (T := []) ?_⟩
  show runFn (cf (d + 1)) f__law_some [.rf 0, .pv (.list xs)] [h.o] = _
  rw [runFn_eq rfl]
  simp -implicitDefEqProofs [f__law_some, i__law_some, startL, e, idxL_nat _ _ hk]
theorem pop_rf1 (a b : O) (xs : List W) (k : Nat) (hk : k < xs.length) : popiW (.rf 1) (.pv (.int (k : Nat))) [a, .lst xs, b] = .ok xs[k] [a, .lst (xs.eraseIdx k), b] := by
  show (match L2.ixN xs.length k with
      | some j => match xs[j]? with
        | some y => R.ok y ([a, O.lst xs, b].set 1 (.lst (xs.eraseIdx j)))
        | none => .stuck
      | none => .stuck) = _
  have : L2.ixN xs.length k = some k := by
    unfold L2.ixN
    rw [if_pos (by omega), if_pos (by omega)]
    simp
  rw [this]
  simp only [List.getElem?_eq_getElem hk]
  rfl
theorem app_rf2 (a b : O) (xs : List W) (w : W) (h : xs.length < 16777216) : appW (.rf 2) w [a, b, .lst xs] = .ok (.pv .none) [a, b, .lst (xs ++ [w])] := by
  show (if xs.length < maxLen then R.ok (W.pv .none) ([a, b, O.lst xs].set 2 (.lst (xs ++ [w]))) else .stuck) = _
  rw [if_pos (show _ < maxLen from h)]
  rfl
theorem erase_map (k : Nat) (l : List P) : (l.map W.pv).eraseIdx k = (l.eraseIdx k).map W.pv := by
  induction l generalizing k with
  | nil => simp
  | cons x r ih =>
    cases k with
    | zero => rfl
    | succ k => simp [ih]
/-- the hand of a script -/
theorem k_hand (d : Nat) (ns : List Int) : ∃ h : Hd, gcallW (cf (d + 1)) 29 [.sc ns] [] = .ok (.rf 0) [h.o] := by
  have g := lcGo_pure (turn := lcT (cf d) (.nm 2) .nil e__law_hand_1 [2] [some (.sc ns), none, none]) (S := []) (fun p => match p with | .int i => some (.int (i.natAbs : Nat)) | _ => none) (cut (ns.map .int) none (some 63)) (by
    intro x hx
    have : ∃ i : Int, x = .int i := by
      unfold cut at hx
      have := List.mem_of_mem_drop (List.mem_of_mem_take hx)
      obtain ⟨i, _, e⟩ := List.mem_map.mp this
      exact ⟨i, e.symm⟩
    obtain ⟨i, rfl⟩ := this
    simp [e__law_hand_1, wipe]
    have : (if i < 0 then -i else i) = (i.natAbs : Int) := by split <;> omega
    rw [this])
  have g2 : ∃ cs : List Nat, (cut (ns.map .int) none (some 63)).filterMap (fun p => match p with | .int i => some (PyData.int (i.natAbs : Nat)) | _ => none) = intL cs := by
    have : ∀ l : List Int, (l.map PyData.int).filterMap (fun p => match p with | .int i => some (PyData.int (i.natAbs : Nat)) | _ => none) = intL (l.map Int.natAbs) := by
      intro l
      induction l with
      | nil => rfl
      | cons x r ih =>
        show _ :: _ = _ :: _
        exact congrArg _ ih
    refine ⟨((ns.drop (HT.sIx ns.length 0 none)).take (HT.sIx ns.length ns.length (some 63) - HT.sIx ns.length 0 none)).map Int.natAbs, ?_⟩
    unfold cut
    rw [← this, List.map_take, List.map_drop, List.length_map]
    rfl
  obtain ⟨cs, g2⟩ := g2
  rw [g2] at g
  refine ⟨⟨cs, 0, 0, 31 + 7 * (intL cs).length, 0⟩, ?_⟩
  have main : runFn (cf d) f__law_hand [.sc ns] [] = .ok (.rf 0) [Hd.o ⟨cs, 0, 0, 31 + 7 * (intL cs).length, 0⟩] := by
    rw [runFn_eq rfl]
    have s0 : small 7 = true := by decide
    have sl : ∀ (a b : Option Int), slcW (.sc ns) a b [] = .ok (.pv (.list (cut (ns.map .int) a b))) [] := fun _ _ => rfl
    simp -implicitDefEqProofs [f__law_hand, i__law_hand, startL, sl, g, s0, Hd.o, Hd.ws]
  unfold gcallW
  rw [if_pos (show [W.sc ns].all argOk = true from rfl)]
  show gcallR (rn (d + 1) 29 [.sc ns] []) [] = _
  rw [rn_at rfl, main]
  rfl

/-! the law's own functions -/
theorem size_le (f : Fm) : f.size < 2 ^ (f.ht + 1) := by
  induction f with
  | ng f ih =>
    simp only [Fm.size, Fm.ht]
    rw [Nat.pow_succ]
    have : 1 ≤ 2 ^ (f.ht + 1) := Nat.one_le_two_pow
    omega
  | bi o f g i1 i2 =>
    simp only [Fm.size, Fm.ht]
    rw [Nat.pow_succ]
    have a : 2 ^ (f.ht + 1) ≤ 2 ^ (max f.ht g.ht + 1) := Nat.pow_le_pow_right (by decide) (by omega)
    have b : 2 ^ (g.ht + 1) ≤ 2 ^ (max f.ht g.ht + 1) := Nat.pow_le_pow_right (by decide) (by omega)
    omega
  | _ => simp [Fm.size, Fm.ht]
theorem lets_le (f : Fm) : f.lets.length ≤ 2 ^ f.ht := by
  induction f with
  | ng f ih =>
    simp only [Fm.lets, Fm.ht]
    rw [Nat.pow_succ]
    omega
  | bi o f g i1 i2 =>
    simp only [Fm.lets, Fm.ht, List.length_append]
    rw [Nat.pow_succ]
    have a : 2 ^ f.ht ≤ 2 ^ (max f.ht g.ht) := Nat.pow_le_pow_right (by decide) (by omega)
    have b : 2 ^ g.ht ≤ 2 ^ (max f.ht g.ht) := Nat.pow_le_pow_right (by decide) (by omega)
    omega
  | _ => simp [Fm.lets, Fm.ht]
def letL (f : Fm) : List P := (castL f.lets).map .int
theorem kept_int (d : Nat) (i : Int) (S : Sto) : pcallW (cf (d + 1)) 32 [.pv (.int i), .pv (.int i)] S = .ok (.pv (.bool true)) S := by
  refine (pc (fn := f__law_kept) (ps := [.int i, .int i]) (r := .ok (.pv (.bool true)) []) rfl rfl ?_).trans rfl
  rw [runFn_eq rfl]
  simp -implicitDefEqProofs [f__law_kept, i__law_kept, startL]
theorem kept_bool (d : Nat) (b : Bool) (S : Sto) : pcallW (cf (d + 1)) 32 [.pv (.bool b), .pv (.bool b)] S = .ok (.pv (.bool true)) S := by
  refine (pc (fn := f__law_kept) (ps := [.bool b, .bool b]) (r := .ok (.pv (.bool true)) []) rfl rfl ?_).trans rfl
  cases b <;> rfl
theorem kept_none (d : Nat) (S : Sto) : pcallW (cf (d + 1)) 32 [.pv .none, .pv .none] S = .ok (.pv (.bool true)) S := by
  refine (pc (fn := f__law_kept) (ps := [.none, .none]) (r := .ok (.pv (.bool true)) []) rfl rfl ?_).trans rfl
  rfl
theorem all_true {α : Type} (xs : List α) : biP .all [.list (xs.map fun _ => .bool true)] = some (.bool true) := by
  show (boolsOf (xs.map fun _ => PyData.bool true)).map (fun bs => PyData.bool (bs.all id)) = _
  have : boolsOf (xs.map fun _ => PyData.bool true) = some (xs.map fun _ => true) := by
    induction xs with
    | nil => rfl
    | cons x r ih =>
      show (boolsOf (r.map fun _ => PyData.bool true)).map _ = _
      rw [ih]
      rfl
  rw [this]
  simp
theorem kept_tup (d : Nat) (xs : List P) (S : Sto) (h : ∀ x ∈ xs, ∃ i, x = .int i) (hl : xs.length ≤ 16777216) : pcallW (cf (d + 2)) 32 [.pv (.tuple xs), .pv (.tuple xs)] S = .ok (.pv (.bool true)) S := by
  refine (pc (fn := f__law_kept) (ps := [.tuple xs, .tuple xs]) (r := .ok (.pv (.bool true)) []) rfl rfl ?_).trans rfl
  rw [runFn_eq rfl]
  have r := items_rng1 xs.length hl
  have g := lcGo_pure (turn := lcT (cf (d + 1)) (.nm 2) .nil e__law_kept_1 [2] [some (.pv (.tuple xs)), some (.pv (.tuple xs)), none]) (S := []) (fun _ => some (.bool true)) (rngL 0 xs.length) (by
    rw [rngL0]
    intro x hx
    obtain ⟨k, hk, rfl⟩ := List.mem_map.mp hx
    rw [List.mem_range] at hk
    obtain ⟨i, hi⟩ := h xs[k] (List.getElem_mem hk)
    simp [e__law_kept_1, wipe, idxL_nat _ _ hk, hi, kept_int])
  have e : ∀ l : List P, l.filterMap (fun _ => some (PyData.bool true)) = l.map fun _ => PyData.bool true := by
    intro l
    induction l with
    | nil => rfl
    | cons x r ih => simp [ih]
  rw [e] at g
  simp -implicitDefEqProofs [f__law_kept, i__law_kept, startL, r, g, all_true]

/-! drawn sayings -/
theorem draw0 (d m : Nat) (h : Hd) (hm : 0 < m) (hm2 : m < 1073741824) : ∃ k : Nat, k < m ∧ ∃ h' : Hd, hcallW (cf (d + 1)) 30 [.rf 0, .pv (.int m)] [h.o] = .ok (.pv (.int (k : Nat))) [h'.o] := k_draw d m 0 [h.o] h hm hm2 rfl
theorem some0 (d : Nat) (xs : List P) (h : Hd) (h0 : xs ≠ []) (hl : xs.length < 1073741824) : ∃ p, p ∈ xs ∧ ∃ h' : Hd, hcallW (cf (d + 2)) 31 [.rf 0, .pv (.list xs)] [h.o] = .ok (.pv p) [h'.o] := k_some d 0 xs [h.o] h h0 hl rfl
def Bad (n : Int) : Nat → P → Prop
  | 0, p => inner n p = none
  | k + 1, p => ∃ ys, inner n p = some ys ∧ ∃ y ∈ ys, Bad n k y
theorem step_bad {n : Int} {row : List P} {x : P} (hx : x ∈ row) (h : inner n x = none) : step n row = none := by
  induction row with
  | nil => cases hx
  | cons y r ih =>
    rw [step]
    rcases List.mem_cons.mp hx with e | e
    · subst e; rw [h]
    · cases inner n y with
      | none => rfl
      | some ys => show (step n r).map _ = none; rw [ih e]; rfl
theorem step_sub {n : Int} {row zs ys : List P} {x : P} (hx : x ∈ row) (h : inner n x = some ys) (hs : step n row = some zs) : ∀ y ∈ ys, y ∈ zs := by
  induction row generalizing zs with
  | nil => cases hx
  | cons u r ih =>
    rw [step] at hs
    cases hu : inner n u with
    | none => rw [hu] at hs; cases hs
    | some us =>
      rw [hu] at hs
      cases hr : step n r with
      | none => rw [hr] at hs; cases hs
      | some rs =>
        rw [hr] at hs
        injection hs with hs; subst hs
        intro y hy
        rcases List.mem_cons.mp hx with e | e
        · subst e
          rw [h] at hu
          injection hu with hu; subst hu
          exact List.mem_append_left _ hy
        · exact List.mem_append_right _ (ih e hr y hy)
theorem lev_bad {n : Int} : ∀ (k m : Nat) (row : List P) (x : P), k < m → x ∈ row → Bad n k x → lev n m row = none := by
  intro k
  induction k with
  | zero =>
    intro m row x hm hx hb
    obtain ⟨m, rfl⟩ : ∃ e, m = e + 1 := ⟨m - 1, by omega⟩
    show (step n row).bind _ = none
    rw [step_bad hx hb]
    rfl
  | succ k ih =>
    intro m row x hm hx hb
    obtain ⟨m, rfl⟩ : ∃ e, m = e + 1 := ⟨m - 1, by omega⟩
    obtain ⟨ys, h1, y, hy, hb⟩ := hb
    show (step n row).bind _ = none
    cases hs : step n row with
    | none => rfl
    | some zs => exact ih m zs y (by omega) (step_sub hx h1 hs y hy) hb
theorem say_bad {n : Int} {k : Nat} {p : P} (hk : k < 12) (h : Bad n k p) : isSay n p = false := by
  unfold isSay
  rw [lev_bad k 12 [p] p hk (by simp) h]
def badL (n : Nat) : List P := [.none, .tuple [.str sLetter, .int n], .tuple [.str sLetter, .int (-1)], .tuple [.str sLetter], .tuple [.str sLetter, .bool true], .tuple [.str sNot], .tuple [.str sAnd, .tuple [.str sTrue]], .tuple [.str sTrue, .int 1], .tuple [], .list [.str sTrue], .str sTrue, .tuple [.str ⟨#[120, 111, 114]⟩, .tuple [.str sTrue], .tuple [.str sTrue]],
  .tuple [.str sNot, .none], .tuple [.str ⟨#[105, 102]⟩, .tuple [.str sTrue], .tuple [.str sTrue]], .tuple [.str sOr, .tuple [.str sTrue], .tuple [.str sLetter, .int n]], .tuple [.none], .tuple [.str sLetter, .str ⟨#[48]⟩], .int 0]
theorem bad_each (n : Nat) : ∀ p ∈ badL n, nd p = true ∧ (Bad n 0 p ∨ Bad n 1 p) := by
  intro p hp
  have b1 : between (.int n) 0 (n - 1) = false := by simp [between]; omega
  have b2 : between (.int (-1)) 0 (n - 1) = false := by simp [between]
  have l1 : innerW n sLetter [.int n] = none := by show (if between (.int n) 0 (n - 1) then some [] else none) = _; rw [b1]; rfl
  simp only [badL, List.mem_cons, List.not_mem_nil, or_false] at hp
  rcases hp with h | h | h | h | h | h | h | h | h | h | h | h | h | h | h | h | h | h <;> subst h
  · exact ⟨rfl, Or.inl rfl⟩
  · exact ⟨rfl, Or.inl l1⟩
  · refine ⟨rfl, Or.inl ?_⟩; show (if between (.int (-1)) 0 (n - 1) then some [] else none) = _; rw [b2]; rfl
  · exact ⟨rfl, Or.inl rfl⟩
  · exact ⟨rfl, Or.inl rfl⟩
  · exact ⟨rfl, Or.inl rfl⟩
  · exact ⟨rfl, Or.inl rfl⟩
  · exact ⟨rfl, Or.inl rfl⟩
  · exact ⟨rfl, Or.inl rfl⟩
  · exact ⟨rfl, Or.inl rfl⟩
  · exact ⟨rfl, Or.inl rfl⟩
  · exact ⟨rfl, Or.inl rfl⟩
  · exact ⟨rfl, Or.inr ⟨_, rfl, .none, by simp, rfl⟩⟩
  · exact ⟨rfl, Or.inl rfl⟩
  · exact ⟨rfl, Or.inr ⟨_, rfl, .tuple [.str sLetter, .int n], by simp, l1⟩⟩
  · exact ⟨rfl, Or.inl rfl⟩
  · exact ⟨rfl, Or.inl rfl⟩
  · exact ⟨rfl, Or.inl rfl⟩
theorem say_bent {n : Nat} {p q : P} {f : Fm} (hp : p ∈ badL n) (hq : q ∈ [p, .tuple [.str sAnd, f.p, p], .tuple [.str sNot, p]]) : nd q = true ∧ isSay n q = false := by
  have hb := bad_each n p hp
  simp only [List.mem_cons, List.not_mem_nil, or_false] at hq
  rcases hq with h | h | h <;> subst h
  · refine ⟨hb.1, ?_⟩
    rcases hb.2 with h | h
    · exact say_bad (k := 0) (by decide) h
    · exact say_bad (k := 1) (by decide) h
  · refine ⟨by simp [nd, nds, f.nd, hb.1], ?_⟩
    rcases hb.2 with h | h
    · exact say_bad (k := 1) (by decide) ⟨_, rfl, p, by simp, h⟩
    · exact say_bad (k := 2) (by decide) ⟨_, rfl, p, by simp, h⟩
  · refine ⟨by simp [nd, nds, hb.1], ?_⟩
    rcases hb.2 with h | h
    · exact say_bad (k := 1) (by decide) ⟨_, rfl, p, by simp, h⟩
    · exact say_bad (k := 2) (by decide) ⟨_, rfl, p, by simp, h⟩
/-! refusals -/
theorem cfsub (d : Nat) : (cf d).sub = sb := rfl

theorem all_flat (xs : List Nat) : (intL xs).all flat = true := by
  simp [intL]
theorem any_int (xs : List Nat) (w : Nat) : ((intL xs).any fun y => PyData.eqv y (.int (w : Nat))) = decide (w ∈ xs) := by
  induction xs with
  | nil => rfl
  | cons x r ih =>
    show (decide ((x : Int) = (w : Int)) || (intL r).any fun y => PyData.eqv y (.int (w : Nat))) = _
    rw [ih]
    by_cases h : w = x
    · simp [h]
    · have : ¬ (x : Int) = (w : Int) := by omega
      simp [h, this]
theorem inP_int (xs : List Nat) (w : Nat) : inP (.int (w : Nat)) (.tuple (intL xs)) = some (decide (w ∈ xs)) := by
  show (if (true && (intL xs).all flat) = true then some ((intL xs).any fun y => PyData.eqv y (.int (w : Nat))) else none) = _
  rw [all_flat, any_int]
  rfl
theorem in_lot {n w : Nat} (f : Fm) (hw : w < 2 ^ n) : decide (w ∈ lotL n f) = f.tv w := by
  unfold lotL
  cases hb : f.tv w with
  | true => simp [hw, hb]
  | false => simp [hb]
def unl (n : Nat) (f g : Fm) : List Nat := (List.range (2 ^ n)).filter fun w => !(f.tv w == g.tv w)
theorem part_unl (f g : Fm) (l : List Nat) : partL f g l = match l.filter (fun w => !(f.tv w == g.tv w)) with
  | [] => .none
  | w :: _ => .int (w : Int) := by
  induction l with
  | nil => rfl
  | cons w r ih =>
    rw [partL, List.filter_cons]
    by_cases h : f.tv w = g.tv w
    · rw [if_pos h, ih]
      simp [h]
    · rw [if_neg h]
      simp [h]
theorem same_unl (n : Nat) (f g : Fm) : decide (lotL n f = lotL n g) = (unl n f g).isEmpty := by
  have key : lotL n f = lotL n g ↔ unl n f g = [] := by
    unfold lotL unl
    constructor
    · intro h
      rw [List.filter_eq_nil_iff]
      intro w hw
      have : w ∈ (List.range (2 ^ n)).filter (fun w => f.tv w) ↔ w ∈ (List.range (2 ^ n)).filter (fun w => g.tv w) := by rw [h]
      rw [List.mem_filter, List.mem_filter] at this
      have hw' := List.mem_range.mp hw
      cases h1 : f.tv w <;> cases h2 : g.tv w <;> simp [h1, h2, hw'] at this ⊢
    · intro h
      rw [List.filter_eq_nil_iff] at h
      apply List.filter_congr
      intro w hw
      have := h w hw
      simpa using this
  by_cases h : unl n f g = []
  · rw [decide_eq_true (key.mpr h), h]
    rfl
  · rw [decide_eq_false (fun e => h (key.mp e))]
    cases hu : unl n f g with
    | nil => exact absurd hu h
    | cons a r => rfl
end Lw
set_option Elab.async false
set_option linter.all false
set_option maxRecDepth 100000
set_option autoImplicit false
namespace Lw
open PySem Mi
theorem pcE {d f : Nat} {fn : Fn} {ws : List W} {ps : List P} {p : P} {T : Sto} (h : fns[f]? = some fn) (hp : asPs ws = some ps) (e : runFn (cf d) fn ws [] = .ok (.pv p) T) : ∀ S, pcallW (cf (d + 1)) f ws S = .ok (.pv p) S := fun S => (pc h hp e).trans rfl
theorem rngL_succ (i : Int) (k : Nat) : rngL i (k + 1) = .int i :: rngL (i + 1) k := rfl
theorem choose_loop (d m : Nat) (x1 : Option W) : ∀ (k i : Nat) (y3 : Option W), i + k ≤ m → m < 100 → ∃ z3, forGo (turnOf (cf d) (.nm 3) b_choose_1) (rngL i k) [some (.pv (.int m)), x1, some (.pv (.int (chF m i : Nat))), y3] [] = .nx [some (.pv (.int m)), x1, some (.pv (.int (chF m (i + k) : Nat))), z3] [] := by
  intro k
  induction k with
  | zero => intro i y3 _ _; exact ⟨y3, rfl⟩
  | succ k ih =>
    intro i y3 h hm
    have ne : 0 < (i : Int) + 1 ∧ (i : Int) + 1 < 1073741824 := by omega
    have sm : small ((m : Int) - (i : Int)) = true := small_of (by omega) (by omega)
    have v : (chF m i : Int) * ((m : Int) - (i : Int)) / ((i : Int) + 1) = ((chF m (i + 1) : Nat) : Int) := by
      show _ = ((chF m i * (m - i) / (i + 1) : Nat) : Int)
      rw [show ((m : Int) - (i : Int)) = ((m - i : Nat) : Int) by omega]
      push_cast
      rfl
    have t : turnOf (cf d) (.nm 3) b_choose_1 (.int (i : Nat)) [some (.pv (.int m)), x1, some (.pv (.int (chF m i : Nat))), y3] [] = .nx [some (.pv (.int m)), x1, some (.pv (.int (chF m (i + 1) : Nat))), some (.pv (.int (i : Nat)))] [] := by
      simp -implicitDefEqProofs [b_choose_1, ne, v, sm]
    obtain ⟨z3, e⟩ := ih (i + 1) (some (.pv (.int (i : Nat)))) (by omega) hm
    refine ⟨z3, ?_⟩
    rw [rngL_succ, forGo_nx t, show ((i : Int) + 1) = ((i + 1 : Nat) : Int) by omega, e, show i + 1 + k = i + (k + 1) by omega]
theorem k_choose (d m s : Nat) (h : s ≤ m) (S : Sto) (hm : m < 100) : pcallW (cf (d + 1)) 22 [.pv (.int m), .pv (.int s)] S = .ok (.pv (.int (chF m s : Nat))) S := by
  obtain ⟨z3, e⟩ := choose_loop d m (some (.pv (.int s))) s 0 none (by omega) hm
  rw [Nat.zero_add] at e
  refine pcE (ps := [.int m, .int s]) rfl rfl (T := []) ?_ S
  rw [runFn_eq rfl]
  have e : forGo (turnOf (cf d) (.nm 3) b_choose_1) (rngL 0 s) [some (.pv (.int m)), some (.pv (.int s)), some (.pv (.int 1)), none] [] = _ := e
  simp -implicitDefEqProofs [f_choose, i_choose, startL, items_rng1 s (by omega), e]
end Lw
set_option Elab.async false
set_option linter.all false
set_option maxRecDepth 100000
set_option autoImplicit false
namespace Lw
open PySem Mi
theorem ex_augK (c : Cf) (i : Nat) (o : Operator) (e : E) (l : Mi.L) (S : Sto) : ex c (.aug i o e) l S = thenK (look l[i]? S) l fun x S => thenK (ev c e l S) l fun y S => thenK (pure2 (augop o) x y S) l fun z S => .nx (l.set i (some z)) S := by
  show (match l[i]? with
    | some (some x) => SR.thenR (ev c e l S) l fun y S => SR.thenR (pure2 (augop o) x y S) l fun z S => .nx (l.set i (some z)) S
    | _ => .stuck) = _
  cases l[i]? with
  | none => rfl
  | some o => cases o <;> rfl
theorem aug_add (i j : Int) : augop .Add (.int i) (.int j) = some (.int (i + j)) := rfl
theorem onto_in (d l r kk o : Nat) (x3 : Option W) (hr : o ≤ r) (h8 : r < 100) : ∀ (k : Nat) (i : Int) (q : Int) (y6 : Option W), ∃ z6, forGo (turnOf (cf d) (.nm 6) b_onto_1) (rngL i k) [some (.pv (.int l)), some (.pv (.int r)), some (.pv (.int kk)), x3, some (.pv (.int (o : Nat))), some (.pv (.int q)), y6] [] = .nx [some (.pv (.int l)), some (.pv (.int r)), some (.pv (.int kk)), x3, some (.pv (.int (o : Nat))), some (.pv (.int (q * ((r - o : Nat) : Int) ^ k))), z6] [] := by
  intro k
  induction k with
  | zero => intro i q y6; exact ⟨y6, by simp [rngL]⟩
  | succ k ih =>
    intro i q y6
    have sm : small ((r : Int) - (o : Int)) = true := small_of (by omega) (by omega)
    have t : turnOf (cf d) (.nm 6) b_onto_1 (.int i) [some (.pv (.int l)), some (.pv (.int r)), some (.pv (.int kk)), x3, some (.pv (.int (o : Nat))), some (.pv (.int q)), y6] [] = .nx [some (.pv (.int l)), some (.pv (.int r)), some (.pv (.int kk)), x3, some (.pv (.int (o : Nat))), some (.pv (.int (q * ((r : Int) - (o : Int))))), some (.pv (.int i))] [] := by
      simp -implicitDefEqProofs [b_onto_1, sm]
    obtain ⟨z6, e⟩ := ih (i + 1) (q * ((r : Int) - (o : Int))) (some (.pv (.int i)))
    refine ⟨z6, ?_⟩
    rw [rngL_succ, forGo_nx t, e, show ((r : Int) - (o : Int)) = ((r - o : Nat) : Int) by omega, Int.pow_succ, Int.mul_assoc, Int.mul_comm (((r - o : Nat) : Int) ^ k)]
def ontoT (l r k o : Nat) : Int := ((chF k o * (r - o) ^ l : Nat) : Int) * (if o % 2 = 0 then 1 else -1)
theorem ch_small : ∀ k, k < 10 → ∀ o, o < 11 → chF k o < 4294967296 := by decide +kernel
theorem onto_out (d l r kk : Nat) (hl : l < 100) (hk : kk ≤ r) (h8 : r < 10) : ∀ (k o : Nat) (q : Int) (y4 y5 y6 : Option W), o + k ≤ kk + 1 → ∃ z4 z5 z6, forGo (turnOf (cf (d + 1)) (.nm 4) b_onto_2) (rngL o k) [some (.pv (.int l)), some (.pv (.int r)), some (.pv (.int kk)), some (.pv (.int q)), y4, y5, y6] [] = .nx [some (.pv (.int l)), some (.pv (.int r)), some (.pv (.int kk)), some (.pv (.int (q + sumI ((List.range' o k).map (ontoT l r kk))))), z4, z5, z6] [] := by
  intro k
  induction k with
  | zero => intro o q y4 y5 y6 _; exact ⟨y4, y5, y6, by simp [rngL, sumI]⟩
  | succ k ih =>
    intro o q y4 y5 y6 h
    obtain ⟨z, e⟩ := onto_in (d + 1) l r kk o (some (.pv (.int q))) (by omega) (by omega) l 0 1 y6
    rw [Int.one_mul] at e
    have sm : small (chF kk o : Int) = true := small_of (by omega) (by have := ch_small kk (by omega) o (by omega); omega)
    have s1 : small 1 = true := rfl
    have s2 : small (-1) = true := rfl
    have md : ((o : Int) % 2 = 0) ↔ o % 2 = 0 := by omega
    have t : turnOf (cf (d + 1)) (.nm 4) b_onto_2 (.int (o : Nat)) [some (.pv (.int l)), some (.pv (.int r)), some (.pv (.int kk)), some (.pv (.int q)), y4, y5, y6] [] = .nx [some (.pv (.int l)), some (.pv (.int r)), some (.pv (.int kk)), some (.pv (.int (q + ontoT l r kk o))), some (.pv (.int (o : Nat))), some (.pv (.int (((r - o : Nat) : Int) ^ l))), z] [] := by
      by_cases ev : o % 2 = 0
      · have ev2 := md.mpr ev
        simp -implicitDefEqProofs [b_onto_2, ex_augK, aug_add, items_rng1 l (by omega), e, k_choose d kk o (by omega) _ (by omega), sm, s1, ev2, ontoT, ev]
      · have ev2 : ¬ ((o : Int) % 2 = 0) := fun x => ev (md.mp x)
        simp -implicitDefEqProofs [b_onto_2, ex_augK, aug_add, items_rng1 l (by omega), e, k_choose d kk o (by omega) _ (by omega), sm, s2, ev2, ontoT, ev]
    obtain ⟨z4, z5, z6, e2⟩ := ih (o + 1) (q + ontoT l r kk o) _ _ _ (by omega)
    refine ⟨z4, z5, z6, ?_⟩
    rw [rngL_succ, forGo_nx t, show ((o : Int) + 1) = ((o + 1 : Nat) : Int) by omega, e2, List.range'_succ, List.map_cons]
    show _ = SR.nx [_, _, _, some (.pv (.int (q + (ontoT l r kk o + sumI _)))), _, _, _] []
    rw [Int.add_assoc]
theorem k_onto (d l r kk : Nat) (hl : l < 100) (hk : kk ≤ r) (h8 : r < 10) (S : Sto) : pcallW (cf (d + 2)) 26 [.pv (.int l), .pv (.int r), .pv (.int kk)] S = .ok (.pv (.int (ontoF l r kk))) S := by
  obtain ⟨z4, z5, z6, e⟩ := onto_out d l r kk hl hk h8 (kk + 1) 0 0 none none none (by omega)
  refine pcE (ps := [.int l, .int r, .int kk]) rfl rfl (T := []) ?_ S
  rw [runFn_eq rfl]
  have f : sumI ((List.range' 0 (kk + 1)).map (ontoT l r kk)) = ontoF l r kk := by
    unfold ontoF
    rw [List.range_eq_range']
    rfl
  rw [f, Int.zero_add] at e
  have it : items .rng1 [.pv (.int ((kk : Int) + 1))] = some (rngL 0 (kk + 1)) := items_rng1 (kk + 1) (by omega)
  have e : forGo (turnOf (cf (d + 1)) (.nm 4) b_onto_2) (rngL 0 (kk + 1)) [some (.pv (.int l)), some (.pv (.int r)), some (.pv (.int kk)), some (.pv (.int 0)), none, none, none] [] = _ := e
  simp -implicitDefEqProofs [f_onto, i_onto, startL, it, e]
end Lw
set_option Elab.async false
set_option linter.all false
set_option maxRecDepth 100000
set_option autoImplicit false
namespace Lw
open PySem Mi
theorem items_rng2 (i j : Int) (h : -(2 ^ 62) ≤ i ∧ i < 2 ^ 62 ∧ -(2 ^ 62) ≤ j ∧ j < 2 ^ 62 ∧ j - i ≤ maxLen) : items .rng2 [.pv (.int i), .pv (.int j)] = some (rngL i (j - i).toNat) := if_pos h
theorem inP_intL (xs : List Nat) (w : Nat) : inP (.int (w : Nat)) (.list (intL xs)) = some (decide (w ∈ xs)) := by
  show (if (flat (.int w) && (intL xs).all flat) || _ then _ else _) = _
  rw [all_flat, any_int]
  rfl
theorem ints_int (xs : List Nat) : intsOf (intL xs) = some (castL xs) := by
  induction xs with
  | nil => rfl
  | cons x r ih =>
    show (intsOf (intL r)).map _ = _
    rw [ih]
    rfl
theorem maxL_mx (r : List Nat) : ∀ x : Nat, maxL (x : Int) (castL r) = (max x (mxF r) : Nat) := by
  induction r with
  | nil => intro x; show (x : Int) = _; simp [mxF]
  | cons y r ih =>
    intro x
    show maxL (if (x : Int) < (y : Int) then (y : Int) else (x : Int)) (castL r) = _
    by_cases h : x < y
    · rw [if_pos (by omega), ih]; show ((max y (mxF r) : Nat) : Int) = ((max x (max y (mxF r)) : Nat) : Int); omega
    · rw [if_neg (by omega), ih]; show ((max x (mxF r) : Nat) : Int) = ((max x (max y (mxF r)) : Nat) : Int); omega
theorem max0 (b : List Nat) : biP .max [.list (intL b ++ [.int 0])] = some (.int (mxF b : Nat)) := by
  rw [show intL b ++ [.int 0] = intL (b ++ [0]) by simp [intL]]
  show (intsOf (intL (b ++ [0]))).bind _ = _
  rw [ints_int]
  cases b with
  | nil => rfl
  | cons x r =>
    show some (PyData.int (maxL (x : Int) (castL (r ++ [0])))) = _
    rw [maxL_mx, mx_app]
    show some (PyData.int ((max x (max (mxF r) 0) : Nat) : Int)) = some (PyData.int ((max x (mxF r) : Nat) : Int))
    congr 3
    omega
theorem mw_loop (d m : Nat) (b : List Nat) (hm : m < 10) (hb : b.length ≤ m) (x5 : Option W) : ∀ (k g : Nat) (q : Int) (y3 y4 : Option W), g + k ≤ m → ∃ z3 z4, forGo (turnOf (cf (d + 2)) (.nm 3) b_many_with_3) (rngL g k) [some (.pv (.list (intL b))), some (.pv (.int m)), some (.pv (.int q)), y3, y4, x5] [] = .nx [some (.pv (.list (intL b))), some (.pv (.int m)), some (.pv (.int (q + sumI ((List.range' g k).map fun g => ontoF (m - b.length) (g + 1) (lackF b g))))), z3, z4, x5] [] := by
  intro k
  induction k with
  | zero => intro g q y3 y4 _; exact ⟨y3, y4, by simp [rngL, sumI]⟩
  | succ k ih =>
    intro g q y3 y4 h
    have gl := lcGo_map (turn := lcT (cf (d + 2)) (.nm 5) q_many_with_1 e_many_with_2 [5] [some (.pv (.list (intL b))), some (.pv (.int m)), some (.pv (.int q)), some (.pv (.int (g : Nat))), y4, x5]) (S := []) (fun j : Nat => PyData.int (j : Int)) (fun r => !decide (r ∈ b)) (fun j : Nat => PyData.int (j : Int)) (List.range (g + 1)) (by
      intro a _
      by_cases hx : a ∈ b <;> simp [q_many_with_1, e_many_with_2, wipe, inP_intL, hx])
    rw [← rngL0] at gl
    have it : items .rng1 [.pv (.int ((g : Int) + 1))] = some (rngL 0 (g + 1)) := items_rng1 (g + 1) (by omega)
    have ln : (((List.range (g + 1)).filter fun r => !decide (r ∈ b)).map fun j : Nat => PyData.int (j : Int)).length = lackF b g := by rw [List.length_map]; rfl
    have ko := fun S => k_onto d (m - b.length) (g + 1) (lackF b g) (by omega) (lack_le b g) (by omega) S
    have e1 : ((m - b.length : Nat) : Int) = (m : Int) - (b.length : Nat) := by omega
    have e2 : ((g + 1 : Nat) : Int) = (g : Int) + 1 := by omega
    rw [e1, e2] at ko
    have bl : (intL b).length = b.length := by simp [intL]
    have t : turnOf (cf (d + 2)) (.nm 3) b_many_with_3 (.int (g : Nat)) [some (.pv (.list (intL b))), some (.pv (.int m)), some (.pv (.int q)), y3, y4, x5] [] = .nx [some (.pv (.list (intL b))), some (.pv (.int m)), some (.pv (.int (q + ontoF (m - b.length) (g + 1) (lackF b g)))), some (.pv (.int (g : Nat))), some (.pv (.int (lackF b g : Nat))), x5] [] := by
      generalize hL : (((List.range (g + 1)).filter fun r => !decide (r ∈ b)).map fun j : Nat => PyData.int (j : Int)) = L at gl ln
      simp -implicitDefEqProofs [b_many_with_3, ex_augK, aug_add, it, gl, ln, bl, ko]
    obtain ⟨z3, z4, e⟩ := ih (g + 1) _ (some (.pv (.int (g : Nat)))) (some (.pv (.int (lackF b g : Nat)))) (by omega)
    refine ⟨z3, z4, ?_⟩
    rw [rngL_succ, forGo_nx t, show ((g : Int) + 1) = ((g + 1 : Nat) : Int) by omega, e, List.range'_succ, List.map_cons]
    show _ = SR.nx [_, _, some (.pv (.int (q + (ontoF (m - b.length) (g + 1) (lackF b g) + sumI _)))), _, _, _] []
    rw [Int.add_assoc]
theorem k_many_with (d m : Nat) (b : List Nat) (hm : m < 10) (hb : b.length ≤ m) (hx : mxF b < 1000) (S : Sto) : pcallW (cf (d + 3)) 25 [.pv (.list (intL b)), .pv (.int m)] S = .ok (.pv (.int (mwF m b))) S := by
  refine pcE (ps := [.list (intL b), .int m]) rfl rfl (T := []) ?_ S
  rw [runFn_eq rfl]
  have it : items .rng2 [.pv (.int (mxF b : Nat)), .pv (.int (m : Nat))] = some (rngL (mxF b : Nat) (m - mxF b)) := by
    rw [items_rng2 _ _ ⟨by omega, by omega, by omega, by omega, by show _ ≤ ((16777216 : Nat) : Int); omega⟩]
    congr 2
    omega
  have bl : (intL b).length + 1 ≤ maxLen := by simp [intL]; show _ ≤ 16777216; omega
  have lp : ∃ z3 z4, forGo (turnOf (cf (d + 2)) (.nm 3) b_many_with_3) (rngL (mxF b : Nat) (m - mxF b)) [some (.pv (.list (intL b))), some (.pv (.int m)), some (.pv (.int 0)), none, none, none] [] = .nx [some (.pv (.list (intL b))), some (.pv (.int m)), some (.pv (.int (mwF m b))), z3, z4, none] [] := by
    by_cases c : mxF b ≤ m
    · obtain ⟨z3, z4, e⟩ := mw_loop d m b hm hb none (m - mxF b) (mxF b) 0 none none (by omega)
      exact ⟨z3, z4, by rw [e, Int.zero_add]; rfl⟩
    · refine ⟨none, none, ?_⟩
      have : m - mxF b = 0 := by omega
      unfold mwF
      rw [this]
      rfl
  obtain ⟨z3, z4, e⟩ := lp
  simp -implicitDefEqProofs [f_many_with, i_many_with, startL, bl, max0, it, e]
end Lw
set_option Elab.async false
set_option linter.all false
set_option maxRecDepth 100000
set_option autoImplicit false
namespace Lw
open PySem Mi
def okM (m : Nat) : Prop := 1 ≤ m ∧ m ≤ 8
theorem okM_b {m : Nat} (h : okM m) : between (.int m) 1 8 = true := by
  unfold between
  simp
  exact ⟨by have := h.1; omega, by have := h.2; omega⟩
theorem k_need_count (d m : Nat) (S : Sto) (h : okM m) : pcallW (cf (d + 3)) 2 [.pv (.int m)] S = .ok (.pv .none) S := by
  refine pcE (ps := [.int m]) rfl rfl (T := []) ?_ S
  rw [runFn_eq rfl]
  simp -implicitDefEqProofs [f_need_count, i_need_count, startL, k_is_between d (.int m) 1 8 _ rfl, okM_b h]
def uptoL (m : Nat) : List Nat := fub.take (m + 1)
theorem upto_all (d m : Nat) (h : okM m) : runFn (cf (d + 1)) f_orders_upto [.pv (.int m)] [] = .ok (.pv (.list (intL (uptoL m)))) [.dead] := by
  obtain ⟨h1, h2⟩ := h
  match m, h1, h2 with
  | 1, _, _ => kernel_rfl
  | 2, _, _ => kernel_rfl
  | 3, _, _ => kernel_rfl
  | 4, _, _ => kernel_rfl
  | 5, _, _ => kernel_rfl
  | 6, _, _ => kernel_rfl
  | 7, _, _ => kernel_rfl
  | 8, _, _ => kernel_rfl
theorem k_upto (d m : Nat) (S : Sto) (h : okM m) : pcallW (cf (d + 2)) 23 [.pv (.int m)] S = .ok (.pv (.list (intL (uptoL m)))) S :=
  pcE (ps := [.int m]) rfl rfl (upto_all d m h) S
def fubN (m : Nat) : Nat := fub.getD m 0
theorem upto_ix : ∀ m, m < 9 → idxL (intL (uptoL m)) (m : Int) = some (.int (fubN m : Nat)) := by
  intro m h
  match m, h with
  | 0, _ => kernel_rfl
  | 1, _ => kernel_rfl
  | 2, _ => kernel_rfl
  | 3, _ => kernel_rfl
  | 4, _ => kernel_rfl
  | 5, _ => kernel_rfl
  | 6, _ => kernel_rfl
  | 7, _ => kernel_rfl
  | 8, _ => kernel_rfl
theorem k_many_orders (d m : Nat) (S : Sto) (h : okM m) : pcallW (cf (d + 4)) 24 [.pv (.int m)] S = .ok (.pv (.int (fubN m : Nat))) S := by
  refine pcE (ps := [.int m]) rfl rfl (T := []) ?_ S
  rw [runFn_eq rfl]
  have u := upto_ix m (by have := h.2; omega)
  simp -implicitDefEqProofs [f_many_orders, i_many_orders, startL, k_need_count d m _ h, k_upto (d + 1) m _ h, u]
/-! order_at -/
def iw (b : List Nat) : List W := (intL b).map .pv
theorem cat0 (b : List Nat) (x : Nat) (h : b.length < 1000) : catW (.rf 0) (.pv (.list [.int (x : Nat)])) [.lst (iw b)] = .ok (.pv (.list (intL (b ++ [x])))) [.lst (iw b)] := by
  show (match asPs (iw b) with | some ps => if ps.length + 1 ≤ maxLen then R.ok (W.pv (PyData.list (ps ++ [PyData.int (x : Nat)]))) [O.lst (iw b)] else .stuck | none => .stuck) = _
  unfold iw
  rw [asPs_pvs]
  show (if (intL b).length + 1 ≤ maxLen then _ else _) = _
  rw [if_pos (by simp [intL]; show _ ≤ 16777216; omega)]
  simp [intL]
theorem mx_lt {m : Nat} {b : List Nat} (hm : m < 10) (hb : ∀ x ∈ b, x < m) : mxF b < 1000 := by
  rcases mx_mem b with h | h
  · omega
  · have := hb _ h; omega
section
variable {m : Nat}
theorem ev_with (d : Nat) (b : List Nat) (x : Nat) (N : Int) (hm : m < 10) (hl : b.length < m) (hb : ∀ x ∈ b, x < m) (hx : x < m) :
    ev (cf (d + 3)) (.pcall 25 (.cons (.catm (.var 2) (.lstv (.cons (.var 3) .nil))) (.cons (.var 0) .nil))) [some (.pv (.int m)), some (.pv (.int N)), some (.rf 0), some (.pv (.int (x : Nat)))] [.lst (iw b)] = .ok (.pv (.int (mwF m (b ++ [x])))) [.lst (iw b)] := by
  have k := k_many_with d m (b ++ [x]) hm (by simp; omega) (mx_lt hm (app_lt hb hx)) [.lst (iw b)]
  simp -implicitDefEqProofs [cat0 b x (by omega), k]
theorem at_in (d : Nat) (b : List Nat) (N : Int) (r : Nat) (h8 : m ≤ 8) (hl : b.length < m) (hb : ∀ x ∈ b, x < m) (hr : r < m) (h1 : below m b r ≤ N) (h2 : N < below m b (r + 1)) :
    ∀ (k x n : Nat), x + k = r → k < n → whileGo (te (cf (d + 3)) w_order_at_2) (exs (cf (d + 3)) b_order_at_3) n [some (.pv (.int m)), some (.pv (.int (N - below m b x))), some (.rf 0), some (.pv (.int (x : Nat)))] [.lst (iw b)] = .nx [some (.pv (.int m)), some (.pv (.int (N - below m b r))), some (.rf 0), some (.pv (.int (r : Nat)))] [.lst (iw b)] := by
  intro k
  induction k with
  | zero =>
    intro x n hx hn
    have : x = r := by omega
    subst this
    obtain ⟨n, rfl⟩ : ∃ j, n = j + 1 := ⟨n - 1, by omega⟩
    have e := ev_with d b x (N - below m b x) (by omega) hl hb hr
    have bs := below_succ m b x
    have q : ¬ mwF m (b ++ [x]) ≤ N - below m b x := by omega
    refine whileGo_end ?_
    simp -implicitDefEqProofs [w_order_at_2, -ev_pcall, e, q]
  | succ k ih =>
    intro x n hx hn
    obtain ⟨n, rfl⟩ : ∃ j, n = j + 1 := ⟨n - 1, by omega⟩
    have e := ev_with d b x (N - below m b x) (by omega) hl hb (by omega)
    have bs := below_succ m b x
    have bm := below_mono h8 hl hb (r := x + 1) (s := r) (by omega) (by omega)
    have q : mwF m (b ++ [x]) ≤ N - below m b x := by omega
    have c1 : te (cf (d + 3)) w_order_at_2 [some (.pv (.int m)), some (.pv (.int (N - below m b x))), some (.rf 0), some (.pv (.int (x : Nat)))] [.lst (iw b)] = .ok true [.lst (iw b)] := by
      simp -implicitDefEqProofs [w_order_at_2, -ev_pcall, e, q]
    have c2 : exs (cf (d + 3)) b_order_at_3 [some (.pv (.int m)), some (.pv (.int (N - below m b x))), some (.rf 0), some (.pv (.int (x : Nat)))] [.lst (iw b)] = .nx [some (.pv (.int m)), some (.pv (.int (N - below m b (x + 1)))), some (.rf 0), some (.pv (.int ((x + 1 : Nat) : Int)))] [.lst (iw b)] := by
      have v : N - below m b x - mwF m (b ++ [x]) = N - below m b (x + 1) := by omega
      have as : ∀ i j : Int, augop .Sub (.int i) (.int j) = some (.int (i - j)) := fun _ _ => rfl
      simp -implicitDefEqProofs [b_order_at_3, -ev_pcall, ex_augK, aug_add, as, e, v]
    rw [whileGo_nx c1 c2]
    exact ih (x + 1) n (by omega) (by omega)
theorem at_out (d : Nat) (h8 : m ≤ 8) {b row : List Nat} {N : Int} (t : Row m b N row) : ∀ (y3 : Option W) (n : Nat), (∀ x ∈ b, x < m) → m - b.length < n → ∃ z3, whileGo (te (cf (d + 3)) w_order_at_1) (exs (cf (d + 3)) b_order_at_4) n [some (.pv (.int m)), some (.pv (.int N)), some (.rf 0), y3] [.lst (iw b)] = .nx [some (.pv (.int m)), some (.pv (.int 0)), some (.rf 0), z3] [.lst (iw row)] := by
  have ln : ∀ b : List Nat, biW .len [.rf 0] [.lst (iw b)] = .ok (.pv (.int (b.length : Nat))) [.lst (iw b)] := fun b => by
    show R.ok (W.pv (.int ((iw b).length : Nat))) _ = _
    simp [iw, intL]
  induction t with
  | @full b h =>
    intro y3 n hb hn
    obtain ⟨n, rfl⟩ : ∃ j, n = j + 1 := ⟨n - 1, by omega⟩
    refine ⟨y3, whileGo_end ?_⟩
    have q : ¬ ((b.length : Nat) : Int) < (m : Int) := by omega
    simp -implicitDefEqProofs [w_order_at_1, ln, q]
  | @step b row N r h hr h1 h2 t ih =>
    intro y3 n hb hn
    obtain ⟨n, rfl⟩ : ∃ j, n = j + 1 := ⟨n - 1, by omega⟩
    have q : ((b.length : Nat) : Int) < (m : Int) := by omega
    have c1 : te (cf (d + 3)) w_order_at_1 [some (.pv (.int m)), some (.pv (.int N)), some (.rf 0), y3] [.lst (iw b)] = .ok true [.lst (iw b)] := by
      simp -implicitDefEqProofs [w_order_at_1, ln, q]
    have inn := at_in d b N r h8 h hb hr h1 h2 r 0 100000 (by omega) (by omega)
    rw [show below m b 0 = 0 from rfl, Int.sub_zero] at inn
    have inn : whileGo (te (cf (d + 3)) w_order_at_2) (exs (cf (d + 3)) b_order_at_3) (cf (d + 3)).fuel [some (.pv (.int m)), some (.pv (.int N)), some (.rf 0), some (.pv (.int 0))] [.lst (iw b)] = _ := inn
    have ap : appW (.rf 0) (.pv (.int (r : Nat))) [.lst (iw b)] = .ok (.pv .none) [.lst (iw (b ++ [r]))] := by
      show (if (iw b).length < maxLen then R.ok (W.pv PyData.none) _ else .stuck) = _
      rw [if_pos (by simp [iw, intL]; show _ < 16777216; omega)]
      simp [iw, intL]
    have c2 : exs (cf (d + 3)) b_order_at_4 [some (.pv (.int m)), some (.pv (.int N)), some (.rf 0), y3] [.lst (iw b)] = .nx [some (.pv (.int m)), some (.pv (.int (N - below m b r))), some (.rf 0), some (.pv (.int (r : Nat)))] [.lst (iw (b ++ [r]))] := by
      have il : isLst (.rf 0) [.lst (iw b)] = true := rfl
      simp -implicitDefEqProofs [b_order_at_4, inn, ap, il]
    obtain ⟨z3, e⟩ := ih (some (.pv (.int (r : Nat)))) n (app_lt hb hr) (by simp; omega)
    exact ⟨z3, (whileGo_nx c1 c2).trans e⟩
end
theorem k_order_at (d m n : Nat) (row : List Nat) (S : Sto) (h : okM m) (hn : n < fubN m) (t : Row m [] n row) : pcallW (cf (d + 4)) 27 [.pv (.int m), .pv (.int (n : Nat))] S = .ok (.pv (.tuple (intL row))) S := by
  obtain ⟨z3, e⟩ := at_out d h.2 t none 100000 (fun x hx => by cases hx) (by have := h.2; simp; omega)
  have e : whileGo (te (cf (d + 3)) w_order_at_1) (exs (cf (d + 3)) b_order_at_4) (cf (d + 3)).fuel [some (.pv (.int m)), some (.pv (.int n)), some (.rf 0), none] [.lst []] = _ := e
  refine pcE (ps := [.int m, .int n]) rfl rfl (T := [.lst (iw row)]) ?_ S
  rw [runFn_eq rfl]
  have u := upto_ix m (by have := h.2; omega)
  have bt : between (.int (n : Nat)) 0 ((fubN m : Nat) - 1) = true := by
    unfold between
    simp
    omega
  have tp : biW .tuple [.rf 0] [.lst (iw row)] = .ok (.pv (.tuple (intL row))) [.lst (iw row)] := by
    show (match asPs (iw row) with | some xs => R.ok (W.pv (.tuple xs)) _ | none => .stuck) = _
    unfold iw
    rw [asPs_pvs]
  simp -implicitDefEqProofs [f_order_at, i_order_at, startL, k_need_count d m _ h, k_upto (d + 1) m _ h, u, k_is_between (d + 1) (.int n) 0 _ _ rfl, bt, e, tp]
end Lw
set_option Elab.async false
set_option linter.all false
set_option maxRecDepth 100000
set_option autoImplicit false
namespace Lw
open PySem Mi
/-! dense_of of a dense row -/
def kvT (K : List Nat) : List (P × P) := K.map fun k : Nat => (.int (k : Int), .bool true)
theorem kvT_any (K : List Nat) (k : Nat) : ((kvT K).any fun kv => decide (keyP kv.1 = some (.inl (k : Int)))) = decide (k ∈ K) := by
  induction K with
  | nil => rfl
  | cons x r ih =>
    unfold kvT at ih ⊢
    rw [List.map_cons, List.any_cons, ih]
    have : (keyP (PyData.int (x : Int)) = some (.inl (k : Int))) ↔ x = k := by
      show (some (Sum.inl (x : Int)) = some (Sum.inl (k : Int))) ↔ _
      simp
      omega
    by_cases h : x = k
    · subst h; simp [this]
    · have h2 : ¬ k = x := fun e => h e.symm
      simp [this, h, h2]
theorem put_T (K : List Nat) (k : Nat) : putP (kvT K) (.inl (k : Int)) (.bool true) = kvT (addK K k) := by
  unfold putP
  rw [kvT_any]
  by_cases h : k ∈ K
  · rw [decide_eq_true h, if_pos rfl]
    unfold addK
    rw [if_pos h]
    unfold kvT
    rw [List.map_map]
    refine List.map_congr_left fun x _ => ?_
    show (if _ then _ else _) = _
    split <;> rfl
  · rw [decide_eq_false h, if_neg (by decide)]
    unfold addK
    rw [if_neg h]
    simp [kvT, kP]
def foldK (K : List Nat) (l : List Nat) : List Nat := l.foldl addK K
theorem fold_T (l : List Nat) : ∀ K, (l.map fun k : Nat => ((Sum.inl (k : Int) : Int ⊕ Str), PyData.bool true)).foldl (fun a kv => putP a kv.1 kv.2) (kvT K) = kvT (foldK K l) := by
  induction l with
  | nil => intro K; rfl
  | cons x r ih =>
    intro K
    show List.foldl _ (putP (kvT K) (.inl (x : Int)) (.bool true)) _ = _
    rw [put_T, ih]
    rfl
theorem foldK_mem (l : List Nat) : ∀ K x, x ∈ foldK K l ↔ x ∈ K ∨ x ∈ l := by
  induction l with
  | nil => intro K x; simp [foldK]
  | cons y r ih =>
    intro K x
    show x ∈ foldK (addK K y) r ↔ _
    rw [ih, addK_mem]
    simp [or_assoc]
theorem foldK_nodup (l : List Nat) : ∀ K, K.Nodup → (foldK K l).Nodup := by
  induction l with
  | nil => intro K h; exact h
  | cons y r ih => intro K h; exact ih _ (addK_nodup K y h)
theorem foldK_len (l : List Nat) : ∀ K, (foldK K l).length ≤ K.length + l.length := by
  induction l with
  | nil => intro K; exact Nat.le_refl _
  | cons y r ih =>
    intro K
    have := ih (addK K y)
    have := addK_len K y
    show (foldK (addK K y) r).length ≤ _
    simp
    omega
theorem keysT (K : List Nat) : keysP (kvT K) = some (castL K) := by
  induction K with
  | nil => rfl
  | cons x r ih =>
    show (keysP (kvT r)).map _ = _
    rw [ih]
    rfl
theorem castL_range_up (n : Nat) : (castL (List.range n)).Pairwise (· < ·) := by
  unfold castL
  rw [List.pairwise_map]
  exact List.pairwise_lt_range.imp fun h => by omega
theorem dns_mem {row : List Nat} (h : dnsB row = true) (h0 : row ≠ []) (x : Nat) : x ∈ row ↔ x < mxF row + 1 := by
  constructor
  · intro q; have := mx_ge q; omega
  · intro q
    unfold dnsB at h
    rw [List.all_eq_true] at h
    exact of_decide_eq_true (h x (List.mem_range.mpr q))
theorem srt_dns {row : List Nat} (h : dnsB row = true) (h0 : row ≠ []) : isort (castL (foldK [] row)) = castL (List.range (mxF row + 1)) := by
  refine up_ext _ _ (up_isort _ (castL_nodup (foldK_nodup row [] (by simp)))) (castL_range_up _) fun x => ?_
  rw [mem_isort, castL_mem, castL_mem]
  constructor
  · rintro ⟨k, h1, h2⟩
    rw [foldK_mem] at h1
    refine ⟨k, List.mem_range.mpr ((dns_mem h h0 k).mp ?_), h2⟩
    simpa using h1
  · rintro ⟨k, h1, h2⟩
    refine ⟨k, ?_, h2⟩
    rw [foldK_mem]
    exact .inr ((dns_mem h h0 k).mpr (List.mem_range.mp h1))
theorem castL_int (t : List Nat) : (castL t).map PyData.int = intL t := by
  unfold castL intL
  rw [List.map_map]
  rfl
theorem srtD_dns {row : List Nat} (h : dnsB row = true) (h0 : row ≠ []) (hl : row.length ≤ 9) (S : Sto) : srtD (.pv (.dict (kvT (foldK [] row)))) S = .ok (.pv (.list (intL (List.range (mxF row + 1))))) S := by
  show (match keysP (kvT (foldK [] row)) with
      | some ks => if ks.length < 64 then R.ok (W.pv (PyData.list ((isort ks).map PyData.int))) S else .stuck
      | none => .stuck) = _
  rw [keysT]
  have := foldK_len row []
  show (if (castL (foldK [] row)).length < 64 then _ else _) = _
  rw [if_pos (by simp [castL]; simp at this; omega), srt_dns h h0, castL_int]
theorem enum_int (n : Nat) : enumP 0 (intL (List.range n)) = (List.range n).map fun i : Nat => .tuple [.int (i : Nat), .int (i : Nat)] := by
  have g : ∀ k i : Nat, enumP (i : Int) (intL (List.range' i k)) = (List.range' i k).map fun i : Nat => .tuple [.int (i : Nat), .int (i : Nat)] := by
    intro k
    induction k with
    | zero => intro i; rfl
    | succ k ih =>
      intro i
      have e := ih (i + 1)
      rw [List.range'_succ, List.map_cons, ← e]
      rfl
  have := g n 0
  rwa [← List.range_eq_range'] at this
theorem get_fold (j : Nat) (l : List Nat) : ∀ acc : List (P × P), (j ∈ l ∨ dgetP acc (.inl (j : Int)) = some (.int (j : Int))) → dgetP ((l.map fun k : Nat => ((Sum.inl (k : Int) : Int ⊕ Str), PyData.int (k : Int))).foldl (fun a kv => putP a kv.1 kv.2) acc) (.inl (j : Int)) = some (.int (j : Int)) := by
  induction l with
  | nil => intro acc h; rcases h with h | h; cases h; exact h
  | cons x r ih =>
    intro acc h
    refine ih (putP acc (.inl (x : Int)) (.int (x : Int))) ?_
    rw [dget_put]
    by_cases e : x = j
    · subst e; exact .inr (if_pos rfl)
    · have ne : ¬ ((Sum.inl (x : Int) : Int ⊕ Str) = Sum.inl (j : Int)) := by simp; omega
      rw [if_neg ne]
      rcases h with h | h
      · rcases List.mem_cons.mp h with q | q
        · exact absurd q.symm e
        · exact .inl q
      · exact .inr h
theorem dcT_tup2 (c : Cf) (i j : Nat) (ifs : EL) (ke ve : E) (own : List Nat) (l : Mi.L) (p q : P) (S : Sto) : dcT c (.tup (.cons (.nm i) (.cons (.nm j) .nil))) ifs ke ve own l (.tuple [p, q]) S = (bindK (tes c ifs (((wipe l own).set i (some (.pv p))).set j (some (.pv q))) S) fun k S => if k then bindK (ev c ke (((wipe l own).set i (some (.pv p))).set j (some (.pv q))) S) fun y S => bindK (ev c ve (((wipe l own).set i (some (.pv p))).set j (some (.pv q))) S) fun z S => dcPair y z S else .ok none S).calm := rfl
theorem k_dense (d : Nat) (row : List Nat) (S : Sto) (h : dnsB row = true) (h0 : row ≠ []) (hl : row.length ≤ 9) (hb : ∀ x ∈ row, x < 9) : pcallW (cf (d + 1)) 9 [.pv (.tuple (intL row))] S = .ok (.pv (.tuple (intL row))) S := by
  refine pcE (ps := [.tuple (intL row)]) rfl rfl (T := []) ?_ S
  rw [runFn_eq rfl]
  have g1 := dcGo_map (turn := dcT (cf d) (.nm 3) .nil e_dense_of_2 v_dense_of_3 [3] [some (.pv (.tuple (intL row))), none, none, none]) (S := []) (fun k : Nat => PyData.int (k : Int)) (fun k : Nat => some ((Sum.inl (k : Int) : Int ⊕ Str), PyData.bool true)) row [] (by simp; show _ ≤ 16777216; omega) (by
    intro x _
    simp [e_dense_of_2, v_dense_of_3, wipe])
  rw [List.filterMap_eq_map', show ([] : List (P × P)) = kvT [] from rfl, fold_T row []] at g1
  have g1 : dcGo (dcT (cf d) (.nm 3) .nil e_dense_of_2 v_dense_of_3 [3] [some (.pv (.tuple (intL row))), none, none, none]) (intL row) [] [] = _ := g1
  have hm : mxF row < 1000 := mx_lt (by omega) hb
  have sd := srtD_dns h h0 hl ([] : Sto)
  have g2 := dcGo_map (turn := dcT (cf d) (.tup (.cons (.nm 2) (.cons (.nm 3) .nil))) .nil e_dense_of_4 v_dense_of_5 [2, 3] [some (.pv (.tuple (intL row))), none, none, none]) (S := []) (fun i : Nat => PyData.tuple [.int (i : Nat), .int (i : Nat)]) (fun k : Nat => some ((Sum.inl (k : Int) : Int ⊕ Str), PyData.int (k : Int))) (List.range (mxF row + 1)) [] (by simp; show _ ≤ 16777216; omega) (by
    intro x _
    rw [dcT_tup2]
    simp [e_dense_of_4, v_dense_of_5, wipe])
  rw [List.filterMap_eq_map', ← enum_int] at g2
  generalize hD : ((List.range (mxF row + 1)).map fun k : Nat => ((Sum.inl (k : Int) : Int ⊕ Str), PyData.int (k : Int))).foldl (fun a kv => putP a kv.1 kv.2) [] = D at g2
  have gd : ∀ j ∈ row, dgetP D (.inl (j : Int)) = some (.int (j : Int)) := by
    intro j hj
    rw [← hD]
    exact get_fold j _ [] (.inl (List.mem_range.mpr ((dns_mem h h0 j).mp hj)))
  have g3 := lcGo_all (turn := lcT (cf d) (.nm 3) .nil e_dense_of_1 [3] [some (.pv (.tuple (intL row))), some (.pv (.dict D)), none, none]) (S := []) (fun k : Nat => PyData.int (k : Int)) (fun k : Nat => PyData.int (k : Int)) row (by
    intro x hx
    simp [e_dense_of_1, wipe, gd x hx])
  have g3 : lcGo (lcT (cf d) (.nm 3) .nil e_dense_of_1 [3] [some (.pv (.tuple (intL row))), some (.pv (.dict D)), none, none]) (intL row) [] = .ok (intL row) [] := g3
  have it : ∀ xs : List P, items .enum [.pv (.list xs)] = some (enumP 0 xs) := fun _ => rfl
  simp -implicitDefEqProofs [f_dense_of, i_dense_of, startL, g1, sd, it, g2, g3]
end Lw
set_option Elab.async false
set_option linter.all false
set_option maxRecDepth 100000
set_option autoImplicit false
namespace Lw
open PySem Mi
theorem k_are_ranks (d : Nat) (row : List Nat) (S : Sto) : pcallW (cf (d + 2)) 6 [.pv (.int (row.length : Nat)), .pv (.tuple (intL row))] S = .ok (.pv (.bool true)) S := by
  refine pcE (ps := [.int (row.length : Nat), .tuple (intL row)]) rfl rfl (T := []) ?_ S
  rw [runFn_eq rfl]
  have g := lcGo_all (turn := lcT (cf (d + 1)) (.nm 2) .nil e_are_ranks_1 [2] [some (.pv (.int (row.length : Nat))), some (.pv (.tuple (intL row))), none]) (S := []) (fun k : Nat => PyData.int (k : Int)) (fun _ => .bool true) row (by
    intro x _
    have e : isInt (.int (x : Int)) = true := rfl
    simp [e_are_ranks_1, wipe, k_is_integer d (.int x) _ rfl, e])
  have g : lcGo (lcT (cf (d + 1)) (.nm 2) .nil e_are_ranks_1 [2] [some (.pv (.int (row.length : Nat))), some (.pv (.tuple (intL row))), none]) (intL row) [] = _ := g
  have a := all_map (fun _ : Nat => true) row
  have at_ : row.all (fun _ => true) = true := by simp
  rw [at_] at a
  have ln : (intL row).length = row.length := by simp [intL]
  simp -implicitDefEqProofs [f_are_ranks, i_are_ranks, startL, ln, g, a]
theorem k_need_ranks (d : Nat) (row : List Nat) (S : Sto) (h : okM row.length) : pcallW (cf (d + 3)) 7 [.pv (.tuple (intL row))] S = .ok (.pv .none) S := by
  refine pcE (ps := [.tuple (intL row)]) rfl rfl (T := []) ?_ S
  rw [runFn_eq rfl]
  have ln : (intL row).length = row.length := by simp [intL]
  obtain ⟨h1, h2⟩ := h
  have q1 : (1 : Int) ≤ (row.length : Nat) := by omega
  have q2 : ((row.length : Nat) : Int) ≤ 8 := by omega
  simp -implicitDefEqProofs [f_need_ranks, i_need_ranks, startL, ln, q1, q2, k_are_ranks d row]
theorem cut_take (row : List Nat) (k : Nat) (h : k ≤ row.length) : cut (intL row) none (some (k : Int)) = intL (row.take k) := by
  unfold cut
  have ln : (intL row).length = row.length := by simp [intL]
  have e0 : sIx (intL row).length 0 none = 0 := rfl
  have e1 : sIx (intL row).length (intL row).length (some (k : Int)) = k := by
    rw [ln]
    exact (HT.sIx_nat _ _ _).trans (Nat.min_eq_left h)
  rw [e0, e1]
  simp [intL, List.map_take]
theorem sum_ints {α : Type} (f : α → Int) (l : List α) : biP .sum [.list (l.map fun a => PyData.int (f a))] = some (.int (sumI (l.map f))) := by
  have e : intsOf (l.map fun a => PyData.int (f a)) = some (l.map f) := by
    induction l with
    | nil => rfl
    | cons x r ih =>
      show (intsOf (r.map fun a => PyData.int (f a))).map _ = _
      rw [ih]
      rfl
  have s : ∀ l : List Int, l.sum = sumI l := by
    intro l
    induction l with
    | nil => rfl
    | cons x r ih => rw [List.sum_cons, ih]; rfl
  show (intsOf _).map _ = _
  rw [e]
  show some (PyData.int (l.map f).sum) = _
  rw [s]
theorem num_turn (d : Nat) (row : List Nat) (k r : Nat) (q : Int) (y2 y3 : Option W) (h : okM row.length) (hb : ∀ x ∈ row, x < row.length) (hk : k < row.length) (hr : r < row.length) : turnOf (cf (d + 3)) (.tup (.cons (.nm 2) (.cons (.nm 3) .nil))) b_order_number_2 (.tuple [.int (k : Nat), .int (r : Nat)]) [some (.pv (.tuple (intL row))), some (.pv (.int q)), y2, y3, none] [] = .nx [some (.pv (.tuple (intL row))), some (.pv (.int (q + below row.length (row.take k) r))), some (.pv (.int (k : Nat))), some (.pv (.int (r : Nat))), none] [] := by
  obtain ⟨h1, h2⟩ := h
  have tl : (row.take k).length = k := by simp; omega
  have hbt : ∀ x ∈ row.take k, x < row.length := fun x hx => hb x (List.mem_of_mem_take hx)
  have ln : (intL row).length = row.length := by simp [intL]
  have g := lcGo_all (turn := lcT (cf (d + 3)) (.nm 4) .nil e_order_number_1 [4] [some (.pv (.tuple (intL row))), some (.pv (.int q)), some (.pv (.int (k : Nat))), some (.pv (.int (r : Nat))), none]) (S := []) (fun j : Nat => PyData.int (j : Int)) (fun j => PyData.int (mwF row.length (row.take k ++ [j]))) (List.range r) (by
    intro x hx
    have hx := List.mem_range.mp hx
    have kw := k_many_with d row.length (row.take k ++ [x]) (by omega) (by simp; omega) (mx_lt (by omega) (app_lt hbt (by omega))) ([] : Sto)
    have cl : (intL (row.take k)).length + 1 ≤ maxLen := by simp [intL]; show _ ≤ 16777216; omega
    have ea : intL (row.take k) ++ [PyData.int (x : Int)] = intL (row.take k ++ [x]) := by simp [intL]
    simp [e_order_number_1, wipe, cut_take row k (by omega), cl, ea, ln, kw])
  rw [← rngL0] at g
  have sm := sum_ints (fun j => mwF row.length (row.take k ++ [j])) (List.range r)
  have sm : biP .sum [.list ((List.range r).map fun j => PyData.int (mwF row.length (row.take k ++ [j])))] = some (.int (below row.length (row.take k) r)) := sm
  generalize hL : ((List.range r).map fun j => PyData.int (mwF row.length (row.take k ++ [j]))) = L at g sm
  simp -implicitDefEqProofs [b_order_number_2, ex_augK, aug_add, items_rng1 r (by omega), g, sm]
theorem num_loop (d : Nat) (row : List Nat) (h : okM row.length) (hb : ∀ x ∈ row, x < row.length) : ∀ (z b : List Nat) (q : Int) (y2 y3 : Option W), row = b ++ z → ∃ z2 z3, forGo (turnOf (cf (d + 3)) (.tup (.cons (.nm 2) (.cons (.nm 3) .nil))) b_order_number_2) (enumP (b.length : Nat) (intL z)) [some (.pv (.tuple (intL row))), some (.pv (.int q)), y2, y3, none] [] = .nx [some (.pv (.tuple (intL row))), some (.pv (.int (q + numF row.length b z))), z2, z3, none] [] := by
  intro z
  induction z with
  | nil => intro b q y2 y3 _; exact ⟨y2, y3, by simp [numF, intL, enumP]⟩
  | cons r z ih =>
    intro b q y2 y3 e
    have tk : row.take b.length = b := by rw [e]; simp
    have t := num_turn d row b.length r q y2 y3 h hb (by rw [e]; simp) (hb r (by rw [e]; simp))
    rw [tk] at t
    obtain ⟨z2, z3, e2⟩ := ih (b ++ [r]) (q + below row.length b r) (some (.pv (.int (b.length : Nat)))) (some (.pv (.int (r : Nat)))) (by rw [e]; simp)
    refine ⟨z2, z3, ?_⟩
    have l2 : ((b ++ [r]).length : Int) = (b.length : Int) + 1 := by simp
    rw [l2] at e2
    show forGo _ (.tuple [.int (b.length : Nat), .int (r : Nat)] :: enumP ((b.length : Int) + 1) (intL z)) _ _ = _
    rw [forGo_nx t, e2]
    show _ = SR.nx [_, some (.pv (.int (q + (below row.length b r + numF row.length (b ++ [r]) z)))), _, _, _] []
    rw [Int.add_assoc]
theorem eqP_tupI (t : List Nat) : eqP (.tuple (intL t)) (.tuple (intL t)) = some true := by
  have h1 : SeqAt.shaped (.tuple (intL t)) = true := shaped_intL t
  unfold eqP
  rw [h1, if_pos (by simp)]
  show some (PyData.eqvAll (intL t) (intL t)) = _
  rw [eqv_intL]
  simp
theorem k_order_number (d : Nat) (row : List Nat) (n : Int) (S : Sto) (h : okM row.length) (hb : ∀ x ∈ row, x < row.length) (hd : dnsB row = true) (t : Row row.length [] n row) : pcallW (cf (d + 4)) 28 [.pv (.tuple (intL row))] S = .ok (.pv (.int n)) S := by
  have h' := h
  obtain ⟨h1, h2⟩ := h'
  obtain ⟨z2, z3, e⟩ := num_loop d row h hb row [] 0 none none rfl
  rw [Int.zero_add, row_num t row rfl] at e
  have e : forGo (turnOf (cf (d + 3)) (.tup (.cons (.nm 2) (.cons (.nm 3) .nil))) b_order_number_2) (enumP 0 (intL row)) [some (.pv (.tuple (intL row))), some (.pv (.int 0)), none, none, none] [] = _ := e
  refine pcE (ps := [.tuple (intL row)]) rfl rfl (T := []) ?_ S
  rw [runFn_eq rfl]
  have kd := fun S => k_dense (d + 2) row S hd (by intro q; rw [q] at h1; simp at h1) (by omega) (fun x hx => by have := hb x hx; omega)
  have it : ∀ xs : List P, items .enum [.pv (.tuple xs)] = some (enumP 0 xs) := fun _ => rfl
  simp -implicitDefEqProofs [f_order_number, i_order_number, startL, k_need_ranks d row _ h, kd, eqP_tupI, it, e]
end Lw
set_option Elab.async false
set_option linter.all false
set_option maxRecDepth 1000000
set_option maxHeartbeats 0
set_option autoImplicit false
namespace Lw
open PySem Mi
def ordsL : Nat → List (List Nat)
  | 1 => [[0]]
  | 2 => [[0, 0], [0, 1], [1, 0]]
  | 3 => [[0, 0, 0], [0, 0, 1], [0, 1, 0], [0, 1, 1], [0, 1, 2], [0, 2, 1], [1, 0, 0], [1, 0, 1], [1, 0, 2], [1, 1, 0], [1, 2, 0], [2, 0, 1], [2, 1, 0]]
  | 4 => [[0, 0, 0, 0], [0, 0, 0, 1], [0, 0, 1, 0], [0, 0, 1, 1], [0, 0, 1, 2], [0, 0, 2, 1], [0, 1, 0, 0], [0, 1, 0, 1], [0, 1, 0, 2], [0, 1, 1, 0], [0, 1, 1, 1], [0, 1, 1, 2], [0, 1, 2, 0], [0, 1, 2, 1], [0, 1, 2, 2], [0, 1, 2, 3], [0, 1, 3, 2], [0, 2, 0, 1], [0, 2, 1, 0], [0, 2, 1, 1], [0, 2, 1, 2], [0, 2, 1, 3], [0, 2, 2, 1], [0, 2, 3, 1], [0, 3, 1, 2], [0, 3, 2, 1], [1, 0, 0, 0], [1, 0, 0, 1], [1, 0, 0, 2], [1, 0, 1, 0], [1, 0, 1, 1], [1, 0, 1, 2], [1, 0, 2, 0], [1, 0, 2, 1], [1, 0, 2, 2], [1, 0, 2, 3], [1, 0, 3, 2], [1, 1, 0, 0], [1, 1, 0, 1], [1, 1, 0, 2], [1, 1, 1, 0], [1, 1, 2, 0], [1, 2, 0, 0], [1, 2, 0, 1], [1, 2, 0, 2], [1, 2, 0, 3], [1, 2, 1, 0], [1, 2, 2, 0], [1, 2, 3, 0], [1, 3, 0, 2], [1, 3, 2, 0], [2, 0, 0, 1], [2, 0, 1, 0], [2, 0, 1, 1], [2, 0, 1, 2], [2, 0, 1, 3], [2, 0, 2, 1], [2, 0, 3, 1], [2, 1, 0, 0], [2, 1, 0, 1], [2, 1, 0, 2], [2, 1, 0, 3], [2, 1, 1, 0], [2, 1, 2, 0], [2, 1, 3, 0], [2, 2, 0, 1], [2, 2, 1, 0], [2, 3, 0, 1], [2, 3, 1, 0], [3, 0, 1, 2], [3, 0, 2, 1], [3, 1, 0, 2], [3, 1, 2, 0], [3, 2, 0, 1], [3, 2, 1, 0]]
  | _ => []
abbrev tI (r : List Nat) : P := .tuple (intL r)
abbrev ordsP (m : Nat) : P := .list ((ordsL m).map tI)
theorem ord_1 (d : Nat) : runFn (cf (d + 29)) f__law_orders [.pv (.int 1)] [] = .ok (.pv (ordsP 1)) [] := by kernel_rfl
theorem ord_2 (d : Nat) : runFn (cf (d + 29)) f__law_orders [.pv (.int 2)] [] = .ok (.pv (ordsP 2)) [] := by kernel_rfl
theorem ord_3 (d : Nat) : runFn (cf (d + 29)) f__law_orders [.pv (.int 3)] [] = .ok (.pv (ordsP 3)) [] := by kernel_rfl
theorem ord_4 (d : Nat) : runFn (cf (d + 29)) f__law_orders [.pv (.int 4)] [] = .ok (.pv (ordsP 4)) [] := by kernel_rfl
def rowB (m : Nat) : List Nat → Int → List Nat → Bool
  | b, n, [] => decide (b.length = m) && decide (n = 0)
  | b, n, r :: z => decide (b.length < m) && (decide (r < m) && (decide (below m b r ≤ n) && (decide (n < below m b (r + 1)) && rowB m (b ++ [r]) (n - below m b r) z)))
theorem rowB_row {m : Nat} : ∀ (z b : List Nat) (n : Int), rowB m b n z = true → Row m b n (b ++ z) := by
  intro z
  induction z with
  | nil =>
    intro b n h
    unfold rowB at h
    rw [Bool.and_eq_true] at h
    rw [of_decide_eq_true h.2, List.append_nil]
    exact .full (of_decide_eq_true h.1)
  | cons r z ih =>
    intro b n h
    unfold rowB at h
    rw [Bool.and_eq_true, Bool.and_eq_true, Bool.and_eq_true, Bool.and_eq_true] at h
    obtain ⟨h1, h2, h3, h4, h5⟩ := h
    have := ih _ _ h5
    rw [List.append_assoc] at this
    exact .step (of_decide_eq_true h1) (of_decide_eq_true h2) (of_decide_eq_true h3) (of_decide_eq_true h4) this
def ordsB (m : Nat) : Bool := decide ((ordsL m).length = fubN m) && (List.range (fubN m)).all fun i => rowB m [] i ((ordsL m).getD i [])
theorem ords_all : ([1, 2, 3, 4].all ordsB) = true := by decide +kernel
end Lw
set_option Elab.async false
set_option linter.all false
set_option maxRecDepth 1000000
set_option maxHeartbeats 0
set_option autoImplicit false
namespace Lw
open PySem Mi
def lotsF (m : Nat) : List (List Nat) := (List.range' 1 (2 ^ m - 1)).map fun b => (List.range m).filter fun w => decide (b / 2 ^ w % 2 = 1)
def leastN : List Nat → Nat
  | [] => 99
  | x :: r => min x (leastN r)
def leastF (row lot : List Nat) : List Nat := lot.filter fun w => decide (row.getD w 0 = leastN (lot.map fun w => row.getD w 0))
def tabF (row : List Nat) : List (List Nat) := (lotsF row.length).map (leastF row)
abbrev tabP (row : List Nat) : P := .tuple ((tabF row).map tI)
abbrev sRanks : Str := ⟨#[114, 97, 110, 107, 115]⟩
theorem tabs_1 (d : Nat) : ((ordsL 1).map fun r => runFn (cf (d + 29)) f_table_of_ranks [.pv (tI r)] []) = (ordsL 1).map fun r => .ok (.pv (tabP r)) [] := by kernel_rfl
theorem tabs_2 (d : Nat) : ((ordsL 2).map fun r => runFn (cf (d + 29)) f_table_of_ranks [.pv (tI r)] []) = (ordsL 2).map fun r => .ok (.pv (tabP r)) [] := by kernel_rfl
theorem tabs_3 (d : Nat) : ((ordsL 3).map fun r => runFn (cf (d + 29)) f_table_of_ranks [.pv (tI r)] []) = (ordsL 3).map fun r => .ok (.pv (tabP r)) [] := by kernel_rfl
theorem tabs_4 (d : Nat) : ((ordsL 4).map fun r => runFn (cf (d + 29)) f_table_of_ranks [.pv (tI r)] []) = (ordsL 4).map fun r => .ok (.pv (tabP r)) [] := by kernel_rfl
theorem ltab_1 (d : Nat) : ((ordsL 1).map fun r => runFn (cf (d + 29)) f__law_table [.pv (tI r)] []) = (ordsL 1).map fun r => .ok (.pv (tabP r)) [] := by kernel_rfl
theorem ltab_2 (d : Nat) : ((ordsL 2).map fun r => runFn (cf (d + 29)) f__law_table [.pv (tI r)] []) = (ordsL 2).map fun r => .ok (.pv (tabP r)) [] := by kernel_rfl
theorem ltab_3 (d : Nat) : ((ordsL 3).map fun r => runFn (cf (d + 29)) f__law_table [.pv (tI r)] []) = (ordsL 3).map fun r => .ok (.pv (tabP r)) [] := by kernel_rfl
theorem ltab_4 (d : Nat) : ((ordsL 4).map fun r => runFn (cf (d + 29)) f__law_table [.pv (tI r)] []) = (ordsL 4).map fun r => .ok (.pv (tabP r)) [] := by kernel_rfl
end Lw
set_option Elab.async false
set_option linter.all false
set_option maxRecDepth 1000000
set_option maxHeartbeats 0
set_option autoImplicit false
namespace Lw
open PySem Mi
theorem pair_1 (d : Nat) (S : Sto) : ((ordsL 1).map fun r => pcallW (cf (d + 28)) 19 [.pv (.int 1), .pv (tabP r)] S) = (ordsL 1).map fun r => .ok (.pv (tI r)) S := by kernel_rfl
theorem pair_2 (d : Nat) (S : Sto) : ((ordsL 2).map fun r => pcallW (cf (d + 28)) 19 [.pv (.int 2), .pv (tabP r)] S) = (ordsL 2).map fun r => .ok (.pv (tI r)) S := by kernel_rfl
theorem pair_3 (d : Nat) (S : Sto) : ((ordsL 3).map fun r => pcallW (cf (d + 28)) 19 [.pv (.int 3), .pv (tabP r)] S) = (ordsL 3).map fun r => .ok (.pv (tI r)) S := by kernel_rfl
theorem pair_4 (d : Nat) (S : Sto) : ((ordsL 4).map fun r => pcallW (cf (d + 28)) 19 [.pv (.int 4), .pv (tabP r)] S) = (ordsL 4).map fun r => .ok (.pv (tI r)) S := by kernel_rfl
end Lw
set_option Elab.async false
set_option linter.all false
set_option maxRecDepth 1000000
set_option maxHeartbeats 0
set_option autoImplicit false
namespace Lw
open PySem Mi
theorem need_1 (d : Nat) (S : Sto) : ((ordsL 1).map fun r => pcallW (cf (d + 29)) 14 [.pv (.int 1), .pv (tabP r)] S) = (ordsL 1).map fun r => .ok (.pv .none) S := by kernel_rfl
theorem need_2 (d : Nat) (S : Sto) : ((ordsL 2).map fun r => pcallW (cf (d + 29)) 14 [.pv (.int 2), .pv (tabP r)] S) = (ordsL 2).map fun r => .ok (.pv .none) S := by kernel_rfl
theorem need_3 (d : Nat) (S : Sto) : ((ordsL 3).map fun r => pcallW (cf (d + 29)) 14 [.pv (.int 3), .pv (tabP r)] S) = (ordsL 3).map fun r => .ok (.pv .none) S := by kernel_rfl
theorem need_4 (d : Nat) (S : Sto) : ((ordsL 4).map fun r => pcallW (cf (d + 29)) 14 [.pv (.int 4), .pv (tabP r)] S) = (ordsL 4).map fun r => .ok (.pv .none) S := by kernel_rfl
end Lw
set_option Elab.async false
set_option linter.all false
set_option maxRecDepth 100000
set_option autoImplicit false
namespace Lw
open PySem Mi
def bitN : List Nat → Nat
  | [] => 0
  | w :: r => 2 ^ w + bitN r
theorem bits_sum (lot : List Nat) : sumI (lot.map fun j : Nat => ((2 ^ j : Nat) : Int)) = (bitN lot : Nat) := by
  induction lot with
  | nil => rfl
  | cons x r ih =>
    show ((2 ^ x : Nat) : Int) + sumI _ = ((2 ^ x + bitN r : Nat) : Int)
    rw [ih]
    push_cast
    rfl
theorem k_bits (d : Nat) (lot : List Nat) (S : Sto) (h : ∀ w ∈ lot, w < 1000) : pcallW (cf (d + 1)) 3 [.pv (tI lot)] S = .ok (.pv (.int (bitN lot : Nat))) S := by
  refine pcE (ps := [tI lot]) rfl rfl (T := []) ?_ S
  rw [runFn_eq rfl]
  have g := lcGo_all (turn := lcT (cf d) (.nm 1) .nil e_bits_of_1 [1] [some (.pv (tI lot)), none]) (S := []) (fun j : Nat => PyData.int (j : Int)) (fun j : Nat => PyData.int ((2 ^ j : Nat) : Int)) lot (by
    intro x hx
    have hx := h x hx
    have q : ((x : Nat) : Int) ≤ 1000000 := by omega
    have q2 : Int.natAbs 1 < 2 ^ 64 := by decide
    have e : (1 : Int) * 2 ^ x = ((2 ^ x : Nat) : Int) := by push_cast; omega
    simp [e_bits_of_1, wipe, q, q2])
  have g : lcGo (lcT (cf d) (.nm 1) .nil e_bits_of_1 [1] [some (.pv (tI lot)), none]) (intL lot) [] = _ := g
  have s := sum_ints (fun j : Nat => ((2 ^ j : Nat) : Int)) lot
  have e := bits_sum lot
  rw [e] at s
  generalize (lot.map fun j : Nat => PyData.int ((2 ^ j : Nat) : Int)) = L at g s
  simp -implicitDefEqProofs [f_bits_of, i_bits_of, startL, g, s]
def meetF (a b : List Nat) : List Nat := a.filter fun w => decide (w ∈ b)
def withF (a b : List Nat) : Bool := a.all fun w => decide (w ∈ b)
theorem k_meet (d : Nat) (a b : List Nat) (S : Sto) : pcallW (cf (d + 1)) 15 [.pv (tI a), .pv (tI b)] S = .ok (.pv (tI (meetF a b))) S := by
  refine pcE (ps := [tI a, tI b]) rfl rfl (T := []) ?_ S
  rw [runFn_eq rfl]
  have g := lcGo_map (turn := lcT (cf d) (.nm 2) q_meet_1 e_meet_2 [2] [some (.pv (tI a)), some (.pv (tI b)), none]) (S := []) (fun j : Nat => PyData.int (j : Int)) (fun w => decide (w ∈ b)) (fun j : Nat => PyData.int (j : Int)) a (by
    intro x _
    by_cases hx : x ∈ b <;> simp [q_meet_1, e_meet_2, wipe, inP_int, hx])
  have g : lcGo (lcT (cf d) (.nm 2) q_meet_1 e_meet_2 [2] [some (.pv (tI a)), some (.pv (tI b)), none]) (intL a) [] = .ok (intL (meetF a b)) [] := g
  simp -implicitDefEqProofs [f_meet, i_meet, startL, g]
theorem k_within (d : Nat) (a b : List Nat) (S : Sto) : pcallW (cf (d + 1)) 16 [.pv (tI a), .pv (tI b)] S = .ok (.pv (.bool (withF a b))) S := by
  refine pcE (ps := [tI a, tI b]) rfl rfl (T := []) ?_ S
  rw [runFn_eq rfl]
  have g := lcGo_all (turn := lcT (cf d) (.nm 2) .nil e_is_within_1 [2] [some (.pv (tI a)), some (.pv (tI b)), none]) (S := []) (fun j : Nat => PyData.int (j : Int)) (fun w => .bool (decide (w ∈ b))) a (by
    intro x _
    simp [e_is_within_1, wipe, inP_int])
  have g : lcGo (lcT (cf d) (.nm 2) .nil e_is_within_1 [2] [some (.pv (tI a)), some (.pv (tI b)), none]) (intL a) [] = _ := g
  have am := all_map (fun w => decide (w ∈ b)) a
  have am : biP .all [.list (a.map fun w => PyData.bool (decide (w ∈ b)))] = some (.bool (withF a b)) := am
  generalize (a.map fun w => PyData.bool (decide (w ∈ b))) = L at g am
  simp -implicitDefEqProofs [f_is_within, i_is_within, startL, g, am]
theorem eqP_tI (a b : List Nat) : eqP (tI a) (tI b) = some (decide (a = b)) := by
  have h1 : SeqAt.shaped (tI a) = true := shaped_intL a
  have h2 : SeqAt.shaped (tI b) = true := shaped_intL b
  unfold eqP
  rw [h1, h2, if_pos (by simp)]
  show some (PyData.eqvAll (intL a) (intL b)) = _
  rw [eqv_intL]
def tabAt (T : List (List Nat)) (lot : List Nat) : List Nat := T.getD (bitN lot - 1) []
theorem ix_tab (T : List (List Nat)) (lot : List Nat) (h1 : 1 ≤ bitN lot) (h2 : bitN lot ≤ T.length) : idxL (T.map tI) ((bitN lot : Nat) - 1 : Int) = some (tI (tabAt T lot)) := by
  rw [show ((bitN lot : Nat) - 1 : Int) = ((bitN lot - 1 : Nat) : Int) by omega, idxL_nat _ _ (by simp; omega)]
  have : bitN lot - 1 < T.length := by omega
  simp [tabAt, List.getD_eq_getElem?_getD, this]
def brokeF (T : List (List Nat)) (lot other : List Nat) : Bool := withF lot other && (decide (0 < (meetF (tabAt T other) lot).length) && !decide (tabAt T lot = meetF (tabAt T other) lot))
def lotOk (T : List (List Nat)) (lot : List Nat) : Prop := lot ≠ [] ∧ (∀ w ∈ lot, w < 1000) ∧ 1 ≤ bitN lot ∧ bitN lot ≤ T.length
theorem k_choice (d : Nat) (T : List (List Nat)) (lot other : List Nat) (S : Sto) (h1 : lotOk T lot) (h2 : lotOk T other) : pcallW (cf (d + 2)) 17 [.pv (.tuple (T.map tI)), .pv (tI lot), .pv (tI other)] S = .ok (.pv (.bool (brokeF T lot other))) S := by
  refine pcE (ps := [.tuple (T.map tI), tI lot, tI other]) rfl rfl (T := []) ?_ S
  rw [runFn_eq rfl]
  obtain ⟨a1, a2, a3, a4⟩ := h1
  obtain ⟨b1, b2, b3, b4⟩ := h2
  have i1 := ix_tab T lot a3 a4
  have i2 := ix_tab T other b3 b4
  have kb1 := fun S => k_bits d lot S a2
  have kb2 := fun S => k_bits d other S b2
  have ln : ∀ l : List Nat, (intL l).length = l.length := fun l => by simp [intL]
  have l0 : lot.length ≠ 0 := fun q => a1 (List.length_eq_zero_iff.mp q)
  have l0' : ¬ ((lot.length : Nat) : Int) = 0 := by omega
  cases hw : withF lot other with
  | false =>
    have kw : ∀ S, pcallW (cf (d + 1)) 16 [.pv (tI lot), .pv (tI other)] S = .ok (.pv (.bool false)) S := fun S => by rw [k_within d lot other S, hw]
    have e : brokeF T lot other = false := by unfold brokeF; rw [hw]; rfl
    rw [e]
    simp -implicitDefEqProofs [f_is_choice_broken, i_is_choice_broken, startL, ln, l0', l0, a1, kw]
  | true =>
    have kw : ∀ S, pcallW (cf (d + 1)) 16 [.pv (tI lot), .pv (tI other)] S = .ok (.pv (.bool true)) S := fun S => by rw [k_within d lot other S, hw]
    have km := fun S => k_meet d (tabAt T other) lot S
    unfold brokeF
    rw [hw]
    generalize meetF (tabAt T other) lot = M at km
    have eq := eqP_tI (tabAt T lot) M
    by_cases hM : 0 < M.length
    · have q : (0 : Int) < ((M.length : Nat) : Int) := by omega
      simp -implicitDefEqProofs [f_is_choice_broken, i_is_choice_broken, startL, ln, l0', l0, a1, kw, kb1, kb2, i1, i2, km, eq, q, hM]
    · have q : ¬ (0 : Int) < ((M.length : Nat) : Int) := by omega
      simp -implicitDefEqProofs [f_is_choice_broken, i_is_choice_broken, startL, ln, l0', l0, a1, kw, kb1, kb2, i1, i2, km, eq, q, hM]
end Lw
set_option Elab.async false
set_option linter.all false
set_option maxRecDepth 100000
set_option autoImplicit false
namespace Lw
open PySem Mi
def sm4 (m : Nat) : Prop := 1 ≤ m ∧ m ≤ 4
theorem k_lots (d m : Nat) (S : Sto) (h : sm4 m) : pcallW (cf (d + 28)) 5 [.pv (.int m)] S = .ok (.pv (.list ((lotsF m).map tI))) S := by
  obtain ⟨h1, h2⟩ := h
  match m, h1, h2 with
  | 1, _, _ => kernel_rfl
  | 2, _, _ => kernel_rfl
  | 3, _, _ => kernel_rfl
  | 4, _, _ => kernel_rfl
theorem zip_tI : ∀ (a b : List (List Nat)), zipP (a.map tI) (b.map tI) = (a.zip b).map fun p => PyData.tuple [tI p.1, tI p.2]
  | [], _ => by simp [zipP]
  | _ :: _, [] => by simp [zipP]
  | x :: a, y :: b => by
    show PyData.tuple [tI x, tI y] :: zipP (a.map tI) (b.map tI) = _
    rw [zip_tI a b]
    rfl
def lotB (T : List (List Nat)) (l : List Nat) : Bool := !decide (l = []) && (l.all (fun w => decide (w < 1000)) && (decide (1 ≤ bitN l) && decide (bitN l ≤ T.length)))
theorem lotB_ok {T : List (List Nat)} {l : List Nat} (h : lotB T l = true) : lotOk T l := by
  unfold lotB at h
  rw [Bool.and_eq_true, Bool.and_eq_true, Bool.and_eq_true] at h
  obtain ⟨h1, h2, h3, h4⟩ := h
  refine ⟨by simpa using h1, fun w hw => of_decide_eq_true (List.all_eq_true.mp h2 w hw), of_decide_eq_true h3, of_decide_eq_true h4⟩
def tabOk (m : Nat) (T : List (List Nat)) : Bool := ((lotsF m).zip T).all (fun p => !decide (p.2 = []) && withF p.2 p.1) && ((lotsF m).all (fun o => (lotsF m).all fun l => !brokeF T l o) && (lotsF m).all (lotB T))
theorem k_first_break (d m : Nat) (T : List (List Nat)) (S : Sto) (hm : sm4 m) (h : tabOk m T = true) : pcallW (cf (d + 29)) 18 [.pv (.int m), .pv (.tuple (T.map tI))] S = .ok (.pv .none) S := by
  unfold tabOk at h
  rw [Bool.and_eq_true, Bool.and_eq_true, List.all_eq_true, List.all_eq_true, List.all_eq_true] at h
  obtain ⟨h1, h2, h3⟩ := h
  refine pcE (ps := [.int m, .tuple (T.map tI)]) rfl rfl (T := []) ?_ S
  rw [runFn_eq rfl]
  let LT : P := .list ((lotsF m).map tI)
  have ln : ∀ l : List Nat, (intL l).length = l.length := fun l => by simp [intL]
  obtain ⟨l1, i1, e1⟩ := forGo_inv (turn := turnOf (cf (d + 28)) (.tup (.cons (.nm 4) (.cons (.nm 5) .nil))) b_first_break_3) (fun p : List Nat × List Nat => PyData.tuple [tI p.1, tI p.2]) (fun l => ∃ x4 x5, l = [some (.pv (.int m)), some (.pv (.tuple (T.map tI))), some (.pv LT), none, x4, x5]) [] ((lotsF m).zip T) [some (.pv (.int m)), some (.pv (.tuple (T.map tI))), some (.pv LT), none, none, none] ⟨none, none, rfl⟩ (by
    rintro ⟨a, b⟩ hp l ⟨x4, x5, rfl⟩
    have := h1 _ hp
    rw [Bool.and_eq_true] at this
    obtain ⟨q1, q2⟩ := this
    have b0 : b ≠ [] := by simpa using q1
    have l0 : b.length ≠ 0 := fun q => b0 (List.length_eq_zero_iff.mp q)
    have l0' : ¬ ((b.length : Nat) : Int) = 0 := by omega
    have kw : ∀ S, pcallW (cf (d + 28)) 16 [.pv (tI b), .pv (tI a)] S = .ok (.pv (.bool true)) S := fun S => by rw [k_within (d + 27) b a S]; rw [show withF b a = true from q2]
    refine ⟨_, ⟨some (.pv (tI a)), some (.pv (tI b)), rfl⟩, ?_⟩
    rw [turnOf_tup2]
    simp -implicitDefEqProofs [b_first_break_3, ln, l0, l0', b0, kw])
  obtain ⟨x4, x5, rfl⟩ := i1
  rw [← zip_tI] at e1
  obtain ⟨l2, i2, e2⟩ := forGo_inv (turn := turnOf (cf (d + 28)) (.nm 3) b_first_break_2) tI (fun l => ∃ x3 x4, l = [some (.pv (.int m)), some (.pv (.tuple (T.map tI))), some (.pv LT), x3, x4, x5]) [] (lotsF m) [some (.pv (.int m)), some (.pv (.tuple (T.map tI))), some (.pv LT), none, x4, x5] ⟨none, x4, rfl⟩ (by
    rintro o ho l ⟨x3, y4, rfl⟩
    have ho2 := List.all_eq_true.mp (h2 o ho)
    obtain ⟨l3, ⟨z4, rfl⟩, e3⟩ := forGo_inv (turn := turnOf (cf (d + 28)) (.nm 4) b_first_break_1) tI (fun l => ∃ x4, l = [some (.pv (.int m)), some (.pv (.tuple (T.map tI))), some (.pv LT), some (.pv (tI o)), x4, x5]) [] (lotsF m) [some (.pv (.int m)), some (.pv (.tuple (T.map tI))), some (.pv LT), some (.pv (tI o)), y4, x5] ⟨y4, rfl⟩ (by
      rintro a ha l ⟨w4, rfl⟩
      have hb : brokeF T a o = false := by simpa using ho2 a ha
      have kc : ∀ S, pcallW (cf (d + 28)) 17 [.pv (.tuple (T.map tI)), .pv (tI a), .pv (tI o)] S = .ok (.pv (.bool false)) S := fun S => by rw [k_choice (d + 26) T a o S (lotB_ok (h3 a ha)) (lotB_ok (h3 o ho)), hb]
      refine ⟨_, ⟨some (.pv (tI a)), rfl⟩, ?_⟩
      simp -implicitDefEqProofs [b_first_break_1, kc])
    refine ⟨_, ⟨some (.pv (tI o)), z4, rfl⟩, ?_⟩
    have it : items .seq [.pv LT] = some ((lotsF m).map tI) := rfl
    simp -implicitDefEqProofs [b_first_break_2, it, e3])
  obtain ⟨x3, y4, rfl⟩ := i2
  have kl : ∀ S, pcallW (cf (d + 28)) 5 [.pv (.int m)] S = .ok (.pv LT) S := fun S => k_lots d m S hm
  have it : items .seq [.pv LT] = some ((lotsF m).map tI) := rfl
  have iz : items .zip [.pv LT, .pv (.tuple (T.map tI))] = some (zipP ((lotsF m).map tI) (T.map tI)) := rfl
  simp -implicitDefEqProofs [f_first_break, i_first_break, startL, kl, it, iz, e1, e2]
end Lw
set_option Elab.async false
set_option linter.all false
set_option maxRecDepth 1000000
set_option maxHeartbeats 0
set_option autoImplicit false
namespace Lw
open PySem Mi
def rowOk (m : Nat) (r : List Nat) : Bool := decide (r.length = m) && (r.all (fun x => decide (x < m)) && (dnsB r && tabOk m (tabF r)))
theorem rows_all : ([1, 2, 3, 4].all fun m => (ordsL m).all (rowOk m)) = true := by decide +kernel
end Lw
set_option Elab.async false
set_option linter.all false
set_option maxRecDepth 100000
set_option autoImplicit false
namespace Lw
open PySem Mi
theorem lay_T (A : List (List Nat)) : PyData.canLayAll0 (A.map tI) = true := by
  induction A with
  | nil => rfl
  | cons x r ih =>
    show (PyData.canLayAll0 (intL x) && PyData.canLayAll0 (r.map tI)) = true
    rw [lay_intL, ih]
    rfl
theorem dep_T (A : List (List Nat)) : PyData.depthAll (A.map tI) ≤ 1 := by
  induction A with
  | nil => exact Nat.zero_le _
  | cons x r ih =>
    show max (PyData.depthAll (intL x) + 1) (PyData.depthAll (r.map tI)) ≤ 1
    rw [dep_intL]
    omega
theorem shaped_T (A : List (List Nat)) : SeqAt.shaped (.tuple (A.map tI)) = true := by
  show (PyData.canLayAll0 (A.map tI) && decide (PyData.depthAll (A.map tI) + 1 ≤ 64)) = true
  have := dep_T A
  rw [lay_T]
  simp
  omega
theorem eqv_T (A : List (List Nat)) : ∀ B, PyData.eqvAll (A.map tI) (B.map tI) = decide (A = B) := by
  induction A with
  | nil => intro B; cases B <;> simp [PyData.eqvAll]
  | cons x r ih =>
    intro B
    cases B with
    | nil => simp [PyData.eqvAll]
    | cons y s =>
      show (PyData.eqvAll (intL x) (intL y) && PyData.eqvAll (r.map tI) (s.map tI)) = _
      rw [eqv_intL, ih]
      by_cases h1 : x = y <;> by_cases h2 : r = s <;> simp [h1, h2]
theorem eqP_T (A B : List (List Nat)) : eqP (.tuple (A.map tI)) (.tuple (B.map tI)) = some (decide (A = B)) := by
  unfold eqP
  rw [shaped_T, shaped_T, if_pos (by simp)]
  show some (PyData.eqvAll (A.map tI) (B.map tI)) = _
  rw [eqv_T]
theorem intL_inj {a b : List Nat} (h : intL a = intL b) : a = b := by
  have := eqv_intL a b
  rw [h, eqv_intL] at this
  simpa using this
theorem of_map {α β : Type} {f g : α → β} {l : List α} (h : l.map f = l.map g) {x : α} (hx : x ∈ l) : f x = g x := by
  induction l with
  | nil => cases hx
  | cons y r ih =>
    injection h with h1 h2
    rcases List.mem_cons.mp hx with e | e
    · subst e; exact h1
    · exact ih h2 e
section
variable {m : Nat} {r : List Nat}
theorem row_ok (hm : sm4 m) (hr : r ∈ ordsL m) : r.length = m ∧ (∀ x ∈ r, x < m) ∧ dnsB r = true ∧ tabOk m (tabF r) = true := by
  have h := List.all_eq_true.mp rows_all m (by obtain ⟨a, b⟩ := hm; simp; omega)
  have h := List.all_eq_true.mp h r hr
  unfold rowOk at h
  rw [Bool.and_eq_true, Bool.and_eq_true, Bool.and_eq_true] at h
  obtain ⟨h1, h2, h3, h4⟩ := h
  exact ⟨of_decide_eq_true h1, fun x hx => of_decide_eq_true (List.all_eq_true.mp h2 x hx), h3, h4⟩
theorem k_table (d : Nat) (S : Sto) (hm : sm4 m) (hr : r ∈ ordsL m) : pcallW (cf (d + 30)) 11 [.pv (tI r)] S = .ok (.pv (tabP r)) S := by
  refine pcE (ps := [tI r]) rfl rfl (T := []) ?_ S
  obtain ⟨h1, h2⟩ := hm
  match m, h1, h2, hr with
  | 1, _, _, hr => exact of_map (tabs_1 d) hr
  | 2, _, _, hr => exact of_map (tabs_2 d) hr
  | 3, _, _, hr => exact of_map (tabs_3 d) hr
  | 4, _, _, hr => exact of_map (tabs_4 d) hr
theorem k_law_table (d : Nat) (S : Sto) (hm : sm4 m) (hr : r ∈ ordsL m) : pcallW (cf (d + 30)) 35 [.pv (tI r)] S = .ok (.pv (tabP r)) S := by
  refine pcE (ps := [tI r]) rfl rfl (T := []) ?_ S
  obtain ⟨h1, h2⟩ := hm
  match m, h1, h2, hr with
  | 1, _, _, hr => exact of_map (ltab_1 d) hr
  | 2, _, _, hr => exact of_map (ltab_2 d) hr
  | 3, _, _, hr => exact of_map (ltab_3 d) hr
  | 4, _, _, hr => exact of_map (ltab_4 d) hr
theorem k_pairs (d : Nat) (S : Sto) (hm : sm4 m) (hr : r ∈ ordsL m) : pcallW (cf (d + 28)) 19 [.pv (.int m), .pv (tabP r)] S = .ok (.pv (tI r)) S := by
  obtain ⟨h1, h2⟩ := hm
  match m, h1, h2, hr with
  | 1, _, _, hr => exact of_map (pair_1 d S) hr
  | 2, _, _, hr => exact of_map (pair_2 d S) hr
  | 3, _, _, hr => exact of_map (pair_3 d S) hr
  | 4, _, _, hr => exact of_map (pair_4 d S) hr
theorem k_need_table (d : Nat) (S : Sto) (hm : sm4 m) (hr : r ∈ ordsL m) : pcallW (cf (d + 29)) 14 [.pv (.int m), .pv (tabP r)] S = .ok (.pv .none) S := by
  obtain ⟨h1, h2⟩ := hm
  match m, h1, h2, hr with
  | 1, _, _, hr => exact of_map (need_1 d S) hr
  | 2, _, _, hr => exact of_map (need_2 d S) hr
  | 3, _, _, hr => exact of_map (need_3 d S) hr
  | 4, _, _, hr => exact of_map (need_4 d S) hr
theorem k_back0 (d : Nat) (S : Sto) (hm : sm4 m) (hr : r ∈ ordsL m) : pcallW (cf (d + 30)) 20 [.pv (.int m), .pv (tabP r)] S = .ok (.pv (.tuple [.str sRanks, tI r])) S := by
  refine pcE (ps := [.int m, tabP r]) rfl rfl (T := []) ?_ S
  rw [runFn_eq rfl]
  have kf : ∀ S, pcallW (cf (d + 29)) 18 [.pv (.int m), .pv (tabP r)] S = .ok (.pv .none) S := fun S => k_first_break d m (tabF r) S hm (row_ok hm hr).2.2.2
  have kp : ∀ S, pcallW (cf (d + 29)) 19 [.pv (.int m), .pv (tabP r)] S = .ok (.pv (tI r)) S := fun S => k_pairs (d + 1) S hm hr
  generalize tabP r = t at kf kp
  simp -implicitDefEqProofs [f_ranks_of_table_of, i_ranks_of_table_of, startL, kf, kp, sRanks]
theorem k_back (d : Nat) (S : Sto) (hm : sm4 m) (hr : r ∈ ordsL m) : pcallW (cf (d + 31)) 21 [.pv (.int m), .pv (tabP r)] S = .ok (.pv (.tuple [.str sRanks, tI r])) S := by
  refine pcE (ps := [.int m, tabP r]) rfl rfl (T := []) ?_ S
  rw [runFn_eq rfl]
  have kf := fun S => k_need_table (d + 1) S hm hr
  have kp := fun S => k_back0 d S hm hr
  generalize tabP r = t at kf kp
  simp -implicitDefEqProofs [f_ranks_of_table, i_ranks_of_table, startL, kf, kp]
theorem tab_inj {s : List Nat} (hm : sm4 m) (hr : r ∈ ordsL m) (hs : s ∈ ordsL m) : decide (tabF r = tabF s) = decide (r = s) := by
  by_cases e : r = s
  · subst e; simp
  · have : tabF r ≠ tabF s := fun q => by
      have k1 := k_pairs 0 [] hm hr
      have k2 := k_pairs 0 [] hm hs
      rw [show tabP r = tabP s by unfold tabP; rw [q], k2] at k1
      injection k1 with k1
      injection k1 with k1
      injection k1 with k1
      exact e (intL_inj k1).symm
    simp [e, this]
theorem k_orders (d : Nat) (S : Sto) (hm : sm4 m) : pcallW (cf (d + 30)) 36 [.pv (.int m)] S = .ok (.pv (ordsP m)) S := by
  refine pcE (ps := [.int m]) rfl rfl (T := []) ?_ S
  obtain ⟨h1, h2⟩ := hm
  match m, h1, h2 with
  | 1, _, _ => exact ord_1 d
  | 2, _, _ => exact ord_2 d
  | 3, _, _ => exact ord_3 d
  | 4, _, _ => exact ord_4 d
theorem ord_len (hm : sm4 m) : (ordsL m).length = fubN m := by
  have h := List.all_eq_true.mp ords_all m (by obtain ⟨a, b⟩ := hm; simp; omega)
  unfold ordsB at h
  rw [Bool.and_eq_true] at h
  exact of_decide_eq_true h.1
theorem ord_row (hm : sm4 m) {i : Nat} (hi : i < fubN m) : Row m [] i ((ordsL m).getD i []) := by
  have h := List.all_eq_true.mp ords_all m (by obtain ⟨a, b⟩ := hm; simp; omega)
  unfold ordsB at h
  rw [Bool.and_eq_true] at h
  exact rowB_row _ _ _ (List.all_eq_true.mp h.2 i (List.mem_range.mpr hi))
end
theorem kept_str (d : Nat) (s : Str) (S : Sto) : pcallW (cf (d + 1)) 32 [.pv (.str s), .pv (.str s)] S = .ok (.pv (.bool true)) S := by
  refine pcE (ps := [.str s, .str s]) rfl rfl (T := []) ?_ S
  rw [runFn_eq rfl]
  simp -implicitDefEqProofs [f__law_kept, i__law_kept, startL]
theorem kept_tI (d : Nat) (r : List Nat) (S : Sto) (h : r.length ≤ 1000) : pcallW (cf (d + 2)) 32 [.pv (tI r), .pv (tI r)] S = .ok (.pv (.bool true)) S :=
  kept_tup d (intL r) S (fun x hx => by obtain ⟨k, _, rfl⟩ := List.mem_map.mp hx; exact ⟨_, rfl⟩) (by simp [intL]; omega)
theorem kept_rk (d : Nat) (r : List Nat) (S : Sto) (h : r.length ≤ 1000) : pcallW (cf (d + 3)) 32 [.pv (.tuple [.str sRanks, tI r]), .pv (.tuple [.str sRanks, tI r])] S = .ok (.pv (.bool true)) S := by
  refine pcE (ps := [.tuple [.str sRanks, tI r], .tuple [.str sRanks, tI r]]) rfl rfl (T := []) ?_ S
  rw [runFn_eq rfl]
  have g := lcGo_pure (turn := lcT (cf (d + 2)) (.nm 2) .nil e__law_kept_1 [2] [some (.pv (.tuple [.str sRanks, tI r])), some (.pv (.tuple [.str sRanks, tI r])), none]) (S := []) (fun _ => some (.bool true)) [.int 0, .int 1] (by
    intro x hx
    have k1 := fun S => kept_str (d + 1) sRanks S
    have k2 := fun S => kept_tI d r S h
    have i0 : idxL [PyData.str sRanks, tI r] 0 = some (.str sRanks) := rfl
    have i1 : idxL [PyData.str sRanks, tI r] 1 = some (tI r) := rfl
    generalize tI r = t at *
    generalize sRanks = s at *
    simp at hx
    rcases hx with rfl | rfl <;> simp -implicitDefEqProofs [e__law_kept_1, wipe, k1, k2, i0, i1])
  have it : items .rng1 [.pv (.int 2)] = some [.int 0, .int 1] := rfl
  have al : biP .all [.list [.bool true, .bool true]] = some (.bool true) := rfl
  simp at g
  generalize tI r = t at *
  simp -implicitDefEqProofs [f__law_kept, i__law_kept, startL, it, g, al]
end Lw
set_option Elab.async false
set_option linter.all false
set_option maxRecDepth 100000
set_option autoImplicit false
namespace Lw
open PySem Mi
theorem ix_ord {m k : Nat} (hm : sm4 m) (hk : k < fubN m) : ∃ r, r ∈ ordsL m ∧ Row m [] k r ∧ idxL ((ordsL m).map tI) (k : Int) = some (tI r) := by
  have ol := ord_len hm
  refine ⟨(ordsL m).getD k [], ?_, ord_row hm hk, ?_⟩
  · rw [List.getD_eq_getElem?_getD, List.getElem?_eq_getElem (by omega)]
    exact List.getElem_mem _
  · rw [idxL_nat _ _ (by simp; omega)]
    have : k < (ordsL m).length := by omega
    simp [List.getD_eq_getElem?_getD, this]
theorem fub_pos : ∀ m, m < 9 → 0 < fubN m ∧ fubN m < 1000000 := by decide +kernel
theorem turn_ok (d m : Nat) (ns : List Int) (hm : sm4 m) (t : P) (h : Hd) (x4 x5 x6 x7 x8 x9 x10 : Option W) : ∃ (y4 y6 y9 y10 : Option W) (h' : Hd), turnOf (cf (d + 32)) (.nm 4) b_law_5 t [some (.sc ns), some (.rf 0), some (.pv (.int m)), some (.pv (ordsP m)), x4, x5, x6, x7, x8, x9, x10] [h.o] = .nx [some (.sc ns), some (.rf 0), some (.pv (.int m)), some (.pv (ordsP m)), y4, x5, y6, x7, x8, y9, y10] [h'.o] := by
  have m8 : m < 9 := by have := hm.2; omega
  have om : okM m := ⟨hm.1, by have := hm.2; omega⟩
  obtain ⟨fp, fl⟩ := fub_pos m m8
  obtain ⟨k, hk, h1, e1⟩ := draw0 (d + 31) (fubN m) h fp (by omega)
  obtain ⟨r, hr, tr, ir⟩ := ix_ord hm hk
  obtain ⟨r1, r2, r3, _⟩ := row_ok hm hr
  have ln : ((ordsL m).map tI).length = fubN m := by rw [List.length_map, ord_len hm]
  have ko : ∀ S, pcallW (cf (d + 32)) 27 [.pv (.int m), .pv (.int (k : Nat))] S = .ok (.pv (tI r)) S := fun S => k_order_at (d + 28) m k r S om hk tr
  have kn : ∀ S, pcallW (cf (d + 32)) 28 [.pv (tI r)] S = .ok (.pv (.int (k : Nat))) S := fun S => k_order_number (d + 28) r k S (by rw [r1]; exact om) (by rw [r1]; exact r2) r3 (by rw [r1]; exact tr)
  have rl : r.length ≤ 1000 := by omega
  have kk : ∀ S, pcallW (cf (d + 32)) 32 [.pv (tI r), .pv (tI r)] S = .ok (.pv (.bool true)) S := fun S => kept_tI (d + 30) r S rl
  have ki : ∀ S, pcallW (cf (d + 32)) 32 [.pv (.int (k : Nat)), .pv (.int (k : Nat))] S = .ok (.pv (.bool true)) S := fun S => kept_int (d + 31) k S
  have kr : ∀ S, pcallW (cf (d + 32)) 32 [.pv (.tuple [.str sRanks, tI r]), .pv (.tuple [.str sRanks, tI r])] S = .ok (.pv (.bool true)) S := fun S => kept_rk (d + 29) r S rl
  have kt : ∀ S, pcallW (cf (d + 32)) 11 [.pv (tI r)] S = .ok (.pv (tabP r)) S := fun S => k_table (d + 2) S hm hr
  have kl : ∀ S, pcallW (cf (d + 32)) 35 [.pv (tI r)] S = .ok (.pv (tabP r)) S := fun S => k_law_table (d + 2) S hm hr
  have kb : ∀ S, pcallW (cf (d + 32)) 21 [.pv (.int m), .pv (tabP r)] S = .ok (.pv (.tuple [.str sRanks, tI r])) S := fun S => k_back (d + 1) S hm hr
  obtain ⟨p, hp, h2, e2⟩ := some0 (d + 30) ((ordsL m).map tI) h1 (by intro q; rw [q] at ln; simp at ln; omega) (by omega)
  obtain ⟨s, hs, rfl⟩ := List.mem_map.mp hp
  have ks : ∀ S, pcallW (cf (d + 32)) 11 [.pv (tI s)] S = .ok (.pv (tabP s)) S := fun S => k_table (d + 2) S hm hs
  have q1 : eqP (tabP r) (tabP r) = some true := by rw [eqP_T]; simp
  have q2 : eqP (tabP s) (tabP r) = some (decide (s = r)) := by rw [eqP_T, tab_inj hm hs hr]
  have q3 : eqP (tI s) (tI r) = some (decide (s = r)) := eqP_tI s r
  generalize decide (s = r) = b at q2 q3
  have q4 : eqP (.bool b) (.bool b) = some true := by cases b <;> rfl
  unfold ordsP
  generalize (ordsL m).map tI = L at e2 ir ln
  generalize tabP r = tr at *
  generalize tabP s = ts at *
  generalize tI s = us at *
  generalize tI r = ur at *
  refine ⟨some (.pv t), some (.pv (.int (k : Nat))), some (.pv tr), some (.pv us), h2, ?_⟩
  simp -implicitDefEqProofs [b_law_5, ln, e1, ir, ko, kn, kk, ki, kr, kt, kl, kb, e2, ks, q1, q2, q3, q4]
end Lw
set_option Elab.async false
set_option linter.all false
set_option maxRecDepth 1000000
set_option maxHeartbeats 0
set_option autoImplicit false
namespace Lw
open PySem Mi
abbrev sCount : P := .list [.str ⟨#[99, 111, 117, 110, 116]⟩]
abbrev sNumber : P := .list [.str ⟨#[110, 117, 109, 98, 101, 114]⟩]
abbrev sRank2 : P := .list [.str ⟨#[114, 97, 110, 107, 115]⟩]
def bads1 : List P := [.int 0, .int 9, .int (-1), .none, .bool true, .str ⟨#[51]⟩]
def bads2 (z : Nat) : List P := [.int (-1), .int (fubN z : Nat), .none, .bool true, .str ⟨#[48]⟩]
def bads3 : List P := [.none, .tuple [], .tuple [.int 1], .tuple [.int 0, .int 2], .list [.int 0], .tuple [.int 0, .int 0, .int 0, .int 0, .int 0, .int 0, .int 0, .int 0, .int 0], .tuple [.none], .tuple [.int (-1), .int 0], .str ⟨#[48]⟩]
theorem ref0 (d : Nat) (S : Sto) : (bads1.map fun p => pcallW (cf (d + 32)) 37 [.pv (.int 0), .pv p, .pv .none] S) = bads1.map fun _ => .ok (.pv sCount) S := by kernel_rfl
theorem ref1 (d : Nat) (S : Sto) : (bads1.map fun p => pcallW (cf (d + 32)) 37 [.pv (.int 1), .pv p, .pv .none] S) = bads1.map fun _ => .ok (.pv sCount) S := by kernel_rfl
theorem ref2_5 (d : Nat) (S : Sto) : ((bads2 5).map fun p => pcallW (cf (d + 32)) 37 [.pv (.int 1), .pv (.int 5), .pv p] S) = (bads2 5).map fun _ => .ok (.pv sNumber) S := by kernel_rfl
theorem ref2_6 (d : Nat) (S : Sto) : ((bads2 6).map fun p => pcallW (cf (d + 32)) 37 [.pv (.int 1), .pv (.int 6), .pv p] S) = (bads2 6).map fun _ => .ok (.pv sNumber) S := by kernel_rfl
theorem ref2_7 (d : Nat) (S : Sto) : ((bads2 7).map fun p => pcallW (cf (d + 32)) 37 [.pv (.int 1), .pv (.int 7), .pv p] S) = (bads2 7).map fun _ => .ok (.pv sNumber) S := by kernel_rfl
theorem ref2_8 (d : Nat) (S : Sto) : ((bads2 8).map fun p => pcallW (cf (d + 32)) 37 [.pv (.int 1), .pv (.int 8), .pv p] S) = (bads2 8).map fun _ => .ok (.pv sNumber) S := by kernel_rfl
theorem ref3 (d : Nat) (S : Sto) : (bads3.map fun p => pcallW (cf (d + 32)) 37 [.pv (.int 2), .pv p, .pv .none] S) = bads3.map fun _ => .ok (.pv sRank2) S := by kernel_rfl
theorem ref2 (d z : Nat) (S : Sto) (h5 : 5 ≤ z) (h8 : z ≤ 8) {p : P} (hp : p ∈ bads2 z) : pcallW (cf (d + 32)) 37 [.pv (.int 1), .pv (.int z), .pv p] S = .ok (.pv sNumber) S := by
  have : z = 5 ∨ z = 6 ∨ z = 7 ∨ z = 8 := by omega
  rcases this with rfl | rfl | rfl | rfl
  · exact of_map (ref2_5 d S) hp
  · exact of_map (ref2_6 d S) hp
  · exact of_map (ref2_7 d S) hp
  · exact of_map (ref2_8 d S) hp
/-! the loops over what is none -/
section
variable (d : Nat) (x0 x1 x2 x3 x4 x5 x6 x7 x9 x10 : Option W) (S : Sto)
theorem loop1 (x8 : Option W) : ∃ y8, forGo (turnOf (cf (d + 32)) (.nm 8) b_law_3) bads1 [x0, x1, x2, x3, x4, x5, x6, x7, x8, x9, x10] S = .nx [x0, x1, x2, x3, x4, x5, x6, x7, y8, x9, x10] S := by
  obtain ⟨l, ⟨y8, rfl⟩, e⟩ := forGo_inv (turn := turnOf (cf (d + 32)) (.nm 8) b_law_3) id (fun l => ∃ x8, l = [x0, x1, x2, x3, x4, x5, x6, x7, x8, x9, x10]) S bads1 [x0, x1, x2, x3, x4, x5, x6, x7, x8, x9, x10] ⟨x8, rfl⟩ (by
    rintro p hp l ⟨w, rfl⟩
    have k0 : ∀ S, pcallW (cf (d + 32)) 37 [.pv (.int 0), .pv p, .pv .none] S = .ok (.pv sCount) S := fun S => of_map (ref0 d S) hp
    have k1 : ∀ S, pcallW (cf (d + 32)) 37 [.pv (.int 1), .pv p, .pv .none] S = .ok (.pv sCount) S := fun S => of_map (ref1 d S) hp
    have q : eqP sCount sCount = some true := by kernel_rfl
    refine ⟨_, ⟨some (.pv p), rfl⟩, ?_⟩
    simp -implicitDefEqProofs [b_law_3, k0, k1, q])
  rw [List.map_id] at e
  exact ⟨y8, e⟩
theorem loop2 (z : Nat) (h5 : 5 ≤ z) (h8 : z ≤ 8) (x8 : Option W) : ∃ y8, forGo (turnOf (cf (d + 32)) (.nm 8) b_law_2) (bads2 z) [x0, x1, x2, x3, x4, some (.pv (.int z)), x6, x7, x8, x9, x10] S = .nx [x0, x1, x2, x3, x4, some (.pv (.int z)), x6, x7, y8, x9, x10] S := by
  obtain ⟨l, ⟨y8, rfl⟩, e⟩ := forGo_inv (turn := turnOf (cf (d + 32)) (.nm 8) b_law_2) id (fun l => ∃ x8, l = [x0, x1, x2, x3, x4, some (.pv (.int z)), x6, x7, x8, x9, x10]) S (bads2 z) [x0, x1, x2, x3, x4, some (.pv (.int z)), x6, x7, x8, x9, x10] ⟨x8, rfl⟩ (by
    rintro p hp l ⟨w, rfl⟩
    have k0 : ∀ S, pcallW (cf (d + 32)) 37 [.pv (.int 1), .pv (.int z), .pv p] S = .ok (.pv sNumber) S := fun S => ref2 d z S h5 h8 hp
    have q : eqP sNumber sNumber = some true := by kernel_rfl
    refine ⟨_, ⟨some (.pv p), rfl⟩, ?_⟩
    simp -implicitDefEqProofs [b_law_2, k0, q])
  rw [List.map_id] at e
  exact ⟨y8, e⟩
theorem loop3 (x8 : Option W) : ∃ y8, forGo (turnOf (cf (d + 32)) (.nm 8) b_law_1) bads3 [x0, x1, x2, x3, x4, x5, x6, x7, x8, x9, x10] S = .nx [x0, x1, x2, x3, x4, x5, x6, x7, y8, x9, x10] S := by
  obtain ⟨l, ⟨y8, rfl⟩, e⟩ := forGo_inv (turn := turnOf (cf (d + 32)) (.nm 8) b_law_1) id (fun l => ∃ x8, l = [x0, x1, x2, x3, x4, x5, x6, x7, x8, x9, x10]) S bads3 [x0, x1, x2, x3, x4, x5, x6, x7, x8, x9, x10] ⟨x8, rfl⟩ (by
    rintro p hp l ⟨w, rfl⟩
    have k0 : ∀ S, pcallW (cf (d + 32)) 37 [.pv (.int 2), .pv p, .pv .none] S = .ok (.pv sRank2) S := fun S => of_map (ref3 d S) hp
    have q : eqP sRank2 sRank2 = some true := by kernel_rfl
    refine ⟨_, ⟨some (.pv p), rfl⟩, ?_⟩
    simp -implicitDefEqProofs [b_law_1, k0, q])
  rw [List.map_id] at e
  exact ⟨y8, e⟩
end
end Lw
set_option Elab.async false
set_option linter.all false
set_option maxRecDepth 100000
set_option autoImplicit false
namespace Lw
open PySem Mi
theorem turns_ok (d m : Nat) (ns : List Int) (hm : sm4 m) : ∀ (ts : List P) (h : Hd) (x4 x5 x6 x7 x8 x9 x10 : Option W), ∃ (y4 y6 y9 y10 : Option W) (h' : Hd), forGo (turnOf (cf (d + 32)) (.nm 4) b_law_5) ts [some (.sc ns), some (.rf 0), some (.pv (.int m)), some (.pv (ordsP m)), x4, x5, x6, x7, x8, x9, x10] [h.o] = .nx [some (.sc ns), some (.rf 0), some (.pv (.int m)), some (.pv (ordsP m)), y4, x5, y6, x7, x8, y9, y10] [h'.o] := by
  intro ts
  induction ts with
  | nil => intro h x4 x5 x6 x7 x8 x9 x10; exact ⟨x4, x6, x9, x10, h, rfl⟩
  | cons t r ih =>
    intro h x4 x5 x6 x7 x8 x9 x10
    obtain ⟨y4, y6, y9, y10, h1, e⟩ := turn_ok d m ns hm t h x4 x5 x6 x7 x8 x9 x10
    obtain ⟨z4, z6, z9, z10, h2, e2⟩ := ih h1 y4 x5 y6 x7 x8 y9 y10
    exact ⟨z4, z6, z9, z10, h2, (forGo_nx e).trans e2⟩
theorem usort_dns {row : List Nat} (h : dnsB row = true) (h0 : row ≠ []) : usort (castL row) = castL (List.range (mxF row + 1)) := by
  refine up_ext _ _ (up_usort _) (castL_range_up _) fun x => ?_
  rw [mem_usort, castL_mem, castL_mem]
  constructor
  · rintro ⟨k, h1, h2⟩
    exact ⟨k, List.mem_range.mpr ((dns_mem h h0 k).mp h1), h2⟩
  · rintro ⟨k, h1, h2⟩
    exact ⟨k, (dns_mem h h0 k).mpr (List.mem_range.mp h1), h2⟩
theorem sset_dns {row : List Nat} (h : dnsB row = true) (h0 : row ≠ []) (hl : row.length ≤ 9) (S : Sto) : biW .sortedset [.pv (tI row)] S = .ok (.pv (.list (intL (List.range (mxF row + 1))))) S := by
  show retP ((intsOf (intL row)).bind fun ns => if ns.length < 64 then some (.list ((usort ns).map PyData.int)) else none) S = _
  rw [ints_int]
  show retP (if (castL row).length < 64 then some (.list ((usort (castL row)).map PyData.int)) else none) S = _
  rw [if_pos (by simp [castL]; omega), usort_dns h h0, castL_int]
  rfl
theorem max_row (x : Nat) (r : List Nat) : biP .max [.tuple (intL (x :: r))] = some (.int (mxF (x :: r) : Nat)) := by
  show (intsOf (intL (x :: r))).bind _ = _
  rw [ints_int]
  show some (PyData.int (maxL (x : Int) (castL r))) = _
  rw [maxL_mx]
  rfl
theorem rngW_nat (k : Bool) (m : Nat) (S : Sto) (h : m ≤ 16777216) : rngW k [.pv (.int (m : Nat))] S = .ok (.pv (if k then .tuple (intL (List.range m)) else .list (intL (List.range m)))) S := by
  show (if _ then _ else _) = _
  rw [if_pos ⟨by omega, by show _ ≤ ((16777216 : Nat) : Int); omega⟩, Int.toNat_natCast, rngL0]
  rfl
theorem lt_tI (a b : List Nat) : ltP (tI a) (tI b) = some (HT.lexLt (iL a) (iL b)) := by
  show (intsOf (intL a)).bind (fun ns => (intsOf (intL b)).map fun ms => HT.lexLt ns ms) = _
  rw [ints_int, ints_int]
  rfl
theorem row_all {z : Nat} (h1 : 1 ≤ z) (h8 : z ≤ 8) {n : Nat} (hn : n < fubN z) : ∃ R, Row z [] n R ∧ R.length = z ∧ (∀ x ∈ R, x < z) ∧ dnsB R = true := by
  have mt := mw_top z (by omega) (by omega)
  have hn' : (n : Int) < mwF z [] := by
    rw [mt]
    show (n : Int) < ((fub.getD z 0 : Nat) : Int)
    have : fubN z = fub.getD z 0 := rfl
    omega
  obtain ⟨R, t⟩ := row_ex h8 (by omega) z [] n (by simp) (fun x hx => by cases hx) (by omega) hn'
  exact ⟨R, t, (row_len t).1, row_lt t (fun x hx => by cases hx), row_dense h8 (by omega) t (fun x hx => by cases hx) hn'⟩
abbrev cnt8 : P := .list [.int 1, .int 3, .int 13, .int 75, .int 541, .int 4683, .int 47293, .int 545835]
theorem cnts (d : Nat) (x0 x1 x2 x3 x4 x5 x6 x7 x8 x9 x10 : Option W) (S : Sto) : lcGo (lcT (cf (d + 32)) (.nm 5) .nil e_law_4 [5] [x0, x1, x2, x3, x4, x5, x6, x7, x8, x9, x10]) (rngL 1 8) S = .ok [.int 1, .int 3, .int 13, .int 75, .int 541, .int 4683, .int 47293, .int 545835] S := by
  have g := lcGo_all (turn := lcT (cf (d + 32)) (.nm 5) .nil e_law_4 [5] [x0, x1, x2, x3, x4, x5, x6, x7, x8, x9, x10]) (S := S) (fun j : Nat => PyData.int (j : Int)) (fun j : Nat => PyData.int (fubN j : Nat)) (List.range' 1 8) (by
    intro x hx
    have hx := List.mem_range'_1.mp hx
    have k : ∀ S, pcallW (cf (d + 32)) 24 [.pv (.int (x : Nat))] S = .ok (.pv (.int (fubN x : Nat))) S := fun S => k_many_orders (d + 28) x S ⟨by omega, by omega⟩
    simp -implicitDefEqProofs [e_law_4, wipe, k])
  exact g
theorem law_run (d : Nat) (ns : List Int) : ∃ S, runFn (cf (d + 32)) f_law [.sc ns] [] = .ok (.pv (.bool true)) S := by
  obtain ⟨h, e⟩ := k_hand (d + 31) ns
  obtain ⟨a, ha, h1, e1⟩ := draw0 (d + 31) 4 h (by decide) (by decide)
  have e : gcallW (cf (d + 32)) 29 [.sc ns] [] = .ok (.rf 0) [h.o] := e
  have e1 : hcallW (cf (d + 32)) 30 [.rf 0, .pv (.int 4)] [h.o] = .ok (.pv (.int (a : Nat))) [h1.o] := e1
  obtain ⟨m, hm⟩ : ∃ m, m = 1 + a := ⟨_, rfl⟩
  have em : (1 : Int) + (a : Nat) = (m : Nat) := by omega
  have s4 : sm4 m := ⟨by omega, by omega⟩
  have om : okM m := ⟨by omega, by omega⟩
  have ko : ∀ S, pcallW (cf (d + 32)) 36 [.pv (.int m)] S = .ok (.pv (ordsP m)) S := fun S => k_orders (d + 2) S s4
  have kc : ∀ S, pcallW (cf (d + 32)) 24 [.pv (.int m)] S = .ok (.pv (.int (fubN m : Nat))) S := fun S => k_many_orders (d + 28) m S om
  have ki : ∀ (i : Int) S, pcallW (cf (d + 32)) 32 [.pv (.int i), .pv (.int i)] S = .ok (.pv (.bool true)) S := fun i S => kept_int (d + 31) i S
  have ln : ((ordsL m).map tI).length = fubN m := by rw [List.length_map, ord_len s4]
  obtain ⟨y4, y6, y9, y10, h2, e2⟩ := turns_ok d m ns s4 (rngL 0 6) h1 none none none none none none none
  have it6 : items .rng1 [.pv (.int 6)] = some (rngL 0 6) := rfl
  have it9 : items .rng2 [.pv (.int 1), .pv (.int 9)] = some (rngL 1 8) := rfl
  have c8 := cnts d (some (.sc ns)) (some (.rf 0)) (some (.pv (.int m))) (some (.pv (ordsP m))) y4 none y6 none none y9 y10 [h2.o]
  have q8 : eqP (.list [.int 1, .int 3, .int 13, .int 75, .int 541, .int 4683, .int 47293, .int 545835]) (.list [.int 1, .int 3, .int 13, .int 75, .int 541, .int 4683, .int 47293, .int 545835]) = some true := by kernel_rfl
  obtain ⟨b, hb, h3, e3⟩ := draw0 (d + 31) 4 h2 (by decide) (by decide)
  have e3 : hcallW (cf (d + 32)) 30 [.rf 0, .pv (.int 4)] [h2.o] = .ok (.pv (.int (b : Nat))) [h3.o] := e3
  obtain ⟨z, hz⟩ : ∃ z, z = 5 + b := ⟨_, rfl⟩
  have ez : (5 : Int) + (b : Nat) = (z : Nat) := by omega
  have oz : okM z := ⟨by omega, by omega⟩
  have z5 : 5 ≤ z := by omega
  have z8 : z ≤ 8 := by omega
  have kz : ∀ S, pcallW (cf (d + 32)) 24 [.pv (.int z)] S = .ok (.pv (.int (fubN z : Nat))) S := fun S => k_many_orders (d + 28) z S oz
  obtain ⟨fp, fl⟩ := fub_pos z (by omega)
  obtain ⟨n, hn, h4, e4⟩ := draw0 (d + 31) (fubN z) h3 fp (by omega)
  have e4 : hcallW (cf (d + 32)) 30 [.rf 0, .pv (.int (fubN z : Nat))] [h3.o] = .ok (.pv (.int (n : Nat))) [h4.o] := e4
  obtain ⟨R, tR, rl, rb, rd⟩ := row_all oz.1 z8 hn
  have r0 : R ≠ [] := by intro q; rw [q] at rl; simp at rl; omega
  have kr : ∀ S, pcallW (cf (d + 32)) 27 [.pv (.int z), .pv (.int (n : Nat))] S = .ok (.pv (tI R)) S := fun S => k_order_at (d + 28) z n R S oz hn tR
  have kn : ∀ S, pcallW (cf (d + 32)) 28 [.pv (tI R)] S = .ok (.pv (.int (n : Nat))) S := fun S => k_order_number (d + 28) R n S (by rw [rl]; exact oz) (by rw [rl]; exact rb) rd (by rw [rl]; exact tR)
  have lR : (intL R).length = z := by simp [intL, rl]
  have ss := fun S => sset_dns rd r0 (by omega) S
  have mxR : biP .max [.tuple (intL R)] = some (.int (mxF R : Nat)) := by
    cases R with
    | nil => exact absurd rfl r0
    | cons x r => exact max_row x r
  have mxl : mxF R < 1000 := mx_lt (by omega) rb
  have rg : ∀ S, rngW false [.pv (.int ((mxF R : Nat) + 1))] S = .ok (.pv (.list (intL (List.range (mxF R + 1))))) S := fun S => rngW_nat false (mxF R + 1) S (by omega)
  have qr : eqP (.list (intL (List.range (mxF R + 1)))) (.list (intL (List.range (mxF R + 1)))) = some true := by
    have hh := shaped_intL (List.range (mxF R + 1))
    unfold eqP
    rw [show SeqAt.shaped (.list (intL (List.range (mxF R + 1)))) = true from hh, if_pos (by simp)]
    show some (PyData.eqvAll _ _) = _
    rw [eqv_intL]
    simp
  generalize hRG : intL (List.range (mxF R + 1)) = RG at ss rg qr
  obtain ⟨w1, l1⟩ := loop1 d (some (.sc ns)) (some (.rf 0)) (some (.pv (.int m))) (some (.pv (ordsP m))) y4 (some (.pv (.int z))) (some (.pv (.int (n : Nat)))) (some (.pv (tI R))) y9 y10 [h4.o] none
  obtain ⟨w2, l2⟩ := loop2 d (some (.sc ns)) (some (.rf 0)) (some (.pv (.int m))) (some (.pv (ordsP m))) y4 (some (.pv (.int (n : Nat)))) (some (.pv (tI R))) y9 y10 [h4.o] z z5 z8 w1
  obtain ⟨w3, l3⟩ := loop3 d (some (.sc ns)) (some (.rf 0)) (some (.pv (.int m))) (some (.pv (ordsP m))) y4 (some (.pv (.int z))) (some (.pv (.int (n : Nat)))) (some (.pv (tI R))) y9 y10 [h4.o] w2
  have iq : ∀ xs, items .seq [.pv (.list xs)] = some xs := fun _ => rfl
  have mu : binop .Mult (.tuple [.int 0]) (.int 9) = some (.tuple [.int 0, .int 0, .int 0, .int 0, .int 0, .int 0, .int 0, .int 0, .int 0]) := rfl
  unfold bads1 at l1
  unfold bads2 at l2
  unfold bads3 at l3
  refine ⟨[h4.o], ?_⟩
  rw [runFn_eq rfl]
  unfold ordsP at *
  generalize (ordsL m).map tI = L at *
  by_cases n0 : 0 < n
  · have n0' : (0 : Int) < (n : Nat) := by omega
    obtain ⟨R', tR', _, _, _⟩ := row_all oz.1 z8 (show n - 1 < fubN z by omega)
    have kp : ∀ S, pcallW (cf (d + 32)) 27 [.pv (.int z), .pv (.int ((n : Nat) - 1))] S = .ok (.pv (tI R')) S := fun S => by
      have := k_order_at (d + 28) z (n - 1) R' S oz (by omega) tR'
      rwa [show ((n - 1 : Nat) : Int) = (n : Nat) - 1 by omega] at this
    have lt : cmpP .Lt (tI R') (tI R) = some true := by
      show ltP (tI R') (tI R) = _
      rw [lt_tI, row_mono z8 tR' tR (fun x hx => by cases hx) (by omega)]
    simp -implicitDefEqProofs [f_law, i_law, startL, e, e1, em, ko, kc, ki, ln, it6, e2, it9, c8, q8, e3, ez, kz, e4, kr, kn, lR, ss, mxR, rg, qr, iq, mu, l1, l2, l3, n0', n0, kp, lt]
  · have n0' : ¬ (0 : Int) < (n : Nat) := by omega
    have n00 : n = 0 := by omega
    simp -implicitDefEqProofs [f_law, i_law, startL, e, e1, em, ko, kc, ki, ln, it6, e2, it9, c8, q8, e3, ez, kz, e4, kr, kn, lR, ss, mxR, rg, qr, iq, mu, l1, l2, l3, n0', n0]
theorem law_true (ns : List Int) : ∃ S, run fns sb FU 63 38 [.sc ns] [] = .ok (.pv (.bool true)) S := by
  show ∃ S, rn 63 38 [.sc ns] [] = _
  obtain ⟨S, e⟩ := law_run 30 ns
  exact ⟨S, (rn_at rfl).trans e⟩
end Lw
set_option Elab.async false
set_option linter.all false
set_option maxRecDepth 100000
set_option maxHeartbeats 0
set_option autoImplicit false
namespace Lw
open PySem PySem.Spec Mi
abbrev R : PySem.W.OpenRow := PySem.W.OpenLaw.row PySem.Challenge.rw_mindsrevised_k52_whole_orders_counted
abbrev top (i : Nat) : Stmt := PySem.Challenge.pw_mindsrevised_k52_whole_orders_counted.main.body.getD i (.Pass ⟨0, 0, 0, 0⟩)
def ds : List He.DefD := [dOf (top 7), dOf (top 8), dOf (top 11), dOf (top 12), dOf (top 13), dOf (top 14), dOf (top 15), dOf (top 16), dOf (top 17), dOf (top 18), dOf (top 19), dOf (top 20), dOf (top 21), dOf (top 22), dOf (top 23), dOf (top 24), dOf (top 25), dOf (top 26), dOf (top 27), dOf (top 28), dOf (top 29), dOf (top 30), dOf (top 31), dOf (top 32), dOf (top 33), dOf (top 34), dOf (top 35), dOf (top 36), dOf (top 37), dOf (top 39), dOf (top 40), dOf (top 41), dOf (top 42), dOf (top 43), dOf (top 44), dOf (top 45), dOf (top 46), dOf (top 47), dOf (top 48)]
def M : Tab := ⟨fns, cs, fr, xs⟩
def nm0 : List Str := [⟨#[77, 105, 110, 100, 69, 114, 114, 111, 114]⟩, ⟨#[78, 111, 67, 111, 117, 110, 116]⟩, ⟨#[78, 111, 78, 117, 109, 98, 101, 114]⟩, ⟨#[78, 111, 82, 97, 110, 107, 115]⟩, ⟨#[78, 111, 84, 97, 98, 108, 101]⟩, ⟨#[105, 115, 95, 105, 110, 116, 101, 103, 101, 114]⟩, ⟨#[105, 115, 95, 98, 101, 116, 119, 101, 101, 110]⟩, ⟨#[77, 79, 83, 84, 95, 87, 79, 82, 76, 68, 83]⟩, ⟨#[110, 101, 101, 100, 95, 99, 111, 117, 110, 116]⟩, ⟨#[98, 105, 116, 115, 95, 111, 102]⟩, ⟨#[108, 111, 116, 95, 97, 116]⟩, ⟨#[108, 111, 116, 115, 95, 111, 102]⟩, ⟨#[97, 114, 101, 95, 114, 97, 110, 107, 115]⟩, ⟨#[110, 101, 101, 100, 95, 114, 97, 110, 107, 115]⟩, ⟨#[108, 101, 97, 115, 116, 95, 111, 102]⟩, ⟨#[100, 101, 110, 115, 101, 95, 111, 102]⟩, ⟨#[116, 97, 98, 108, 101, 95, 111, 102]⟩, ⟨#[116, 97, 98, 108, 101, 95, 111, 102, 95, 114, 97, 110, 107, 115]⟩, ⟨#[105, 115, 95, 119, 111, 114, 108, 100, 95, 108, 111, 116]⟩, ⟨#[105, 115, 95, 116, 97, 98, 108, 101, 95, 111, 102]⟩, ⟨#[110, 101, 101, 100, 95, 116, 97, 98, 108, 101]⟩, ⟨#[109, 101, 101, 116]⟩, ⟨#[105, 115, 95, 119, 105, 116, 104, 105, 110]⟩, ⟨#[105, 115, 95, 99, 104, 111, 105, 99, 101, 95, 98, 114, 111, 107, 101, 110]⟩, ⟨#[102, 105, 114, 115, 116, 95, 98, 114, 101, 97, 107]⟩, ⟨#[114, 97, 110, 107, 115, 95, 98, 121, 95, 112, 97, 105, 114, 115]⟩, ⟨#[114, 97, 110, 107, 115, 95, 111, 102, 95, 116, 97, 98, 108, 101, 95, 111, 102]⟩, ⟨#[114, 97, 110, 107, 115, 95, 111, 102, 95, 116, 97, 98, 108, 101]⟩, ⟨#[99, 104, 111, 111, 115, 101]⟩, ⟨#[111, 114, 100, 101, 114, 115, 95, 117, 112, 116, 111]⟩]
def nm1 : List Str := [⟨#[109, 97, 110, 121, 95, 111, 114, 100, 101, 114, 115]⟩, ⟨#[109, 97, 110, 121, 95, 119, 105, 116, 104]⟩, ⟨#[111, 110, 116, 111]⟩, ⟨#[111, 114, 100, 101, 114, 95, 97, 116]⟩, ⟨#[111, 114, 100, 101, 114, 95, 110, 117, 109, 98, 101, 114]⟩, ⟨#[95, 108, 97, 119, 95, 104, 97, 110, 100]⟩, ⟨#[95, 108, 97, 119, 95, 100, 114, 97, 119]⟩, ⟨#[95, 108, 97, 119, 95, 115, 111, 109, 101]⟩, ⟨#[95, 108, 97, 119, 95, 107, 101, 112, 116]⟩, ⟨#[95, 108, 97, 119, 95, 108, 101, 97, 115, 116]⟩, ⟨#[95, 108, 97, 119, 95, 97, 108, 108, 95, 108, 111, 116, 115]⟩, ⟨#[95, 108, 97, 119, 95, 116, 97, 98, 108, 101]⟩, ⟨#[95, 108, 97, 119, 95, 111, 114, 100, 101, 114, 115]⟩, ⟨#[95, 108, 97, 119, 95, 114, 101, 102, 117, 115, 97, 108]⟩]
def loose : List Str := nm0 ++ nm1
theorem chk : chkAll M M.fns ds = true := by decide +kernel
abbrev hk : PySem.W.Hook := hookM 4 cs (faOf M exT) ds
def ob (s : PySem.W.SharedT) : AlM := obsMG 4 cs (faOf M exT) ds (HandSHeadRun.getT s)
theorem ob_eq (s : PySem.W.SharedT) : ob s = hk.obs s.abs := obsMG_eq (HandSHeadRun.getT_eq s)
theorem run (w : World) : HandSHeadRun.RunEq R (PySem.W.view R.prog [48]) hk ob 4000 loose w := by
  intro os
  kernel_rfl
end Lw
/-! the end -/
open PySem PySem.W PySem.Calls PyProof.Rows
set_option Elab.async false
set_option maxRecDepth 100000 in
set_option maxHeartbeats 0 in
theorem PySem.Challenge.cw_mindsrevised_k52_whole_orders_counted_holds : PySem.Challenge.rw_mindsrevised_k52_whole_orders_counted.Holds := by
  w_on; o_law
  refine HandSHeadRun.head_any (r := OpenLaw.row PySem.Challenge.rw_mindsrevised_k52_whole_orders_counted) (q := view (OpenLaw.row PySem.Challenge.rw_mindsrevised_k52_whole_orders_counted).prog [48]) (H := Lw.hk) (ob := Lw.ob) (M := 4000) (loose := Lw.loose) (d := HandSHeadRun.topDef (OpenLaw.row PySem.Challenge.rw_mindsrevised_k52_whole_orders_counted).prog 48) (kwd := []) Lw.ob_eq
    (by kernel_rfl) (fun s => by kernel_rfl) Lw.run (by kernel_rfl) (by kernel_rfl) (by kernel_rfl) (by rfl) (by first | assumption | decide +kernel) (by decide +kernel) ⟨rfl, rfl, rfl, rfl, rfl, by decide +kernel⟩ ?hw ?hc
  case hw => w_witness2
  case hc =>
    refine L2.walk_ofE (l := PySem.Challenge.rw_mindsrevised_k52_whole_orders_counted) (n := 63) (k := 63) (x := ("script" : PySem.Str)) (CX := L2.CX0) rfl (by decide) (by kernel_rfl) ⟨rfl, by decide, by decide⟩ ?F (fun _ _ _ _ z => z)
    intro w mg fa h Y G hmg0
    obtain ⟨K, KX, c⟩ := Y
    have hmg : mg Lw.f_law.name = some (.ref fa) := by
      have e : (HandSHeadRun.topDef (OpenLaw.row PySem.Challenge.rw_mindsrevised_k52_whole_orders_counted).prog 48).name = Lw.f_law.name := by kernel_rfl
      rw [← e]
      exact hmg0
    exact Mi.ends (M := Lw.M) (ex := Lw.exT) (ds := Lw.ds) (f := 38) (fn := Lw.f_law) Lw.FU 63 63 KX G c Lw.chk rfl rfl hmg (fun ns _ => Lw.law_true ns)
