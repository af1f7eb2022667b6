import PyProof.Rows.All
import Wide.All
import OpenK.AllK
import Wide.FinOn
import HandS.ForMost
import HandS.ForExc
import HandS.TupAny
import HandS.TupMul
import HandS.Flow
import HandS.Zip
import HandS.IsInst
import HandS.Conv
import HandS.Style
import HandS.SetFor
import HandS.Strs
import HandS.SortInts
import HandS.TryMany
import HandS.Small
import KE.GoesMore
import HandS.Deep
import HandS.RaiseMore
import PySem.Challenge.RW_baizehall_k21_whole_runs_struck
set_option Elab.async false
set_option linter.all false
set_option maxRecDepth 100000
set_option maxHeartbeats 0
/-! Values, a small language, what it does. -/
namespace Bz
open PySem

inductive Va where
  | d (x : PyData)
  | ref (n : Nat)
  | dct (kvs : List (PyData × PyData))
inductive Ob where
  | lst (xs : List PyData)
  | scr (ns : List Int)
  | nest (ns : List Nat)
  | ins (c : Str) (fs : List (Str × Va))
abbrev Stt := List Ob
inductive Sl where
  | non
  | v (x : Va)
  | own (xs : List PyData)

inductive R (α : Type) where
  | ok (a : α) (s : Stt)
  | exc (c : Str) (s : Stt)
  | stuck
def R.bind {α β : Type} : R α → (α → Stt → R β) → R β
  | .ok a s, f => f a s
  | .exc c s, _ => .exc c s
  | .stuck, _ => .stuck
def lift {α : Type} (o : Option α) (s : Stt) : R α := match o with
  | some a => .ok a s
  | none => .stuck

/-! ### what is done with values -/
def szl : Nat := 16777216
def cut {α : Type} (xs : List α) (lo hi : Option Int) : List α := (xs.drop (HT.sIx xs.length 0 lo)).take (HT.sIx xs.length xs.length hi - HT.sIx xs.length 0 lo)
def intsOf : List PyData → Option (List Int)
  | [] => some []
  | .int i :: r => (intsOf r).map (i :: ·)
  | _ :: _ => none
def boolsOf : List PyData → Option (List Bool)
  | [] => some []
  | .bool i :: r => (boolsOf r).map (i :: ·)
  | _ :: _ => none
/-- xs[lo:hi:k] -/
def stepL {α : Type} (xs : List α) (lo hi : Option Int) (k : Int) : List α :=
  (List.range (Builtin.Slice.slicePlaces (Builtin.Slice.sliceAdjust lo hi k xs.length).1 (Builtin.Slice.sliceAdjust lo hi k xs.length).2 k)).filterMap fun (m : Nat) => xs[((Builtin.Slice.sliceAdjust lo hi k xs.length).1 + (m : Int) * k).toNat]?
def insS (x : Int) : List Int → List Int
  | [] => [x]
  | y :: r => if x ≤ y then x :: y :: r else y :: insS x r
/-- ints, rising -/
def sortI (ns : List Int) : List Int := ns.foldr insS []
def mulOk (i j : Int) : Bool := decide (i.natAbs < 2 ^ 64 ∨ j.natAbs < 2 ^ 64)
def rep {α : Type} (xs : List α) (k : Int) : List α := (List.replicate k.toNat xs).flatten
def bop : Operator → Va → Va → Option Va
  | .Add, .d (.int i), .d (.int j) => some (.d (.int (i + j)))
  | .Add, .d (.str a), .d (.str b) => if a.length + b.length ≤ szl then some (.d (.str (a ++ b))) else none
  | .Add, .d (.tuple a), .d (.tuple b) => if a.length + b.length ≤ szl then some (.d (.tuple (a ++ b))) else none
  | .Add, .d (.list a), .d (.list b) => if a.length + b.length ≤ szl then some (.d (.list (a ++ b))) else none
  | .Sub, .d (.int i), .d (.int j) => some (.d (.int (i - j)))
  | .Add, .d (.bool b), .d (.int j) => some (.d (.int ((if b = true then 1 else 0) + j)))
  | .Sub, .d (.bool b), .d (.int j) => some (.d (.int ((if b = true then 1 else 0) - j)))
  | .Mult, .d (.int i), .d (.int j) => if mulOk i j then some (.d (.int (i * j))) else none
  | .Mult, .d (.tuple a), .d (.int k) => if a.length ≤ 1000 ∧ -1000 ≤ k ∧ k ≤ 1000 then some (.d (.tuple (rep a k))) else none
  | .Mult, .d (.list a), .d (.int k) => if a.length ≤ 1000 ∧ -1000 ≤ k ∧ k ≤ 1000 then some (.d (.list (rep a k))) else none
  | .FloorDiv, .d (.int i), .d (.int j) => if 0 < j ∧ j < 1073741824 then some (.d (.int (i / j))) else none
  | .Mod, .d (.int i), .d (.int j) => if 0 < j then some (.d (.int (i % j))) else none
  | .LShift, .d (.int i), .d (.int j) => if 0 ≤ j ∧ j ≤ 60 ∧ i.natAbs < 1000 then some (.d (.int (i * 2 ^ j.toNat))) else none
  | _, _, _ => none
/-- is it a flat thing -/
def flat : PyData → Bool
  | .none => true
  | .bool _ => true
  | .int _ => true
  | .str _ => true
  | _ => false
def inD (x : PyData) (ys : List PyData) : Bool := ys.any fun y => PyData.eqv y x
def seqOf : PyData → Option (List PyData)
  | .list xs => some xs
  | .tuple xs => some xs
  | _ => none
def eqD (a b : PyData) : Option Bool := if min a.depth b.depth ≤ 64 then some (PyData.eqv a b) else none
def cmp : CmpOp → Va → Va → Option Bool
  | .Eq, .d a, .d b => eqD a b
  | .NotEq, .d a, .d b => (eqD a b).map (!·)
  | .Lt, .d (.int i), .d (.int j) => some (decide (i < j))
  | .LtE, .d (.int i), .d (.int j) => some (decide (i ≤ j))
  | .Gt, .d (.int i), .d (.int j) => some (decide (j < i))
  | .GtE, .d (.int i), .d (.int j) => some (decide (j ≤ i))
  | .Is, .d a, .d .none => some (match a with | .none => true | _ => false)
  | .IsNot, .d a, .d .none => some (match a with | .none => false | _ => true)
  | .Is, .d a, .d (.bool b) => some (match a with | .bool a => decide (a = b) | _ => false)
  | .IsNot, .d (.bool a), .d (.bool b) => some (!decide (a = b))
  | .In, .d a, .d (.list ys) => if flat a && ys.all flat then some (inD a ys) else if min (PyData.depthAll ys) a.depth ≤ 63 then some (inD a ys) else none
  | .In, .d a, .d (.tuple ys) => if flat a && ys.all flat then some (inD a ys) else if min (PyData.depthAll ys) a.depth ≤ 63 then some (inD a ys) else none
  | .NotIn, .d a, .d (.list ys) => if flat a && ys.all flat then some (!inD a ys) else if min (PyData.depthAll ys) a.depth ≤ 63 then some (!inD a ys) else none
  | .NotIn, .d a, .d (.tuple ys) => if flat a && ys.all flat then some (!inD a ys) else if min (PyData.depthAll ys) a.depth ≤ 63 then some (!inD a ys) else none
  | _, _, _ => none
def tru (st : Stt) : Va → Option Bool
  | .d .none => some false
  | .d (.bool b) => some b
  | .d (.int i) => some (i != 0)
  | .d (.str s) => some ((s.length : Int) != 0)
  | .d (.list xs) => some (!xs.isEmpty)
  | .d (.tuple xs) => some (!xs.isEmpty)
  | .ref n => match st[n]? with
    | some (.lst xs) => some (!xs.isEmpty)
    | some (.scr xs) => some (!xs.isEmpty)
    | _ => none
  | _ => none
def item (st : Stt) : Va → Va → Option Va
  | .d (.tuple xs), .d (.int i) => (L2.atI xs i).map .d
  | .d (.list xs), .d (.int i) => (L2.atI xs i).map .d
  | .ref n, .d (.int i) => match st[n]? with
    | some (.lst xs) => (L2.atI xs i).map .d
    | some (.scr xs) => (L2.atI xs i).map fun j => .d (.int j)
    | some (.nest ns) => (L2.atI ns i).map .ref
    | _ => none
  | _, _ => none
def slice : Va → Option Int → Option Int → Option Va
  | .d (.tuple xs), lo, hi => some (.d (.tuple (cut xs lo hi)))
  | .d (.list xs), lo, hi => some (.d (.list (cut xs lo hi)))
  | _, _, _ => none
def revV : Va → Option Va
  | .d (.tuple xs) => some (.d (.tuple xs.reverse))
  | .d (.list xs) => some (.d (.list xs.reverse))
  | _ => none
def stepV : Va → Option Int → Option Int → Int → Option Va
  | .d (.tuple xs), lo, hi, k => if (stepL xs lo hi k).length ≤ szl then some (.d (.tuple (stepL xs lo hi k))) else none
  | _, _, _, _ => none
/-- the built-in functions -/
inductive Bf where
  | len | sum | max | min | int | tuple | list | all | max2 | min2 | srt | str
def bestGt : Int → List Int → Int
  | m, [] => m
  | m, x :: r => bestGt (if x > m then x else m) r
def bestLt : Int → List Int → Int
  | m, [] => m
  | m, x :: r => bestLt (if x < m then x else m) r
def biLen (st : Stt) : List Va → Option Va
  | [.d (.tuple xs)] => some (.d (.int xs.length))
  | [.d (.list xs)] => some (.d (.int xs.length))
  | [.ref n] => match st[n]? with
    | some (.lst xs) => some (.d (.int xs.length))
    | some (.scr xs) => some (.d (.int xs.length))
    | _ => none
  | _ => none
def biSum : List Va → Option Va
  | [.d (.list xs)] => (intsOf xs).map fun ns => .d (.int ns.sum)
  | [.d (.tuple xs)] => (intsOf xs).map fun ns => .d (.int ns.sum)
  | _ => none
def biMax : List Va → Option Va
  | [.d (.list xs)] => match intsOf xs with
    | some (n :: ns) => some (.d (.int (bestGt n ns)))
    | _ => none
  | [.d (.tuple xs)] => match intsOf xs with
    | some (n :: ns) => some (.d (.int (bestGt n ns)))
    | _ => none
  | _ => none
def biMin : List Va → Option Va
  | [.d (.list xs)] => match intsOf xs with
    | some (n :: ns) => some (.d (.int (bestLt n ns)))
    | _ => none
  | _ => none
def biInt : List Va → Option Va
  | [.d (.int i)] => some (.d (.int i))
  | [.d (.bool b)] => some (.d (.int (if b = true then 1 else 0)))
  | _ => none
def biTuple (st : Stt) : List Va → Option Va
  | [.d (.list xs)] => some (.d (.tuple xs))
  | [.d (.tuple xs)] => some (.d (.tuple xs))
  | [.ref n] => match st[n]? with
    | some (.lst xs) => some (.d (.tuple xs))
    | _ => none
  | _ => none
def biList : List Va → Option Va
  | [.d (.list xs)] => some (.d (.list xs))
  | [.d (.tuple xs)] => some (.d (.list xs))
  | _ => none
def biAll : List Va → Option Va
  | [.d (.list xs)] => (boolsOf xs).map fun bs => .d (.bool (bs.all id))
  | _ => none
def biMax2 : List Va → Option Va
  | [.d (.int i), .d (.int j)] => some (.d (.int (if j > i then j else i)))
  | _ => none
def biMin2 : List Va → Option Va
  | [.d (.int i), .d (.int j)] => some (.d (.int (if j < i then j else i)))
  | _ => none
def biSrt : List Va → Option Va
  | [.d (.list xs)] => (intsOf xs).map fun ns => .d (.list ((sortI ns).map .int))
  | [.d (.tuple xs)] => (intsOf xs).map fun ns => .d (.list ((sortI ns).map .int))
  | _ => none
def numS (i : Int) : Str := Str.ofString (toString i)
def biStr : List Va → Option Va
  | [.d (.int i)] => if 0 ≤ i ∧ i < 1000000000000 then some (.d (.str (numS i))) else none
  | [.d (.bool b)] => some (.d (.str (if b = true then "True" else "False")))
  | _ => none
def bi : Bf → List Va → Stt → Option Va
  | .len, xs, st => biLen st xs
  | .sum, xs, _ => biSum xs
  | .max, xs, _ => biMax xs
  | .min, xs, _ => biMin xs
  | .int, xs, _ => biInt xs
  | .tuple, xs, st => biTuple st xs
  | .list, xs, _ => biList xs
  | .all, xs, _ => biAll xs
  | .max2, xs, _ => biMax2 xs
  | .min2, xs, _ => biMin2 xs
  | .srt, xs, _ => biSrt xs
  | .str, xs, _ => biStr xs
def Bf.name : Bf → String
  | .len => "len" | .sum => "sum" | .max => "max" | .min => "min" | .int => "int" | .tuple => "tuple" | .list => "list" | .all => "all" | .max2 => "max" | .min2 => "min" | .srt => "sorted" | .str => "str"
/-- the sorted set of ints -/
def insU (x : Int) : List Int → List Int
  | [] => [x]
  | y :: r => if x < y then x :: y :: r else if x = y then y :: r else y :: insU x r
def sortU (ns : List Int) : List Int := ns.foldr insU []
/-- the methods that only look -/
inductive Bm where
  | count
def Bm.name : Bm → Str
  | .count => "count"
def bmOk : Bm → Va → Bool
  | .count, .d (.tuple _) => true
  | .count, .d (.list _) => true
  | _, _ => false
def bm : Bm → Va → Va → Option Va
  | .count, .d (.tuple xs), .d a => if flat a && xs.all flat then some (.d (.int (xs.countP fun y => PyData.eqv y a))) else none
  | .count, .d (.list xs), .d a => if flat a && xs.all flat then some (.d (.int (xs.countP fun y => PyData.eqv y a))) else none
  | _, _, _ => none
/-- the built-in classes that isinstance is asked of -/
inductive Ty where
  | int | bool | str | tuple | list
def Ty.name : Ty → String
  | .int => "int" | .bool => "bool" | .str => "str" | .tuple => "tuple" | .list => "list"
def isi : PyData → Ty → Bool
  | .bool _, .int => true
  | .bool _, .bool => true
  | .int _, .int => true
  | .str _, .str => true
  | .tuple _, .tuple => true
  | .list _, .list => true
  | _, _ => false

/-! ### the language -/
inductive K where
  | non | bl (b : Bool) | int (i : Int) | str (s : Str)
def K.val : K → PyData
  | .non => .none | .bl b => .bool b | .int i => .int i | .str s => .str s
/-- a target: a name, or names in brackets -/
inductive Tg where
  | n (x : Str) (i p : Nat)
  | t (xs : List (Str × Nat × Nat)) (k p : Nat)
mutual
inductive E where
  | k (c : K) (j p : Nat)
  | var (x : Str) (i p : Nat)
  | bin (op : Operator) (a b : E) (p : Nat)
  | neg (a : E) (p : Nat)
  | not (a : E) (p : Nat)
  | bo (and : Bool) (a : E) (es : Es) (p : Nat)
  | cmp (op : CmpOp) (a b : E) (p : Nat)
  | cmp2 (o1 o2 : CmpOp) (a b c : E) (p : Nat)
  | ife (c a b : E) (p : Nat)
  | tup (es : Es) (k p : Nat)
  | lst (es : Es) (p : Nat)
  | ix (a b : E) (p : Nat)
  | sl (a : E) (lo hi : Oe) (p p2 : Nat)
  | call (x : Str) (f : Nat) (es : Es) (p pn : Nat)
  | bi (f : Bf) (es : Es) (p pn : Nat)
  | me (m : Bm) (o e : E) (p pa : Nat)
  | isi (a : E) (t : Ty) (p pn pt : Nat)
  | rng (tup : Bool) (a b : E) (p pn p2 pn2 : Nat)
  | lc (elt : E) (tg : Tg) (it : It) (ifs : Oe) (sc : Scope) (own : List (Str × Nat)) (p : Nat)
  | oix (x : Str) (i : Nat) (b : E) (p px : Nat)
  | sset (a : E) (p pn p2 pn2 : Nat)
  | sumr (a b : E) (p pn p2 pn2 : Nat)
  | rv (a : E) (j q1 q2 q3 p : Nat)
  | stp (a : E) (lo hi : Oe) (k : Int) (j q1 q3 p : Nat)
inductive It where
  | e (a : E)
  | r1 (a : E) (p pn : Nat)
  | r2 (a b : E) (p pn : Nat)
  | en (a : E) (p pn : Nat)
  | zp (a b : E) (p pn : Nat)
inductive Oe where
  | non
  | e (a : E)
inductive Es where
  | nil
  | cons (a : E) (r : Es)
end
/-- a list made anew -/
inductive FE where
  | lst (es : Es) (p : Nat)
  | mul (es : Es) (pl : Nat) (b : E) (p : Nat)
  | list (a : E) (p pn : Nat)
  | ife (c : E) (a b : FE) (p : Nat)
/-- what an except suite does -/
inductive Su where
  | set (x : Str) (i : Nat) (c : K) (j p px pc : Nat)
  | rvk (x : Str) (i px : Nat) (c : K) (j pc k pt p : Nat)
structure Hdl where
  f : Nat
  x : Str
  pn : Nat
  s : Su
  p : Nat
/-- what a try holds -/
inductive Tb where
  | set (x : Str) (i : Nat) (e : E) (p px : Nat)
  | ex (e : E) (p : Nat)
mutual
inductive S where
  | set (x : Str) (i : Nat) (e : E) (p px : Nat)
  | own (x : Str) (i : Nat) (e : FE) (p px : Nat)
  | frz (i : Nat)
  | shr (i : Nat)
  | unp (tg : Tg) (e : E) (p : Nat)
  | par (x : Str) (i px : Nat) (y : Str) (j py : Nat) (kt pt : Nat) (a b : E) (k2 p2 p : Nat)
  | paro (x : Str) (i px : Nat) (y : Str) (j py : Nat) (kt pt : Nat) (a : E) (b : FE) (k2 p2 p : Nat)
  | rapp (a e : E) (p p1 pa : Nat)
  | oapp (x : Str) (i px : Nat) (e : E) (p p1 pa : Nat)
  | oext (x : Str) (i px : Nat) (e : E) (p p1 pa : Nat)
  | ex (e : E) (p : Nat)
  | ret (e : E) (p : Nat)
  | ife (c : E) (t e : Ss) (p : Nat)
  | loop (tg : Tg) (it : It) (b : Ss) (p : Nat)
  | whl (c : E) (b : Ss) (fuel : Nat) (p : Nat)
  | nev (s : Stmt)
  | oset (x : Str) (i px : Nat) (b e : E) (p pt : Nat)
  | opop (tg : Tg) (x : Str) (i px p p1 pa : Nat)
  | nest (x : Str) (i : Nat) (a b c d : Int) (ja jb jc jd qa qb qc qd p1 p2 pl p px : Nat)
  | rset (o b e : E) (p pt : Nat)
  | rse (f : Nat) (x : Str) (p pc pn : Nat)
  | paroo (x : Str) (i px : Nat) (y : Str) (j py : Nat) (kt pt : Nat) (a b : FE) (k2 p2 p : Nat)
  | par3 (x : Str) (i px : Nat) (y : Str) (j py : Nat) (z : Str) (l pz : Nat) (kt pt : Nat) (a b c : E) (k2 p2 p : Nat)
  | par3o (x : Str) (i px : Nat) (y : Str) (j py : Nat) (z : Str) (l pz : Nat) (kt pt : Nat) (a : FE) (b c : E) (k2 p2 p : Nat)
  | unpf (x : Str) (i px : Nat) (y : Str) (j py : Nat) (kt pt : Nat) (a b : FE) (k2 p2 p : Nat)
  | parf (x : Str) (i px : Nat) (y : Str) (j py : Nat) (kt pt : Nat) (a : FE) (b : E) (k2 p2 p : Nat)
  | tr (b : Tb) (h : Hdl) (hs : List Hdl) (kn : List (Nat × Str)) (p : Nat)
inductive Ss where
  | nil
  | cons (a : S) (r : Ss)
end

/-! ### its text -/
def ps (n : Nat) : Pos := ⟨n / 68719476736, n / 16777216 % 4096, n / 4096 % 4096, n % 4096⟩
def K.py : K → Const
  | .non => .none | .bl b => .bool b | .int i => .int i | .str s => .str s
def Tg.py : Tg → Expr
  | .n x _ p => .Name x (ps p)
  | .t xs k p => .Tuple (xs.map fun y => .Name y.1 (ps y.2.2)) k (ps p)
mutual
def E.py : E → Expr
  | .k c j p => .Constant c.py j (ps p)
  | .var x _ p => .Name x (ps p)
  | .bin op a b p => .BinOp a.py op b.py (ps p)
  | .neg a p => .UnaryOp .USub a.py (ps p)
  | .not a p => .UnaryOp .Not a.py (ps p)
  | .bo an a es p => .BoolOp (if an = true then .And else .Or) (a.py :: es.py) (ps p)
  | .cmp op a b p => .Compare a.py [op] [b.py] (ps p)
  | .cmp2 o1 o2 a b c p => .Compare a.py [o1, o2] [b.py, c.py] (ps p)
  | .ife c a b p => .IfExp c.py a.py b.py (ps p)
  | .tup es k p => .Tuple es.py k (ps p)
  | .lst es p => .List es.py (ps p)
  | .ix a b p => .Subscript a.py b.py (ps p)
  | .sl a lo hi p p2 => .Subscript a.py (.Slice lo.py hi.py none (ps p2)) (ps p)
  | .call x _ es p pn => .Call (.Name x (ps pn)) es.py [] (ps p)
  | .bi f es p pn => .Call (.Name f.name (ps pn)) es.py [] (ps p)
  | .me m o e p pa => .Call (.Attribute o.py m.name (ps pa)) [e.py] [] (ps p)
  | .isi a t p pn pt => .Call (.Name "isinstance" (ps pn)) [a.py, .Name t.name (ps pt)] [] (ps p)
  | .rng tp a b p pn p2 pn2 => .Call (.Name (if tp = true then "tuple" else "list") (ps pn)) [.Call (.Name "range" (ps pn2)) [a.py, b.py] [] (ps p2)] [] (ps p)
  | .lc elt tg it ifs sc _ p => .ListComp elt.py [⟨tg.py, it.py, ifs.pyl, 0⟩] sc (ps p)
  | .oix x _ b p px => .Subscript (.Name x (ps px)) b.py (ps p)
  | .sset a p pn p2 pn2 => .Call (.Name "sorted" (ps pn)) [.Call (.Name "set" (ps pn2)) [a.py] [] (ps p2)] [] (ps p)
  | .sumr a b p pn p2 pn2 => .Call (.Name "sum" (ps pn)) [.Call (.Name "range" (ps pn2)) [a.py, b.py] [] (ps p2)] [] (ps p)
  | .rv a j q1 q2 q3 p => .Subscript a.py (.Slice none none (some (.UnaryOp .USub (.Constant (.int 1) j (ps q1)) (ps q2))) (ps q3)) (ps p)
  | .stp a lo hi k j q1 q3 p => .Subscript a.py (.Slice lo.py hi.py (some (.Constant (.int k) j (ps q1))) (ps q3)) (ps p)
def It.py : It → Expr
  | .e a => a.py
  | .r1 a p pn => .Call (.Name "range" (ps pn)) [a.py] [] (ps p)
  | .r2 a b p pn => .Call (.Name "range" (ps pn)) [a.py, b.py] [] (ps p)
  | .en a p pn => .Call (.Name "enumerate" (ps pn)) [a.py] [] (ps p)
  | .zp a b p pn => .Call (.Name "zip" (ps pn)) [a.py, b.py] [] (ps p)
def Oe.py : Oe → Option Expr
  | .non => none
  | .e a => some a.py
def Oe.pyl : Oe → List Expr
  | .non => []
  | .e a => [a.py]
def Es.py : Es → List Expr
  | .nil => []
  | .cons a r => a.py :: r.py
end
def FE.py : FE → Expr
  | .lst es p => .List es.py (ps p)
  | .mul es pl b p => .BinOp (.List es.py (ps pl)) .Mult b.py (ps p)
  | .list a p pn => .Call (.Name "list" (ps pn)) [a.py] [] (ps p)
  | .ife c a b p => .IfExp c.py a.py b.py (ps p)
def Su.py : Su → Stmt
  | .set x _ c j p px pc => .Assign [.Name x (ps px)] (.Constant c.py j (ps pc)) (ps p)
  | .rvk x _ px c j pc k pt p => .Return (some (.Tuple [.Name x (ps px), .Constant c.py j (ps pc)] k (ps pt))) (ps p)
def Hdl.py (h : Hdl) : ExceptHandler := .ExceptHandler (some (.Name h.x (ps h.pn))) none [h.s.py] (ps h.p)
def Tb.py : Tb → Stmt
  | .set x _ e p px => .Assign [.Name x (ps px)] e.py (ps p)
  | .ex e p => .Expr e.py (ps p)
mutual
def S.py : S → List Stmt
  | .set x _ e p px => [.Assign [.Name x (ps px)] e.py (ps p)]
  | .own x _ e p px => [.Assign [.Name x (ps px)] e.py (ps p)]
  | .frz _ => []
  | .shr _ => []
  | .unp tg e p => [.Assign [tg.py] e.py (ps p)]
  | .par x _ px y _ py kt pt a b k2 p2 p => [.Assign [.Tuple [.Name x (ps px), .Name y (ps py)] kt (ps pt)] (.Tuple [a.py, b.py] k2 (ps p2)) (ps p)]
  | .paro x _ px y _ py kt pt a b k2 p2 p => [.Assign [.Tuple [.Name x (ps px), .Name y (ps py)] kt (ps pt)] (.Tuple [a.py, b.py] k2 (ps p2)) (ps p)]
  | .rapp a e p p1 pa => [.Expr (.Call (.Attribute a.py "append" (ps pa)) [e.py] [] (ps p1)) (ps p)]
  | .oapp x _ px e p p1 pa => [.Expr (.Call (.Attribute (.Name x (ps px)) "append" (ps pa)) [e.py] [] (ps p1)) (ps p)]
  | .oext x _ px e p p1 pa => [.Expr (.Call (.Attribute (.Name x (ps px)) "extend" (ps pa)) [e.py] [] (ps p1)) (ps p)]
  | .ex e p => [.Expr e.py (ps p)]
  | .ret e p => [.Return (some e.py) (ps p)]
  | .ife c t e p => [.If c.py t.py e.py (ps p)]
  | .loop tg it b p => [.For tg.py it.py b.py [] (ps p)]
  | .whl c b _ p => [.While c.py b.py [] (ps p)]
  | .nev s => [s]
  | .oset x _ px b e p pt => [.Assign [.Subscript (.Name x (ps px)) b.py (ps pt)] e.py (ps p)]
  | .opop tg x _ px p p1 pa => [.Assign [tg.py] (.Call (.Attribute (.Name x (ps px)) "pop" (ps pa)) [] [] (ps p1)) (ps p)]
  | .nest x _ a b c d ja jb jc jd qa qb qc qd p1 p2 pl p px => [.Assign [.Name x (ps px)] (.List [.List [.Constant (.int a) ja (ps qa), .Constant (.int b) jb (ps qb)] (ps p1), .List [.Constant (.int c) jc (ps qc), .Constant (.int d) jd (ps qd)] (ps p2)] (ps pl)) (ps p)]
  | .rset o b e p pt => [.Assign [.Subscript o.py b.py (ps pt)] e.py (ps p)]
  | .rse _ x p pc pn => [.Raise (some (.Call (.Name x (ps pn)) [] [] (ps pc))) none (ps p)]
  | .paroo x _ px y _ py kt pt a b k2 p2 p => [.Assign [.Tuple [.Name x (ps px), .Name y (ps py)] kt (ps pt)] (.Tuple [a.py, b.py] k2 (ps p2)) (ps p)]
  | .par3 x _ px y _ py z _ pz kt pt a b c k2 p2 p => [.Assign [.Tuple [.Name x (ps px), .Name y (ps py), .Name z (ps pz)] kt (ps pt)] (.Tuple [a.py, b.py, c.py] k2 (ps p2)) (ps p)]
  | .par3o x _ px y _ py z _ pz kt pt a b c k2 p2 p => [.Assign [.Tuple [.Name x (ps px), .Name y (ps py), .Name z (ps pz)] kt (ps pt)] (.Tuple [a.py, b.py, c.py] k2 (ps p2)) (ps p)]
  | .unpf x i px y j py kt pt a b k2 p2 p => [.Assign [(Tg.t [(x, i, px), (y, j, py)] kt pt).py] (.Tuple [a.py, b.py] k2 (ps p2)) (ps p)]
  | .parf x _ px y _ py kt pt a b k2 p2 p => [.Assign [.Tuple [.Name x (ps px), .Name y (ps py)] kt (ps pt)] (.Tuple [a.py, b.py] k2 (ps p2)) (ps p)]
  | .tr b h hs _ p => [.Try [b.py] (h.py :: hs.map Hdl.py) [] [] (ps p)]
def Ss.py : Ss → List Stmt
  | .nil => []
  | .cons a r => a.py ++ r.py
end

/-! ### its names -/
def visB (sc : Scope) (x : Str) : Bool := match sc.names.lookup x with
  | some .local => true
  | some .cell => true
  | some .free => true
  | _ => false
def okN (x : Str) : Bool := !(x == ("__debug__" : Str)) && !(x == ("__classdict__" : Str))
def glB (sc : Scope) (x : Str) : Bool := match sc.names.lookup x with
  | some .globalImplicit => true
  | _ => false
def cellB (bk : Option Scope) (x : Str) : Bool := match bk with
  | none => true
  | some b => b.names.lookup x == some .cell
def locB (sc : Scope) (bk : Option Scope) (x : Str) : Bool := match sc.names.lookup x with
  | some .local => true
  | some .cell => cellB bk x
  | _ => false
def wfV (N : List Str) (sc : Scope) (x : Str) (i : Nat) : Bool := decide (N[i]? = some x) && visB sc x && okN x
def wfN (N : List Str) (sc : Scope) (bk : Option Scope) (x : Str) (i : Nat) : Bool := decide (N[i]? = some x) && locB sc bk x
def wfT (N : List Str) (sc : Scope) (bk : Option Scope) : Tg → Bool
  | .n x i _ => wfN N sc bk x i
  | .t xs _ _ => xs.all fun y => wfN N sc bk y.1 y.2.1
def Tg.slots : Tg → List Nat
  | .n _ i _ => [i]
  | .t xs _ _ => xs.map (·.2.1)
def Tg.isT : Tg → Bool
  | .n _ _ _ => false
  | .t _ _ _ => true
def Es.isNil : Es → Bool
  | .nil => true
  | .cons _ _ => false
def Es.len : Es → Nat
  | .nil => 0
  | .cons _ r => r.len + 1
def E.isIf : E → Bool
  | .ife .. => true
  | _ => false
def It.pairs : It → Bool
  | .en _ _ _ => true
  | .zp _ _ _ _ => true
  | _ => false
def Oe.isIf : Oe → Bool
  | .non => false
  | .e a => a.isIf
section
variable (nm : Nat → Option Str) (N : List Str)
mutual
def wfE (sc : Scope) (bk : Option Scope) : E → Bool
  | .k c _ _ => (match c with | .str s => PyData.canLay0 (.str s) && decide (s.length ≤ szl) | _ => true)
  | .var x i _ => wfV N sc x i
  | .bin _ a b _ => wfE sc bk a && wfE sc bk b
  | .neg a _ => wfE sc bk a
  | .not a _ => wfE sc bk a && !a.isIf
  | .bo _ a es _ => wfE sc bk a && wfEs sc bk es && !a.isIf && wfNI es
  | .cmp _ a b _ => wfE sc bk a && wfE sc bk b
  | .cmp2 _ _ a b c _ => wfE sc bk a && wfE sc bk b && wfE sc bk c
  | .ife c a b _ => wfE sc bk c && wfE sc bk a && wfE sc bk b && !c.isIf
  | .tup es _ _ => wfEs sc bk es && decide (es.len ≤ 1000)
  | .lst es _ => wfEs sc bk es && decide (es.len ≤ 1000)
  | .ix a b _ => wfE sc bk a && wfE sc bk b
  | .sl a lo hi _ _ => wfE sc bk a && wfO sc bk lo && wfO sc bk hi
  | .call x f es _ _ => glB sc x && decide (nm f = some x) && decide (f < 1000) && okN x && wfEs sc bk es && !es.isNil
  | .bi f es _ _ => glB sc f.name && wfEs sc bk es && !es.isNil
  | .me _ o e p pa => wfE sc bk o && wfE sc bk e && ((ps pa).endLine == (ps p).line)
  | .isi a t _ _ _ => glB sc "isinstance" && glB sc t.name && wfE sc bk a
  | .rng tp a b _ _ _ _ => glB sc (if tp = true then "tuple" else "list") && glB sc "range" && wfE sc bk a && wfE sc bk b
  | .lc elt tg it ifs scp own _ => L2.blkC N sc scp own && wfI sc bk it && (!it.pairs || tg.isT) && wfT N (L2.relS scp sc) (some scp) tg && (tg.slots.all fun i => decide (i ∈ own.map (·.2))) && wfO (L2.relS scp sc) (some scp) ifs && !ifs.isIf && wfE (L2.relS scp sc) (some scp) elt
  | .oix x i b _ _ => wfV N sc x i && wfE sc bk b
  | .sset a _ _ _ _ => glB sc "sorted" && glB sc "set" && wfE sc bk a
  | .sumr a b _ _ _ _ => glB sc "sum" && glB sc "range" && wfE sc bk a && wfE sc bk b
  | .rv a _ _ _ _ _ => wfE sc bk a
  | .stp a lo hi k _ _ _ _ => wfE sc bk a && wfO sc bk lo && wfO sc bk hi && decide (2 ≤ k)
def wfI (sc : Scope) (bk : Option Scope) : It → Bool
  | .e a => wfE sc bk a
  | .r1 a _ _ => glB sc "range" && wfE sc bk a
  | .r2 a b _ _ => glB sc "range" && wfE sc bk a && wfE sc bk b
  | .en a _ _ => glB sc "enumerate" && wfE sc bk a
  | .zp a b _ _ => glB sc "zip" && wfE sc bk a && wfE sc bk b
def wfO (sc : Scope) (bk : Option Scope) : Oe → Bool
  | .non => true
  | .e a => wfE sc bk a
def wfEs (sc : Scope) (bk : Option Scope) : Es → Bool
  | .nil => true
  | .cons a r => wfE sc bk a && wfEs sc bk r
def wfNI : Es → Bool
  | .nil => true
  | .cons a r => !a.isIf && wfNI r
end
def locK (sc : Scope) (x : Str) : Bool := match sc.names.lookup x with
  | some .local => true
  | _ => false
def E.isTup : E → Bool
  | .tup .. => true
  | _ => false
/-- are the names stored one behind the other, not exchanged -/
def swN (sc : Scope) : Tg → E → Bool
  | .t xs _ _, .tup es _ _ => (xs.any fun y => !locK sc y.1) || es.py.all (foldedForSure 8)
  | _, _ => true
def E.isLc : E → Bool
  | .lc .. => true
  | _ => false
def wfPar (sc : Scope) (x : Str) (px : Nat) (y : Str) (py : Nat) (a b : Expr) : Bool :=
  locK sc x && locK sc y && ((ps px).line == (ps py).line) && !(x == y) && !(foldedForSure 8 a && foldedForSure 8 b) && !(constantsAlone 8 a && constantsAlone 8 b)
def wfPar3 (sc : Scope) (x : Str) (px : Nat) (y : Str) (py : Nat) (z : Str) (pz : Nat) (a b c : Expr) : Bool :=
  locK sc x && locK sc y && locK sc z && ((ps px).line == (ps py).line) && ((ps px).line == (ps pz).line) && !(x == y) && !(x == z) && !(y == z) && !(foldedForSure 8 a && foldedForSure 8 b && foldedForSure 8 c) && !(constantsAlone 8 a && constantsAlone 8 b && constantsAlone 8 c)
def wfF (sc : Scope) : FE → Bool
  | .lst es _ => wfEs nm N sc none es && decide (es.len ≤ 1000)
  | .mul es _ b _ => wfEs nm N sc none es && decide (es.len ≤ 1000) && wfE nm N sc none b
  | .list a _ _ => glB sc "list" && wfE nm N sc none a
  | .ife c a b _ => wfE nm N sc none c && !c.isIf && wfF sc a && wfF sc b
def kOk : K → Bool
  | .str s => PyData.canLay0 (.str s) && decide (s.length ≤ szl)
  | _ => true
def xcB (f : Nat) (x : Str) : Bool := decide (1000 ≤ f) && decide (nm f = some x)
def wfSu (sc : Scope) : Su → Bool
  | .set x i c _ _ _ _ => wfN N sc none x i && kOk c
  | .rvk x i _ c _ _ _ _ _ => wfV N sc x i && kOk c
def wfHd (sc : Scope) (h : Hdl) : Bool := xcB nm h.f h.x && glB sc h.x && okN h.x && wfSu N sc h.s
def wfTb (sc : Scope) : Tb → Bool
  | .set x i e _ _ => wfN N sc none x i && wfE nm N sc none e && !e.isLc
  | .ex e _ => wfE nm N sc none e && !e.isLc
def swapW (sc : Scope) (x : Str) (e : E) (px : Nat) : Bool := match e with
  | .lc _ _ _ _ scp _ p => (locK sc x && ((ps px).line == (ps p).line) && !(scp.names.any fun (n, k) => n == x && (k == .local || k == .cell))) || !locK sc x
  | _ => true
mutual
def wfS (sc : Scope) : S → Bool
  | .set x i e p px => wfN N sc none x i && wfE nm N sc none e && swapW sc x e px
  | .own x i e p px => wfN N sc none x i && wfF nm N sc e
  | .frz _ => true
  | .shr _ => true
  | .unp tg e _ => wfT N sc none tg && wfE nm N sc none e && tg.isT && !e.isLc && swN sc tg e
  | .par x i px y j py _ _ a b _ _ _ => decide (N[i]? = some x) && decide (N[j]? = some y) && decide (i ≠ j) && wfE nm N sc none a && wfE nm N sc none b && wfPar sc x px y py a.py b.py
  | .paro x i px y j py _ _ a b _ _ _ => decide (N[i]? = some x) && decide (N[j]? = some y) && decide (i ≠ j) && wfE nm N sc none a && wfF nm N sc b && wfPar sc x px y py a.py b.py
  | .rapp a e _ p1 pa => wfE nm N sc none a && wfE nm N sc none e && ((ps pa).endLine == (ps p1).line)
  | .oapp x i _ e _ p1 pa => wfV N sc x i && wfE nm N sc none e && ((ps pa).endLine == (ps p1).line)
  | .oext x i _ e _ p1 pa => wfV N sc x i && wfE nm N sc none e && ((ps pa).endLine == (ps p1).line)
  | .ex e _ => wfE nm N sc none e && !e.isLc
  | .ret e _ => wfE nm N sc none e
  | .ife c t e _ => wfE nm N sc none c && !c.isIf && wfSs sc t && wfSs sc e
  | .loop tg it b _ => wfT N sc none tg && wfI nm N sc none it && (!it.pairs || tg.isT) && wfSs sc b
  | .whl c b _ _ => wfE nm N sc none c && !c.isIf && wfSs sc b
  | .nev _ => true
  | .oset x i _ b e _ _ => wfV N sc x i && wfE nm N sc none b && wfE nm N sc none e && !e.isLc
  | .opop tg x i _ _ p1 pa => wfV N sc x i && wfT N sc none tg && tg.isT && ((ps pa).endLine == (ps p1).line)
  | .nest x i _ _ _ _ _ _ _ _ _ _ _ _ _ _ _ _ _ => wfN N sc none x i
  | .rset o b e _ _ => wfE nm N sc none o && wfE nm N sc none b && wfE nm N sc none e && !e.isLc
  | .rse f x _ _ _ => xcB nm f x && glB sc x && okN x
  | .paroo x i px y j py _ _ a b _ _ _ => decide (N[i]? = some x) && decide (N[j]? = some y) && decide (i ≠ j) && wfF nm N sc a && wfF nm N sc b && wfPar sc x px y py a.py b.py
  | .par3 x i px y j py z l pz _ _ a b c _ _ _ => decide (N[i]? = some x) && decide (N[j]? = some y) && decide (N[l]? = some z) && decide (i ≠ j) && decide (i ≠ l) && decide (j ≠ l) && wfE nm N sc none a && wfE nm N sc none b && wfE nm N sc none c && wfPar3 sc x px y py z pz a.py b.py c.py
  | .par3o x i px y j py z l pz _ _ a b c _ _ _ => decide (N[i]? = some x) && decide (N[j]? = some y) && decide (N[l]? = some z) && decide (i ≠ j) && decide (i ≠ l) && decide (j ≠ l) && wfF nm N sc a && wfE nm N sc none b && wfE nm N sc none c && wfPar3 sc x px y py z pz a.py b.py c.py
  | .unpf x i px y j py kt pt a b _ _ _ => wfT N sc none (.t [(x, i, px), (y, j, py)] kt pt) && wfF nm N sc a && wfF nm N sc b && (!locK sc x || !locK sc y)
  | .parf x i px y j py _ _ a b _ _ _ => decide (N[i]? = some x) && decide (N[j]? = some y) && decide (i ≠ j) && wfF nm N sc a && wfE nm N sc none b && wfPar sc x px y py a.py b.py
  | .tr b h hs kn _ => wfTb nm N sc b && wfHd nm N sc h && (hs.all fun h => wfHd nm N sc h) && (kn.all fun q => xcB nm q.1 q.2)
def wfSs (sc : Scope) : Ss → Bool
  | .nil => true
  | .cons a r => wfS sc a && wfSs sc r
end
end

/-! ### what it does -/
inductive Fl where
  | nx (env : List Sl)
  | rt (x : Va)
def sto (env : List Sl) (i : Nat) (x : Va) : List Sl := env.set i (.v x)
def stoT : List Sl → Tg → PyData → Option (List Sl)
  | env, .n _ i _, x => some (sto env i (.d x))
  | env, .t xs _ _, .tuple ys => if xs.length = ys.length then some ((xs.zip ys).foldl (fun e q => sto e q.1.2.1 (.d q.2)) env) else none
  | _, _, _ => none
def wipeS (env : List Sl) : List Nat → List Sl
  | [] => env
  | v :: vs => (wipeS env vs).set v .non
def rng2 (a b : Int) : List PyData := (List.range (b - a).toNat).map fun (i : Nat) => PyData.int (a + (i : Int))
def rgS (a b : Int) : Int := ((List.range (b - a).toNat).map fun (i : Nat) => a + (i : Int)).sum
def rngOk (a b : Int) : Bool := decide (a.natAbs < 2 ^ 62 ∧ b.natAbs < 2 ^ 62 ∧ (b - a).toNat ≤ 16777216)
/-- a comprehension's turns -/
def isOwn (env : List Sl) (i : Nat) : Bool := match env[i]? with
  | some (.own _) => true
  | _ => false
def noexc {α : Type} : R α → R α
  | .ok a s => .ok a s
  | _ => .stuck
def isL (st : Stt) : Va → Bool
  | .ref n => match st[n]? with
    | some (.lst _) => true
    | _ => false
  | _ => false
def lcLoop (tg : Tg) (own : List Nat) (test : List Sl → Stt → R Bool) (elt : List Sl → Stt → R Va) (env : List Sl) : List PyData → List PyData → Stt → R Va
  | [], acc, st => .ok (.d (.list acc)) st
  | x :: xs, acc, st => match stoT (wipeS env own) tg x with
    | none => .stuck
    | some env1 => (noexc (test env1 st)).bind fun b st => if b = true then (noexc (elt env1 st)).bind fun y st => match y with
        | .d z => if acc.length < szl then lcLoop tg own test elt env xs (acc ++ [z]) st else .stuck
        | _ => .stuck
      else lcLoop tg own test elt env xs acc st
def forLoop (tg : Tg) (body : List Sl → Stt → R Fl) : List PyData → List Sl → Stt → R Fl
  | [], env, st => .ok (.nx env) st
  | x :: xs, env, st => match stoT env tg x with
    | none => .stuck
    | some env1 => (body env1 st).bind fun fl st => match fl with
      | .nx env2 => forLoop tg body xs env2 st
      | .rt v => .ok (.rt v) st
def whlLoop (test : List Sl → Stt → R Bool) (body : List Sl → Stt → R Fl) : Nat → List Sl → Stt → R Fl
  | 0, _, _ => .stuck
  | n + 1, env, st => (test env st).bind fun b st => if b = true then (body env st).bind fun fl st => match fl with
      | .nx env2 => whlLoop test body n env2 st
      | .rt v => .ok (.rt v) st
    else .ok (.nx env) st
def dat : Va → Option PyData
  | .d x => some x
  | _ => none
def dats : List Va → Option (List PyData)
  | [] => some []
  | .d x :: r => (dats r).map (x :: ·)
  | _ :: _ => none
def zipD : List PyData → List PyData → List PyData
  | x :: xs, y :: ys => .tuple [x, y] :: zipD xs ys
  | _, _ => []
def enumD : Nat → List PyData → List PyData
  | _, [] => []
  | n, x :: xs => .tuple [.int n, x] :: enumD (n + 1) xs
section
variable (cf : Nat → List Va → Stt → R Va)
def tst (r : R Va) : R Bool := r.bind fun x st => lift (tru st x) st
mutual
def ev : E → List Sl → Stt → R Va
  | .k c _ _, _, st => .ok (.d c.val) st
  | .var _ i _, env, st => match env[i]? with
    | some (.v x) => .ok x st
    | _ => .stuck
  | .bin op a b _, env, st => (ev a env st).bind fun x st => (ev b env st).bind fun y st => lift (bop op x y) st
  | .neg a _, env, st => (ev a env st).bind fun x st => match x with
    | .d (.int i) => .ok (.d (.int (-i))) st
    | _ => .stuck
  | .not a _, env, st => (ev a env st).bind fun x st => lift ((tru st x).map fun b => .d (.bool (!b))) st
  | .bo an a es _, env, st => (ev a env st).bind fun x st => evb an x es env st
  | .cmp op a b _, env, st => (ev a env st).bind fun x st => (ev b env st).bind fun y st => lift ((cmp op x y).map fun b => .d (.bool b)) st
  | .cmp2 o1 o2 a b c _, env, st => (ev a env st).bind fun x st => (ev b env st).bind fun y st => (lift (cmp o1 x y) st).bind fun k st =>
      if k = true then (ev c env st).bind fun z st => lift ((cmp o2 y z).map fun b => .d (.bool b)) st else .ok (.d (.bool false)) st
  | .ife c a b _, env, st => (tst (ev c env st)).bind fun k st => if k = true then ev a env st else ev b env st
  | .tup es _ _, env, st => (evs es env st).bind fun xs st => lift ((dats xs).map fun ys => .d (.tuple ys)) st
  | .lst es _, env, st => (evs es env st).bind fun xs st => lift ((dats xs).map fun ys => .d (.list ys)) st
  | .ix a b _, env, st => (ev a env st).bind fun x st => (ev b env st).bind fun y st => lift (item st x y) st
  | .sl a lo hi _ _, env, st => (ev a env st).bind fun x st => (evo lo env st).bind fun l st => (evo hi env st).bind fun h st => lift (slice x l h) st
  | .call _ f es _ _, env, st => (evs es env st).bind fun xs st => cf f xs st
  | .bi f es _ _, env, st => (evs es env st).bind fun xs st => lift (bi f xs st) st
  | .me m o e _ _, env, st => (ev o env st).bind fun x st => if bmOk m x = true then (ev e env st).bind fun y st => lift (bm m x y) st else .stuck
  | .isi a t _ _ _, env, st => (ev a env st).bind fun x st => lift ((dat x).map fun y => .d (.bool (isi y t))) st
  | .rng tp a b _ _ _ _, env, st => (ev a env st).bind fun x st => (ev b env st).bind fun y st => match x, y with
    | .d (.int i), .d (.int j) => if rngOk i j = true then .ok (.d (if tp = true then .tuple (rng2 i j) else .list (rng2 i j))) st else .stuck
    | _, _ => .stuck
  | .lc elt tg it ifs _ own _, env, st => (evi it env st).bind fun xs st => if (own.map (·.2)).any (isOwn env) = true then .stuck else lcLoop tg (own.map (·.2)) (fun env st => evt ifs env st) (fun env st => ev elt env st) env xs [] st
  | .oix _ i b _ _, env, st => match env[i]? with
    | some (.own xs) => (ev b env st).bind fun y st => lift (item st (.d (.list xs)) y) st
    | _ => .stuck
  | .sset a _ _ _ _, env, st => (ev a env st).bind fun x st => match x with
    | .d (.tuple xs) => match intsOf xs with
      | some ns => if ns.length ≤ 60 then .ok (.d (.list ((sortU ns).map .int))) st else .stuck
      | none => .stuck
    | _ => .stuck
  | .sumr a b _ _ _ _, env, st => (ev a env st).bind fun x st => (ev b env st).bind fun y st => match x, y with
    | .d (.int i), .d (.int j) => if rngOk i j = true then .ok (.d (.int (rgS i j))) st else .stuck
    | _, _ => .stuck
  | .rv a _ _ _ _ _, env, st => (ev a env st).bind fun x st => lift (revV x) st
  | .stp a lo hi k _ _ _ _, env, st => (ev a env st).bind fun x st => (evo lo env st).bind fun l st => (evo hi env st).bind fun h st => lift (stepV x l h k) st
def evb (an : Bool) (x : Va) : Es → List Sl → Stt → R Va
  | .nil, _, st => .ok x st
  | .cons b r, env, st => (lift (tru st x) st).bind fun k st => if k = an then (ev b env st).bind fun y st => evb an y r env st else .ok x st
def evt : Oe → List Sl → Stt → R Bool
  | .non, _, st => .ok true st
  | .e a, env, st => tst (ev a env st)
def evo : Oe → List Sl → Stt → R (Option Int)
  | .non, _, st => .ok none st
  | .e a, env, st => (ev a env st).bind fun x st => match x with
    | .d (.int i) => .ok (some i) st
    | _ => .stuck
def evs : Es → List Sl → Stt → R (List Va)
  | .nil, _, st => .ok [] st
  | .cons a r, env, st => (ev a env st).bind fun x st => (evs r env st).bind fun xs st => .ok (x :: xs) st
def evi : It → List Sl → Stt → R (List PyData)
  | .e a, env, st => (ev a env st).bind fun x st => lift ((dat x).bind seqOf) st
  | .r1 a _ _, env, st => (ev a env st).bind fun x st => match x with
    | .d (.int j) => if rngOk 0 j = true then .ok (rng2 0 j) st else .stuck
    | _ => .stuck
  | .r2 a b _ _, env, st => (ev a env st).bind fun x st => (ev b env st).bind fun y st => match x, y with
    | .d (.int i), .d (.int j) => if rngOk i j = true then .ok (rng2 i j) st else .stuck
    | _, _ => .stuck
  | .en a _ _, env, st => (ev a env st).bind fun x st => match x with
    | .d (.list xs) => .ok (enumD 0 xs) st
    | .d (.tuple xs) => .ok (enumD 0 xs) st
    | _ => .stuck
  | .zp a b _ _, env, st => (ev a env st).bind fun x st => (ev b env st).bind fun y st => match x, y with
    | .d (.tuple xs), .d (.tuple ys) => .ok (zipD xs ys) st
    | .d (.list xs), .d (.list ys) => .ok (zipD xs ys) st
    | _, _ => .stuck
end
def evf : FE → List Sl → Stt → R (List PyData)
  | .lst es _, env, st => (evs cf es env st).bind fun xs st => lift (dats xs) st
  | .mul es _ b _, env, st => (evs cf es env st).bind fun xs st => (ev cf b env st).bind fun y st => match dats xs, y with
    | some ds, .d (.int k) => if ds.length ≤ 1000 ∧ -1000 ≤ k ∧ k ≤ 1000 then .ok (rep ds k) st else .stuck
    | _, _ => .stuck
  | .list a _ _, env, st => (ev cf a env st).bind fun x st => lift ((dat x).bind seqOf) st
  | .ife c a b _, env, st => (tst (ev cf c env st)).bind fun k st => if k = true then evf a env st else evf b env st
def xsub (c x : Str) : Bool := c == x || x == ("BaizeError" : Str)
def exSu : Su → List Sl → Stt → R Fl
  | .set _ i c _ _ _ _, env, st => .ok (.nx (sto env i (.d c.val))) st
  | .rvk _ i _ c _ _ _ _ _, env, st => match env[i]? with
    | some (.v (.d x)) => .ok (.rt (.d (.tuple [x, c.val]))) st
    | _ => .stuck
def exHs (c : Str) (env : List Sl) (st : Stt) : List Hdl → R Fl
  | [] => .exc c st
  | h :: hs => if xsub c h.x = true then exSu h.s env st else exHs c env st hs
def exTb : Tb → List Sl → Stt → R Fl
  | .set _ i e _ _, env, st => (ev cf e env st).bind fun x st => .ok (.nx (sto env i x)) st
  | .ex e _, env, st => (ev cf e env st).bind fun _ st => .ok (.nx env) st
def exTr (r : R Fl) (kn : List (Nat × Str)) (hs : List Hdl) (env : List Sl) : R Fl := match r with
  | .exc c st => if (kn.any fun q => q.2 == c) = true then exHs c env st hs else .stuck
  | r => r
mutual
def ex : S → List Sl → Stt → R Fl
  | .set _ i e _ _, env, st => (ev cf e env st).bind fun x st => .ok (.nx (sto env i x)) st
  | .own _ i e _ _, env, st => (evf cf e env st).bind fun xs st => .ok (.nx (env.set i (.own xs))) st
  | .frz i, env, st => match env[i]? with
    | some (.own xs) => .ok (.nx (sto env i (.d (.list xs)))) st
    | _ => .stuck
  | .shr i, env, st => match env[i]? with
    | some (.own xs) => .ok (.nx (sto env i (.ref st.length))) (st ++ [.lst xs])
    | _ => .stuck
  | .unp tg e _, env, st => (ev cf e env st).bind fun x st => match x with
    | .d y => lift ((stoT env tg y).map .nx) st
    | _ => .stuck
  | .par _ i _ _ j _ _ _ a b _ _ _, env, st => (ev cf a env st).bind fun x st => (ev cf b env st).bind fun y st => .ok (.nx (sto (sto env i x) j y)) st
  | .paro _ i _ _ j _ _ _ a b _ _ _, env, st => (ev cf a env st).bind fun x st => (evf cf b env st).bind fun ys st => .ok (.nx ((sto env i x).set j (.own ys))) st
  | .rapp a e _ _ _, env, st => (ev cf a env st).bind fun x st => if isL st x = true then (ev cf e env st).bind fun y st => match x, y with
    | .ref n, .d z => match st[n]? with
      | some (.lst xs) => if xs.length < szl then .ok (.nx env) (st.set n (.lst (xs ++ [z]))) else .stuck
      | _ => .stuck
    | _, _ => .stuck
    else .stuck
  | .oapp _ i _ e _ _ _, env, st => match env[i]? with
    | some (.own xs) => (ev cf e env st).bind fun y st => match y with
      | .d z => if xs.length < szl then .ok (.nx (env.set i (.own (xs ++ [z])))) st else .stuck
      | _ => .stuck
    | _ => .stuck
  | .oext _ i _ e _ _ _, env, st => match env[i]? with
    | some (.own xs) => (ev cf e env st).bind fun y st => match y with
      | .d (.list zs) => if xs.length + zs.length ≤ szl then .ok (.nx (env.set i (.own (xs ++ zs)))) st else .stuck
      | .d (.tuple zs) => if xs.length + zs.length ≤ szl then .ok (.nx (env.set i (.own (xs ++ zs)))) st else .stuck
      | _ => .stuck
    | _ => .stuck
  | .ex e _, env, st => (ev cf e env st).bind fun _ st => .ok (.nx env) st
  | .ret e _, env, st => (ev cf e env st).bind fun x st => .ok (.rt x) st
  | .ife c t e _, env, st => (tst (ev cf c env st)).bind fun k st => if k = true then exs t env st else exs e env st
  | .loop tg it b _, env, st => (evi cf it env st).bind fun xs st => forLoop tg (fun env st => exs b env st) xs env st
  | .whl c b fuel _, env, st => whlLoop (fun env st => tst (ev cf c env st)) (fun env st => exs b env st) fuel env st
  | .nev _, _, _ => .stuck
  | .oset _ i _ b e _ _, env, st => (ev cf e env st).bind fun v st => match env[i]? with
    | some (.own xs) => (ev cf b env st).bind fun y st => match y, v with
      | .d (.int k), .d z => match L2.ixN xs.length k with
        | some j => .ok (.nx (env.set i (.own (xs.set j z)))) st
        | none => .stuck
      | _, _ => .stuck
    | _ => .stuck
  | .opop tg _ i _ _ _ _, env, st => match env[i]? with
    | some (.own xs) => match xs.getLast? with
      | some z => lift ((stoT (env.set i (.own xs.dropLast)) tg z).map .nx) st
      | none => .stuck
    | _ => .stuck
  | .nest _ i a b c d _ _ _ _ _ _ _ _ _ _ _ _ _, env, st => .ok (.nx (sto env i (.ref (st.length + 2)))) (st ++ [.lst [.int a, .int b], .lst [.int c, .int d], .nest [st.length, st.length + 1]])
  | .rset o b e _ _, env, st => (ev cf e env st).bind fun v st => (ev cf o env st).bind fun x st => (ev cf b env st).bind fun y st => match x, y, v with
    | .ref n, .d (.int k), .d z => match st[n]? with
      | some (.lst xs) => match L2.ixN xs.length k with
        | some j => .ok (.nx env) (st.set n (.lst (xs.set j z)))
        | none => .stuck
      | _ => .stuck
    | _, _, _ => .stuck
  | .rse _ x _ _ _, _, st => .exc x st
  | .paroo _ i _ _ j _ _ _ a b _ _ _, env, st => (evf cf a env st).bind fun xs st => (evf cf b env st).bind fun ys st => .ok (.nx ((env.set i (.own xs)).set j (.own ys))) st
  | .par3 _ i _ _ j _ _ l _ _ _ a b c _ _ _, env, st => (ev cf a env st).bind fun x st => (ev cf b env st).bind fun y st => (ev cf c env st).bind fun z st => .ok (.nx (sto (sto (sto env i x) j y) l z)) st
  | .par3o _ i _ _ j _ _ l _ _ _ a b c _ _ _, env, st => (evf cf a env st).bind fun xs st => (ev cf b env st).bind fun y st => (ev cf c env st).bind fun z st => .ok (.nx (sto (sto (env.set i (.own xs)) j y) l z)) st
  | .unpf _ i _ _ j _ _ _ a b _ _ _, env, st => (evf cf a env st).bind fun xs st => (evf cf b env st).bind fun ys st => .ok (.nx ((env.set i (.own xs)).set j (.own ys))) st
  | .parf _ i _ _ j _ _ _ a b _ _ _, env, st => (evf cf a env st).bind fun xs st => (ev cf b env st).bind fun y st => .ok (.nx (sto (env.set i (.own xs)) j y)) st
  | .tr b h hs kn _, env, st => exTr (exTb cf b env st) kn (h :: hs) env
def exs : Ss → List Sl → Stt → R Fl
  | .nil, env, st => .ok (.nx env) st
  | .cons a r, env, st => (ex a env st).bind fun fl st => match fl with
    | .nx env2 => exs r env2 st
    | .rt v => .ok (.rt v) st
end
end
/-- a def: its slots, its body -/
structure Fd where
  n : Nat
  np : Nat
  body : Ss
def runB (cf : Nat → List Va → Stt → R Va) (d : Fd) (xs : List Va) (st : Stt) : R Va :=
  if xs.length = d.np then (exs cf d.body (xs.map .v ++ List.replicate (d.n - xs.length) .non) st).bind fun fl st => match fl with
    | .nx _ => .ok (.d .none) st
    | .rt v => .ok v st
  else .stuck
def run (G : Nat → Option Fd) : Nat → Nat → List Va → Stt → R Va
  | 0, _, _, _ => .stuck
  | n + 1, f, xs, st => match G f with
    | some d => runB (run G n) d xs st
    | none => .stuck
end Bz
/-! How values and stores lie in the abstract heap. -/
namespace Bz
open PySem L2

theorem szl_eq : szl = sizeLine := by rw [sizeLine_eq] <;> rfl
mutual
inductive Rp (F : Hp) : V → PyData → Prop
  | non : Rp F .non .none
  | bl (b : Bool) : Rp F (.bl b) (.bool b)
  | int (i : Int) : Rp F (.int i) (.int i)
  | str (x : Str) (h : PyData.canLay0 (.str x) = true) (z : x.length ≤ szl) : Rp F (.str x) (.str x)
  | lst {a : Addr} {xs : List V} {ds : List PyData} (e : F a = some (.lst xs)) (r : RpAll F xs ds) : Rp F (.ref a) (.list ds)
  | tup {a : Addr} {ob : Obj} {xs : List V} {ds : List PyData} (e : F a = some (.frz ob (.tup xs))) (n : ob.dict = none) (r : RpAll F xs ds) : Rp F (.ref a) (.tuple ds)
inductive RpAll (F : Hp) : List V → List PyData → Prop
  | nil : RpAll F [] []
  | cons {v : V} {vs : List V} {d : PyData} {ds : List PyData} (r : Rp F v d) (t : RpAll F vs ds) : RpAll F (v :: vs) (d :: ds)
end
mutual
theorem Rp.mono {F F' : Hp} (k : Same F F') : ∀ {v : V} {d : PyData}, Rp F v d → Rp F' v d
  | _, _, .non => .non
  | _, _, .bl b => .bl b
  | _, _, .int i => .int i
  | _, _, .str x h z => .str x h z
  | _, _, .lst e r => .lst (k _ _ e) (RpAll.mono k r)
  | _, _, .tup e n r => .tup (k _ _ e) n (RpAll.mono k r)
theorem RpAll.mono {F F' : Hp} (k : Same F F') : ∀ {vs : List V} {ds : List PyData}, RpAll F vs ds → RpAll F' vs ds
  | _, _, .nil => .nil
  | _, _, .cons r t => .cons (Rp.mono k r) (RpAll.mono k t)
end
mutual
theorem Rp.dp {K : PySem.W.Frag} {F H : Hp} (k : Same F H) : ∀ {v : V} {d : PyData}, Rp F v d → Dp K H v d
  | _, _, .non => .non
  | _, _, .bl b => .bl b
  | _, _, .int i => .int i
  | _, _, .str x _ _ => .str x
  | _, _, .lst e r => .lst (SqL.of (k _ _ e)) (RpAll.dp k r)
  | _, _, .tup e _ r => .tup (.inl (.inr ⟨_, k _ _ e⟩)) (RpAll.dp k r)
theorem RpAll.dp {K : PySem.W.Frag} {F H : Hp} (k : Same F H) : ∀ {vs : List V} {ds : List PyData}, RpAll F vs ds → DpAll K H vs ds
  | _, _, .nil => .nil
  | _, _, .cons r t => .cons (Rp.dp k r) (RpAll.dp k t)
end
mutual
theorem Rp.lay {F : Hp} : ∀ {v : V} {d : PyData}, Rp F v d → d.canLay0 = true
  | _, _, .non => by simp [PyData.canLay0]
  | _, _, .bl b => by simp [PyData.canLay0]
  | _, _, .int i => by simp [PyData.canLay0]
  | _, _, .str x h _ => h
  | _, _, .lst _ r => by
    have := RpAll.lay r
    simpa [PyData.canLay0] using this
  | _, _, .tup _ _ r => by
    have := RpAll.lay r
    simpa [PyData.canLay0] using this
theorem RpAll.lay {F : Hp} : ∀ {vs : List V} {ds : List PyData}, RpAll F vs ds → PyData.canLayAll0 ds = true
  | _, _, .nil => by simp [PyData.canLayAll0]
  | _, _, .cons r t => by
    have h1 := Rp.lay r
    have h2 := RpAll.lay t
    simp [PyData.canLayAll0, h1, h2]
end
theorem RpAll.length {F : Hp} : ∀ {vs : List V} {ds : List PyData}, RpAll F vs ds → vs.length = ds.length
  | _, _, .nil => rfl
  | _, _, .cons _ t => by simp [t.length]
theorem RpAll.get {F : Hp} : ∀ {vs : List V} {ds : List PyData} {i : Nat} {d : PyData}, RpAll F vs ds → ds[i]? = some d → ∃ v, vs[i]? = some v ∧ Rp F v d
  | _, _, _, _, .nil, e => by simp at e
  | _, _, 0, _, .cons r _, e => by simp at e; subst e; exact ⟨_, rfl, r⟩
  | _, _, i + 1, d, .cons _ t, e => by
    obtain ⟨v, h1, h2⟩ := RpAll.get (i := i) (d := d) t (by simpa using e)
    exact ⟨v, by simpa using h1, h2⟩
theorem RpAll.get' {F : Hp} : ∀ {vs : List V} {ds : List PyData} {i : Nat} {v : V}, RpAll F vs ds → vs[i]? = some v → ∃ d, ds[i]? = some d ∧ Rp F v d
  | _, _, _, _, .nil, e => by simp at e
  | _, _, 0, _, .cons r _, e => by simp at e; subst e; exact ⟨_, rfl, r⟩
  | _, _, i + 1, d, .cons _ t, e => by
    obtain ⟨v, h1, h2⟩ := RpAll.get' (i := i) (v := d) t (by simpa using e)
    exact ⟨v, by simpa using h1, h2⟩
theorem RpAll.append {F : Hp} : ∀ {vs us : List V} {ds es : List PyData}, RpAll F vs ds → RpAll F us es → RpAll F (vs ++ us) (ds ++ es)
  | _, _, _, _, .nil, s => s
  | _, _, _, _, .cons r t, s => .cons r (t.append s)
theorem RpAll.take {F : Hp} : ∀ {vs : List V} {ds : List PyData} (n : Nat), RpAll F vs ds → RpAll F (vs.take n) (ds.take n)
  | _, _, 0, _ => .nil
  | _, _, _ + 1, .nil => .nil
  | _, _, n + 1, .cons r t => .cons r (t.take n)
theorem RpAll.drop {F : Hp} : ∀ {vs : List V} {ds : List PyData} (n : Nat), RpAll F vs ds → RpAll F (vs.drop n) (ds.drop n)
  | _, _, 0, r => r
  | _, _, _ + 1, .nil => .nil
  | _, _, n + 1, .cons _ t => t.drop n
theorem RpAll.set {F : Hp} : ∀ {vs : List V} {ds : List PyData} {v : V} {d : PyData}, RpAll F vs ds → Rp F v d → ∀ i, RpAll F (vs.set i v) (ds.set i d)
  | _, _, _, _, .nil, _, _ => .nil
  | _, _, _, _, .cons r t, q, 0 => .cons q t
  | _, _, _, _, .cons r t, q, i + 1 => .cons r (t.set q i)
theorem RpAll.dropLast {F : Hp} {vs : List V} {ds : List PyData} (r : RpAll F vs ds) : RpAll F vs.dropLast ds.dropLast := by
  rw [List.dropLast_eq_take, List.dropLast_eq_take, r.length]
  exact r.take _
theorem RpAll.rep {F : Hp} {vs : List V} {ds : List PyData} (r : RpAll F vs ds) : ∀ k : Nat, RpAll F (List.replicate k vs).flatten (List.replicate k ds).flatten
  | 0 => .nil
  | k + 1 => by
    rw [List.replicate_succ, List.replicate_succ, List.flatten_cons, List.flatten_cons]
    exact r.append (r.rep k)
theorem RpAll.cut {F : Hp} {vs : List V} {ds : List PyData} (r : RpAll F vs ds) (lo hi : Option Int) : RpAll F (cutV vs lo hi) (Bz.cut ds lo hi) := by
  unfold cutV Bz.cut
  rw [← r.length]
  exact (r.drop _).take _
theorem RpAll.reverse {F : Hp} : ∀ {vs : List V} {ds : List PyData}, RpAll F vs ds → RpAll F vs.reverse ds.reverse
  | _, _, .nil => .nil
  | _, _, .cons r t => by
    rw [List.reverse_cons, List.reverse_cons]
    exact t.reverse.append (.cons r .nil)
theorem RpAll.pick {F : Hp} {vs : List V} {ds : List PyData} (r : RpAll F vs ds) : ∀ (l : List Nat), RpAll F (l.filterMap fun m => vs[m]?) (l.filterMap fun m => ds[m]?)
  | [] => .nil
  | m :: l => by
    rw [List.filterMap_cons, List.filterMap_cons]
    cases hx : vs[m]? with
    | none =>
      have hl := r.length
      have : ds[m]? = none := by rw [List.getElem?_eq_none_iff] at hx ⊢; omega
      rw [this]
      exact r.pick l
    | some x =>
      obtain ⟨d, h1, h2⟩ := r.get' hx
      rw [h1]
      exact .cons h2 (r.pick l)
theorem RpAll.step {F : Hp} {vs : List V} {ds : List PyData} (r : RpAll F vs ds) (lo hi : Option Int) (k : Int) : RpAll F (stepL vs lo hi k) (stepL ds lo hi k) := by
  have e : ∀ {α : Type} (xs : List α), stepL xs lo hi k = ((List.range (Builtin.Slice.slicePlaces (Builtin.Slice.sliceAdjust lo hi k xs.length).1 (Builtin.Slice.sliceAdjust lo hi k xs.length).2 k)).map fun (m : Nat) => ((Builtin.Slice.sliceAdjust lo hi k xs.length).1 + (m : Int) * k).toNat).filterMap fun m => xs[m]? := fun xs => by
    unfold stepL
    rw [List.filterMap_map]
    rfl
  rw [e, e, r.length]
  exact r.pick _
theorem RpAll.ints {F : Hp} : ∀ {vs : List V} {ds : List PyData} {ns : List Int}, RpAll F vs ds → intsOf ds = some ns → vs = ns.map V.int
  | _, _, ns, .nil, e => by simp [intsOf] at e; subst e; rfl
  | _, _, ns, .cons (d := d) r t, e => by
    cases r with
    | int i =>
      simp only [intsOf, Option.map_eq_some_iff] at e
      obtain ⟨m, h1, rfl⟩ := e
      rw [t.ints h1]; rfl
    | non => simp [intsOf] at e
    | bl => simp [intsOf] at e
    | str => simp [intsOf] at e
    | lst => simp [intsOf] at e
    | tup => simp [intsOf] at e
theorem RpAll.bools {F : Hp} : ∀ {vs : List V} {ds : List PyData} {ns : List Bool}, RpAll F vs ds → boolsOf ds = some ns → vs = ns.map V.bl
  | _, _, ns, .nil, e => by simp [boolsOf] at e; subst e; rfl
  | _, _, ns, .cons (d := d) r t, e => by
    cases r with
    | bl i =>
      simp only [boolsOf, Option.map_eq_some_iff] at e
      obtain ⟨m, h1, rfl⟩ := e
      rw [t.bools h1]; rfl
    | non => simp [boolsOf] at e
    | int => simp [boolsOf] at e
    | str => simp [boolsOf] at e
    | lst => simp [boolsOf] at e
    | tup => simp [boolsOf] at e
theorem RpAll.rng {F : Hp} (a b : Int) : RpAll F (rgV a b) (rng2 a b) := by
  unfold rgV rng2
  generalize (b - a).toNat = n
  generalize hf : List.range n = l
  clear hf
  induction l with
  | nil => exact .nil
  | cons x r ih => exact .cons (.int _) ih
theorem rp_flat {F : Hp} {v : V} {d : PyData} (r : Rp F v d) (h : flat d = true) : flatV v = true := by
  cases r <;> first | rfl | (simp [flat] at h)
theorem rp_flats {F : Hp} : ∀ {vs : List V} {ds : List PyData}, RpAll F vs ds → ds.all flat = true → vs.all flatV = true
  | _, _, .nil, _ => rfl
  | _, _, .cons r t, h => by
    rw [List.all_cons, Bool.and_eq_true] at h
    rw [List.all_cons, rp_flat r h.1, rp_flats t h.2]; rfl
theorem rp_eqv {F : Hp} {u v : V} {c d : PyData} (r : Rp F u c) (q : Rp F v d) (h : flat c = true) (k : flat d = true) : eqV u v = PyData.eqv c d := by
  cases r <;> cases q <;> first | (simp [eqV, PyData.eqv]; done) | (simp [flat] at h; done) | (simp [flat] at k; done)
theorem rp_in {F : Hp} {v : V} {d : PyData} (q : Rp F v d) (k : flat d = true) : ∀ {vs : List V} {ds : List PyData}, RpAll F vs ds → ds.all flat = true → inV v vs = inD d ds
  | _, _, .nil, _ => rfl
  | _, _, .cons r t, h => by
    rw [List.all_cons, Bool.and_eq_true] at h
    have ih := rp_in q k t h.2
    unfold inV inD at ih ⊢
    rw [List.any_cons, List.any_cons, ih, rp_eqv r q h.1 k]

/-! ### a ghost world: what is frozen, where the store's objects lie, what must stay -/
structure Gh where
  F : Hp
  m : Nat → Option Addr
  C : Hp
structure Gh.le (g g' : Gh) : Prop where
  f : Same g.F g'.F
  m : ∀ n a, g.m n = some a → g'.m n = some a
  c : g'.C = g.C
theorem Gh.le.refl (g : Gh) : g.le g := ⟨Same.refl _, fun _ _ h => h, rfl⟩
theorem Gh.le.trans {a b c : Gh} (x : a.le b) (y : b.le c) : a.le c := ⟨x.f.trans y.f, fun n p h => y.m n p (x.m n p h), y.c.trans x.c⟩
/-- a value -/
def RepV (g : Gh) : V → Va → Prop
  | v, .d x => Rp g.F v x
  | v, .ref n => ∃ a, v = .ref a ∧ g.m n = some a
  | _, .dct _ => False
def RepAll (g : Gh) : List V → List Va → Prop
  | [], [] => True
  | v :: vs, x :: xs => RepV g v x ∧ RepAll g vs xs
  | _, _ => False
theorem RepV.mono {g g' : Gh} (k : g.le g') : ∀ {v : V} {x : Va}, RepV g v x → RepV g' v x
  | v, .d x, h => Rp.mono k.f h
  | v, .ref n, ⟨a, e, h⟩ => ⟨a, e, k.m _ _ h⟩
  | _, .dct _, h => h.elim
theorem RepAll.mono {g g' : Gh} (k : g.le g') : ∀ {vs : List V} {xs : List Va}, RepAll g vs xs → RepAll g' vs xs
  | [], [], _ => trivial
  | v :: vs, x :: xs, ⟨h, t⟩ => ⟨h.mono k, RepAll.mono k t⟩
  | [], _ :: _, h => h.elim
  | _ :: _, [], h => h.elim
theorem RepAll.length {g : Gh} : ∀ {vs : List V} {xs : List Va}, RepAll g vs xs → vs.length = xs.length
  | [], [], _ => rfl
  | v :: vs, x :: xs, ⟨_, t⟩ => by simp [RepAll.length t]
  | [], _ :: _, h => h.elim
  | _ :: _, [], h => h.elim
theorem RepAll.dats {g : Gh} : ∀ {vs : List V} {xs : List Va} {ds : List PyData}, RepAll g vs xs → dats xs = some ds → RpAll g.F vs ds
  | [], [], _, _, e => by simp [Bz.dats] at e; subst e; exact .nil
  | v :: vs, x :: xs, ds, ⟨h, t⟩, e => by
    cases x with
    | d y =>
      simp only [Bz.dats, Option.map_eq_some_iff] at e
      obtain ⟨m, h1, rfl⟩ := e
      exact .cons h (RepAll.dats t h1)
    | ref n => simp [Bz.dats] at e
    | dct n => simp [Bz.dats] at e
  | [], _ :: _, _, h, _ => h.elim
  | _ :: _, [], _, h, _ => h.elim
/-- an object of the store -/
def ObR (g : Gh) (H : Hp) (a : Addr) : Ob → Prop
  | .lst xs => ∃ vs, H a = some (.lst vs) ∧ RpAll g.F vs xs
  | .scr ns => ∃ o, H a = some (.frz o (.lst (ns.map V.int)))
  | .nest ns => ∃ vs, H a = some (.lst vs) ∧ vs.length = ns.length ∧ ∀ (k n : Nat), ns[k]? = some n → ∃ b, vs[k]? = some (.ref b) ∧ g.m n = some b
  | _ => False
structure RelC (g : Gh) (st : Stt) (H : Hp) : Prop where
  fh : Same g.F H
  ch : Same g.C H
  cf : ∀ b o, g.C b = some o → g.F b = none
  ob : ∀ (n : Nat) (o : Ob), st[n]? = some o → ∃ a, g.m n = some a ∧ g.F a = none ∧ g.C a = none ∧ ObR g H a o
  inj : ∀ n n' a, g.m n = some a → g.m n' = some a → n = n'
  dom : ∀ n a, g.m n = some a → n < st.length
structure EnvR (g : Gh) (env : List Sl) (σ : L2.St) (H : Hp) : Prop where
  len : env.length = σ.length
  val : ∀ (i : Nat) (x : Va), env[i]? = some (Sl.v x) → ∃ v, σ[i]? = some (some v) ∧ RepV g v x
  own : ∀ (i : Nat) (xs : List PyData), env[i]? = some (Sl.own xs) → ∃ a vs, σ[i]? = some (some (V.ref a)) ∧ H a = some (.lst vs) ∧ RpAll g.F vs xs ∧ g.F a = none ∧ g.C a = none ∧ ∀ n, g.m n ≠ some a
  dis : ∀ (i j : Nat) (xs ys : List PyData) (a : Addr), env[i]? = some (Sl.own xs) → env[j]? = some (Sl.own ys) → σ[i]? = some (some (V.ref a)) → σ[j]? = some (some (V.ref a)) → i = j
structure Rel (g : Gh) (env : List Sl) (st : Stt) (σ : L2.St) (H : Hp) : Prop where
  c : RelC g st H
  e : EnvR g env σ H
theorem same_upd {H : Hp} {p : Addr} {o : HO} (h : H p = none) : Same H (upd H p o) := fun b x e => by
  rw [upd_ne (ne_of_none e h)]; exact e
theorem same_upd2 {F H : Hp} {p : Addr} {o : HO} (k : Same F H) (h : H p = none) : Same (upd F p o) (upd H p o) := fun b x e => by
  by_cases hb : b = p
  · subst hb; rw [upd_same] at e ⊢; exact e
  · rw [upd_ne hb] at e ⊢; exact k b x e
/-- a new frozen object -/
def Gh.put (g : Gh) (p : Addr) (o : HO) : Gh := { g with F := upd g.F p o }
theorem ObR.mono {g g' : Gh} {H H' : Hp} {a : Addr} (k : Same g.F g'.F) (km : ∀ n b, g.m n = some b → g'.m n = some b) (e : ∀ o, H a = some o → H' a = some o) : ∀ {o : Ob}, ObR g H a o → ObR g' H' a o
  | .lst xs, ⟨vs, h, r⟩ => ⟨vs, e _ h, r.mono k⟩
  | .scr ns, ⟨o, h⟩ => ⟨o, e _ h⟩
  | .nest ns, ⟨vs, h, l, q⟩ => ⟨vs, e _ h, l, fun j n z => let ⟨b, h1, h2⟩ := q j n z; ⟨b, h1, km n b h2⟩⟩
  | .ins _ _, h => h.elim
theorem RelC.put {g : Gh} {st : Stt} {H : Hp} {p : Addr} {o : HO} (r : RelC g st H) (h : H p = none) : RelC (g.put p o) st (upd H p o) ∧ g.le (g.put p o) := by
  have fp : g.F p = none := r.fh.free h
  have cp : g.C p = none := r.ch.free h
  refine ⟨⟨same_upd2 r.fh h, r.ch.trans (same_upd h), fun b x e => ?_, fun n x e => ?_, r.inj, r.dom⟩, ⟨same_upd fp, fun _ _ q => q, rfl⟩⟩
  · have nb : b ≠ p := ne_of_none (H := g.C) e cp
    show upd g.F p o b = none
    rw [upd_ne nb]; exact r.cf b x e
  · obtain ⟨a, h1, h2, h3, h4⟩ := r.ob n x e
    have na : a ≠ p := by
      cases x with
      | lst xs => obtain ⟨vs, e', _⟩ := h4; exact ne_of_none e' h
      | scr ns => obtain ⟨vs, e'⟩ := h4; exact ne_of_none e' h
      | nest ns => obtain ⟨vs, e', _⟩ := h4; exact ne_of_none e' h
      | ins => exact h4.elim
    refine ⟨a, h1, ?_, h3, ObR.mono (g := g) (g' := g.put p o) (same_upd fp) (fun _ _ q => q) (fun o' e' => ?_) h4⟩
    · show upd g.F p o a = none
      rw [upd_ne na]; exact h2
    · rw [upd_ne na]; exact e'
theorem Rel.put {g : Gh} {env : List Sl} {st : Stt} {σ : L2.St} {H : Hp} {p : Addr} {o : HO} (r : Rel g env st σ H) (h : H p = none) : Rel (g.put p o) env st σ (upd H p o) ∧ g.le (g.put p o) := by
  obtain ⟨rc, le⟩ := r.c.put (o := o) h
  refine ⟨⟨rc, ⟨r.e.len, fun i x e => ?_, fun i xs e => ?_, r.e.dis⟩⟩, le⟩
  · obtain ⟨v, h1, h2⟩ := r.e.val i x e
    exact ⟨v, h1, h2.mono le⟩
  · obtain ⟨a, vs, h1, h2, h3, h4, h5, h6⟩ := r.e.own i xs e
    have na : a ≠ p := ne_of_none h2 h
    refine ⟨a, vs, h1, by rw [upd_ne na]; exact h2, h3.mono le.f, ?_, h5, h6⟩
    show upd g.F p o a = none
    rw [upd_ne na]; exact h4
end Bz
/-! Rules by values: tuples whose object is known, sums, counts. -/
namespace Bz
open PySem PySem.Spec PyProof.Rows L2

abbrev tupO (us : List Value) : Obj := { cls := .type "tuple", data := .seq us.toArray }
/-- a new tuple, told as an object without a dict -/
def NewT (xs : List V) (H : Hp) (Q : VK) : Prop := ∀ p ob, H p = none → ob.dict = none → Q (.ref p) (upd H p (.frz ob (.tup xs)))
section
variable {X : Cx} {pins : List (Addr × Obj)} {σ : L2.St} {H : Hp} {s : Shared} {Q : VK} {xs : List V} {us : List Value} {pos : Pos}
theorem newT {tk : Nat} (I : Inv X pins σ H s) (r : Vals xs us) (z : xs.length ≤ sizeLine) (q : NewT xs H Q) : EP X pins σ Q (.ref s.heap.objs.size) { s with heap := s.heap.push (tupO us), toks := tk } := by
  have fr : H s.heap.objs.size = none := I.hok.fresh (Nat.le_refl _)
  have ok : ObjOk X.prog X.w (upd H s.heap.objs.size (.frz (tupO us) (.tup xs))) (s.heap.push (tupO us)) s.heap.objs.size (.frz (tupO us) (.tup xs)) := ⟨Heap.get?_push_size _ rfl, z, us, r, IsTup.new _ _⟩
  exact ⟨.ref _, _, I.laid (t' := tk) (fun _ _ e => Heap.get?_push_of_some _ e) (Nat.le_refl _) ok, rfl, q _ _ fr rfl⟩
theorem newT0 (I : Inv X pins σ H s) (r : Vals xs us) (z : xs.length ≤ sizeLine) (q : NewT xs H Q) : EP X pins σ Q (.ref s.heap.objs.size) { s with heap := s.heap.push (tupO us) } := newT (tk := s.toks) I r z q
/-- (a, b, ..) -/
def tTupF (t : TA) : TE := fun σ H Q => t σ H fun xs H1 => xs.length ≤ sizeLine ∧ NewT xs H1 Q
theorem pe_tupF {es : List Expr} {t : TA} {k : Nat} (h : PA X es t) : PE X (.Tuple es k pos) (tTupF t) := ⟨fun pins s σ H Q I hq => by
  refine wpAny_Tuple_spliced (thn (h.run pos pins s σ H _ I hq) ?_)
  rintro us s1 ⟨xs, H1, I1, r, z, q⟩
  exact ⟨Nat.le_trans (Nat.le_of_eq r.length.symm) z, newT0 I1 r z q⟩⟩
/-- t + u -/
def rCatF (K : PySem.W.Frag) : R2 := fun x y H Q => ∃ a b xs ys, x = .ref a ∧ y = .ref b ∧ SqT K H a xs ∧ SqT K H b ys ∧ xs.length + ys.length ≤ sizeLine ∧
  (xs = [] → Q (.ref b) H) ∧ (ys = [] → Q (.ref a) H) ∧ NewT (xs ++ ys) H Q
theorem op_catF : OpR X (binaryOp .Add) (rCatF X.K) := by
  rintro pins s σ H x y v u Q I rx ry ⟨a, b, xs, ys, rfl, rfl, ha, hb, hz, q0, q1, q2⟩
  cases rx
  cases ry
  obtain ⟨vs, r1, p1, -⟩ := I.tuple ha
  obtain ⟨ws, r2, p2, -⟩ := I.tuple hb
  by_cases hx : vs = []
  · subst hx
    exact cat_tup0 p1 p2 ⟨.ref b, H, I, rfl, q0 (r1.nil_iff.mp rfl)⟩
  · exact HT.cat_tup p1 p2 hx (fun e => ⟨.ref a, H, I, rfl, q1 (r2.nil_iff.mp e)⟩) (fun _ => newT0 I (r1.append r2) (by simpa using hz) q2) (by simpa [r1.length, r2.length] using hz)
/-- t[lo:hi] -/
def rSlF (K : PySem.W.Frag) : V → Option Int → Option Int → Hp → VK → Prop := fun x lo hi H Q => ∃ a xs, x = .ref a ∧ SqT K H a xs ∧ (cutV xs lo hi = xs → Q (.ref a) H) ∧ NewT (cutV xs lo hi) H Q
theorem sl_tupF : SlR X (rSlF X.K) := by
  rintro pins s σ H x v vl vu lo hi sl Q I rx hs pl pu ⟨a, xs, rfl, hx, q1, q2⟩
  cases rx
  obtain ⟨vs, r, ht, hz⟩ := I.tuple hx
  have hl : vs.toArray.size = xs.length := by simpa using r.length.symm
  refine ⟨"tuple", _, PyProof.Rows.slot_tuple_getitem.lookup, ht.typeIs, ?_⟩
  by_cases hw : HT.sIx xs.length 0 lo = 0 ∧ HT.sIx xs.length xs.length hi = xs.length
  · refine getItem_tuple_whole ht hs pl pu (by rw [hl]; exact hw) ⟨.ref a, H, I, rfl, q1 ?_⟩
    unfold cutV
    rw [hw.1, hw.2]
    simp
  · refine HT.getItem_tuple_cut ht hs pl pu (by rw [hl]; exact hw) ?_ (by rw [hl]; exact hz)
    rw [hl]
    refine newT0 I ?_ (Nat.le_trans (cutV_length xs lo hi) hz) q2
    exact (r.drop _).take _
/-- tuple(xs), tuple(t) -/
def rTupF (K : PySem.W.Frag) : List V → Hp → VK → Prop := fun vs H Q => ∃ p ys, vs = [.ref p] ∧ ((SqL K H p ys ∧ NewT ys H Q) ∨ (SqT K H p ys ∧ Q (.ref p) H))
theorem call_tupF : CallR X (.type "tuple") (rTupF X.K) := by
  rintro pins s σ H vs us Q I r ⟨p, ys, rfl, h⟩
  obtain ⟨u, rfl, rx⟩ := vals1 r
  cases rx
  rcases h with ⟨hq, q⟩ | ⟨hq, q⟩
  · obtain ⟨vs, r', pl, hz⟩ := I.list hq
    refine call_tuple_list pl.isList (fun h' kp => ?_) (by simpa [r'.length] using hz)
    exact newT0 (I.kept (t' := s.toks) kp) r' hz q
  · obtain ⟨vs, r', pl, hz⟩ := I.tuple hq
    exact call_tuple_same pl ⟨.ref p, H, I, rfl, q⟩
/-- tuple(range(a, b)) -/
def tTupRgF (te : L2.St → Hp → (Int → Int → Hp → Prop) → Prop) : TE := fun σ H Q => te σ H fun a b H1 => RgOk a b ∧ NewT (rgV a b) H1 Q
theorem pe_tupRgF {e : Expr} {te : L2.St → Hp → (Int → Int → Hp → Prop) → Prop} {p : Pos} (hc : X.calm = true) (hg : Gl X "tuple") (hm : X.mg "tuple" = none) (he : PRg X e te)
    (na : starEach [e] X.env = (false, eval e X.env) :: starEach [] X.env) : PE X (.Call (.Name "tuple" p) [e] [] pos) (tTupRgF te) := ⟨fun pins s σ H Q I h => by
  refine Call_ (ld_blt I hg hm boot_tuple (PyProof.Rows.callWith_type1 (args_cons (thn (he pins s σ H _ I h) ?_) na) na))
  rintro x s1 ⟨r, a, b, t, u, v, H1, rfl, hr, I1, ⟨b1, b2, b3, b4, b5⟩, q⟩
  refine args_nil (call_tuple_range (I1.ok.hd hc) hr (small_one b1 b2 b3 b4) (rangeSize_nat a b) b5 ?_)
  intro h' tk acc hk hi
  have nt := newT (tk := tk) (I1.kept (t' := tk) hk) (vals_rg hi) (by rw [rgV_length, sizeLine_eq]; omega) q
  simpa using nt⟩
end

/-! ### t * k -/
section
theorem tuple_mul1 (l : Addr) (items : Array Value) (n : Nat) (dd : Option Addr) (sl : Array (Option Value)) (x : Int) (u : Tok) (c0 : (decide (x < -(2 ^ 63)) || decide (x ≥ 2 ^ 63)) = false) (c1 : (items.isEmpty || x == 1) = true) :
    Meets (Builtin.«tuple.__mul__» ⟨[.ref l, .int x u], []⟩) (fun _ R s => s.heap.get? l = some { cls := .type "tuple", dict := dd, data := .seq items n, slots := sl } ∧ R (.ok (.ret (Value.ref l))) s) :=
  .of_wp fun prog w A R s h => by
    obtain ⟨hp, g, d, tk, os⟩ := s
    obtain ⟨hl, h⟩ := h
    have f1 := AutoSeq1.idx_int
    wp_walk using wpAny_loadPart' hl
    repeat (first
      | (refine wpAny_ite_false (decide_eq_false (by rw [c0]; exact Bool.false_ne_true)) ?_; wp_walk using wpAny_loadPart' hl)
      | (refine wpAny_ite_true (decide_eq_true c1) ?_; wp_walk using wpAny_loadPart' hl))
    exact ⟨_, rfl, h⟩
theorem tuple_mul0 (l : Addr) (items : Array Value) (n : Nat) (dd : Option Addr) (sl : Array (Option Value)) (x : Int) (u : Tok) (c0 : (decide (x < -(2 ^ 63)) || decide (x ≥ 2 ^ 63)) = false) (c1 : (items.isEmpty || x == 1) = false) (c2 : (decide (x ≤ 0) || items.isEmpty) = true) :
    Meets (Builtin.«tuple.__mul__» ⟨[.ref l, .int x u], []⟩) (fun _ R s => s.heap.get? l = some { cls := .type "tuple", dict := dd, data := .seq items n, slots := sl } ∧
      R (.ok (.ret (Value.ref s.heap.objs.size))) { s with heap := s.heap.push { cls := Value.type "tuple", data := Data.seq #[] }, toks := s.toks }) :=
  .of_wp fun prog w A R s h => by
    obtain ⟨hp, g, d, tk, os⟩ := s
    obtain ⟨hl, h⟩ := h
    have f1 := AutoSeq1.idx_int
    wp_walk using wpAny_loadPart' hl
    repeat (first
      | (refine wpAny_ite_false (decide_eq_false (by rw [c0]; exact Bool.false_ne_true)) ?_; wp_walk using wpAny_loadPart' hl)
      | (refine wpAny_ite_false (decide_eq_false (by rw [c1]; exact Bool.false_ne_true)) ?_; wp_walk using wpAny_loadPart' hl)
      | (refine wpAny_ite_true (decide_eq_true c2) ?_; wp_walk using wpAny_loadPart' hl)
      | (refine wpAny_ite_false (decide_eq_false (Nat.not_lt.mpr (Nat.zero_le _))) ?_; wp_walk using wpAny_loadPart' hl))
    exact ⟨_, rfl, h⟩
end
end Bz
namespace Bz
open PySem PySem.Spec PyProof.Rows L2
section
variable {X : Cx}
def rRepF (K : PySem.W.Frag) : R2 := fun x y H Q => ∃ l k xs, x = .ref l ∧ y = .int k ∧ SqT K H l xs ∧ xs.length ≤ 1000 ∧ -1000 ≤ k ∧ k ≤ 1000 ∧ (rep xs k = xs → Q (.ref l) H) ∧ NewT (rep xs k) H Q
theorem op_repF : OpR X (binaryOp .Mult) (rRepF X.K) := by
  rintro pins s σ H x y v u Q I rx ry ⟨l, k, xs, rfl, rfl, hT, hz, h1, h2, q1, q2⟩
  cases rx
  obtain ⟨t, rfl⟩ := ry
  obtain ⟨vs, r, ⟨⟨cls, dd, data, sl⟩, ho, hc, n, hd⟩, hs⟩ := I.tuple hT
  simp only at hc hd
  subst hc hd
  have hle : vs.length = xs.length := r.length.symm
  have e0 : vs.toArray.isEmpty = xs.isEmpty := by
    cases vs <;> cases xs <;> first | rfl | (simp at hle)
  have c0 : (decide (k < -(2 ^ 63)) || decide (k ≥ 2 ^ 63)) = false := by simp; omega
  have go : ∀ {Q' : Value → Shared → Prop}, codeAny (model X.prog X.w) X.A (.call (.builtin "tuple.__mul__") ⟨[.ref l, .int k t], []⟩) (fun r s' => True) s → True := fun _ => trivial
  by_cases hk1 : (vs.toArray.isEmpty || k == 1) = true
  · refine wpAny_binaryOp_repeat_ref (T := "tuple") (U := "int") (by decide) ⟨_, ho, rfl⟩ (fun s' => typeIs_int s' k t) noFill_tuple_mul F.fills_int_mul F.slot_int_rmul repeat_tuple F.slot_int_index.lookup
      (call_meets F.slot_int_rmul (typeIs_int s k t) F.entry_int_rmul (F.args_int_rmul_2 _ _) (int_rmul_tuple k t l vs.toArray n dd sl)
        ⟨ho, rfl, ⟨_, ho, rfl⟩, call_meets F.slot_tuple_mul ⟨_, ho, rfl⟩ F.entry_tuple_mul (F.args_tuple_mul_2 _ _) (tuple_mul1 l vs.toArray n dd sl k t c0 hk1) ⟨ho, ?_⟩⟩)
    refine ⟨.ref l, H, I, rfl, q1 ?_⟩
    rw [e0, Bool.or_eq_true] at hk1
    rcases hk1 with z | z
    · have : xs = [] := by simpa using z
      subst this
      simp [rep]
    · have : k = 1 := by simpa using z
      subst this
      simp [rep]
  · have hk1' : (vs.toArray.isEmpty || k == 1) = false := by simpa using hk1
    by_cases hk2 : (decide (k ≤ 0) || vs.toArray.isEmpty) = true
    · refine wpAny_binaryOp_repeat_ref (T := "tuple") (U := "int") (by decide) ⟨_, ho, rfl⟩ (fun s' => typeIs_int s' k t) noFill_tuple_mul F.fills_int_mul F.slot_int_rmul repeat_tuple F.slot_int_index.lookup
        (call_meets F.slot_int_rmul (typeIs_int s k t) F.entry_int_rmul (F.args_int_rmul_2 _ _) (int_rmul_tuple k t l vs.toArray n dd sl)
          ⟨ho, rfl, ⟨_, ho, rfl⟩, call_meets F.slot_tuple_mul ⟨_, ho, rfl⟩ F.entry_tuple_mul (F.args_tuple_mul_2 _ _) (tuple_mul0 l vs.toArray n dd sl k t c0 hk1' hk2) ⟨ho, ?_⟩⟩)
      rw [Bool.or_eq_false_iff] at hk1'
      have hk : k ≤ 0 := by simpa [hk1'.1] using hk2
      have e : rep xs k = [] := by
        unfold rep
        rw [show k.toNat = 0 by omega]
        rfl
      rw [e] at q2
      exact newT (us := []) I .nil (Nat.zero_le _) q2
    · have hk2' : (decide (k ≤ 0) || vs.toArray.isEmpty) = false := by simpa using hk2
      have hk : 0 < k := by
        rw [Bool.or_eq_false_iff] at hk2'
        simpa using hk2'.1
      have hsz0 : vs.toArray.size = xs.length := by simpa using hle
      have hm : ((vs.toArray.size : Nat) : Int) * k ≤ 1000 * 1000 := by
        rw [hsz0]
        exact Int.mul_le_mul (by omega) h2 (by omega) (by omega)
      have fl : (rep xs k).length ≤ 1000000 := by
        unfold rep
        rw [PyProof.Rows.lm_len_rep_flat]
        exact Nat.mul_le_mul (show k.toNat ≤ 1000 by omega) hz
      have c4 : Builtin.Tuple.tupleTooMany (((vs.toArray.size : Nat) : Int) * k) = false := by
        unfold Builtin.Tuple.tupleTooMany
        rw [sizeLine_eq]
        exact decide_eq_false (by omega)
      refine wpAny_binaryOp_repeat_ref (T := "tuple") (U := "int") (by decide) ⟨_, ho, rfl⟩ (fun s' => typeIs_int s' k t) noFill_tuple_mul F.fills_int_mul F.slot_int_rmul repeat_tuple F.slot_int_index.lookup
        (call_meets F.slot_int_rmul (typeIs_int s k t) F.entry_int_rmul (F.args_int_rmul_2 _ _) (int_rmul_tuple k t l vs.toArray n dd sl)
          ⟨ho, rfl, ⟨_, ho, rfl⟩, call_meets F.slot_tuple_mul ⟨_, ho, rfl⟩ F.entry_tuple_mul (F.args_tuple_mul_2 _ _) (tuple_mulW l vs.toArray n dd sl k t c0 hk1' hk2' (by omega) c4
            (by rw [size_rep, List.size_toArray, PyProof.Rows.lm_len_rep_flat, hle, sizeLine_eq]; have := Nat.mul_le_mul (show k.toNat ≤ 1000 by omega) hz; omega)) ⟨ho, ?_⟩⟩)
      rw [size_rep]
      exact newT I (r.rep k.toNat) (by rw [sizeLine_eq]; exact Nat.le_trans fl (by omega)) q2
/-- xs * k of lists -/
def rRepL : R2 := fun x y H Q => ∃ l k xs, x = .ref l ∧ y = .int k ∧ H l = some (.lst xs) ∧ xs.length ≤ 1000 ∧ -1000 ≤ k ∧ k ≤ 1000 ∧ ∀ p, H p = none → Q (.ref p) (upd H p (.lst (rep xs k)))
theorem op_repL : OpR X (binaryOp .Mult) rRepL := by
  rintro pins s σ H x y v u Q I rx ry ⟨l, k, xs, rfl, rfl, hT, hz, h1, h2, q⟩
  refine op_rep pins s σ H _ _ v u Q I rx ry ⟨l, k, xs, rfl, rfl, hT, by omega, by omega, ?_, q⟩
  rw [sizeLine_eq]
  have := Nat.mul_le_mul hz (show k.toNat ≤ 1000 by omega)
  omega
/-! ### t.count(x), xs.count(x) of flat things -/
theorem countP_V {x : V} {f : V → Bool} (hf : ∀ y, f y = eqV y x) : ∀ {xs : List V} {us : List Value}, Vals xs us → xs.all flatV = true → us.countP (eqU x) = xs.countP f
  | _, _, .nil, _ => rfl
  | _, _, .cons r t, h => by
    rw [List.all_cons, Bool.and_eq_true] at h
    rw [List.countP_cons, List.countP_cons, countP_V hf t h.2, eqU_of r h.1, hf]
def rCntT : V → List V → Hp → VK → Prop := fun x vs H Q => ∃ p ob xs y, x = .ref p ∧ vs = [y] ∧ H p = some (.frz ob (.tup xs)) ∧ flatV y = true ∧ xs.all flatV = true ∧ Q (.int (xs.countP fun z => eqV z y : Nat)) H
theorem mt_cntT : MtR X "tuple.count" rCntT := by
  rintro pins s σ H x vs v us Q I rx r ⟨p, ob, xs, y, rfl, rfl, hp, fy, fs, q⟩
  obtain ⟨u, rfl, ru⟩ := vals1 r
  cases rx
  obtain ⟨its, rv, ⟨⟨cls, dd, data, sl⟩, ho, hc, n, hd⟩, hs⟩ := I.tuple (xs := xs) (.inl (.inr ⟨ob, hp⟩))
  simp only at hc hd
  subst hc hd
  refine call_meets F.slot_tuple_count ⟨_, ho, rfl⟩ F.entry_tuple_count (F.args_tuple_count_2 _ _) (SeqAt.tuple_countAt p its.toArray n dd sl u (eqU y)) ⟨ho, fun z hz => mem_eqAt ru fy rv fs z (by simpa using hz), ?_⟩
  refine ⟨.int _, H, I.tok _, ⟨_, rfl⟩, ?_⟩
  rw [show its.toArray.toList = its from rfl, countP_V (fun _ => rfl) rv fs]
  exact q
end
end Bz
namespace Bz
open PySem PySem.Spec PyProof.Rows L2
section
variable {X : Cx}
def rCntL (K : PySem.W.Frag) : V → List V → Hp → VK → Prop := fun x vs H Q => ∃ p xs y, x = .ref p ∧ vs = [y] ∧ SqL K H p xs ∧ flatV y = true ∧ xs.all flatV = true ∧ Q (.int (xs.countP fun z => eqV z y : Nat)) H
theorem mt_cntL : MtR X "list.count" (rCntL X.K) := by
  rintro pins s σ H x vs v us Q I rx r ⟨p, xs, y, rfl, rfl, hp, fy, fs, q⟩
  obtain ⟨u, rfl, ru⟩ := vals1 r
  cases rx
  obtain ⟨its, rv, ⟨⟨cls, dd, data, sl⟩, n, ho, hc, hdn, hd⟩, hs⟩ := I.list hp
  simp only at hc hd
  subst hc hd
  refine call_meets F.slot_list_count ⟨_, ho, rfl⟩ F.entry_list_count (F.args_list_count_2 _ _) (SeqAt.list_countAt p its.toArray n dd sl u (eqU y)) ⟨ho, fun z hz => mem_eqAt ru fy rv fs z (by simpa using hz), ?_⟩
  refine ⟨.int _, H, I.tok _, ⟨_, rfl⟩, ?_⟩
  rw [show its.toArray.toList = its from rfl, countP_V (fun _ => rfl) rv fs]
  exact q
/-- o.count(e), o a list or a tuple whose object is known -/
def tCnt (K : PySem.W.Frag) (to : TE) (t : TA) : TE := fun σ H Q => to σ H fun x H1 => (∃ p ob xs, x = .ref p ∧ H1 p = some (.frz ob (.tup xs)) ∧ ob.dict = none ∧ t σ H1 fun vs H2 => rCntT x vs H2 Q) ∨ (∃ p xs, x = .ref p ∧ SqL K H1 p xs ∧ t σ H1 fun vs H2 => rCntL K x vs H2 Q)
theorem pe_cnt {o e : Expr} {to : TE} {t : TA} {apos cpos : Pos} (ho : PE X o to) (ha : PA X [e] t) (hbase : attributeBase o "count" X.env (eval o X.env) = eval o X.env)
    (hline : (apos.endLine == cpos.line) = true) (hs : starEach [e] X.env = [(false, eval e X.env)]) : PE X (.Call (.Attribute o "count" apos) [e] [] cpos) (tCnt X.K to t) := ⟨fun pins s σ H Q I h => by
  have hfew : ((backTo cpos (starEach [e] X.env)).all (fun x => !x.1) && (backToKw cpos (keywordEach [] X.env)).all (fun x => x.1.isSome) && decide ([e].length + ([] : List Keyword).length + (if ([] : List Keyword).isEmpty then 0 else 1) < 30)) = true := by rw [hs]; rfl
  refine wpAny_Call_method_late hbase hfew hline rfl (thn (ho.run pins s σ H _ I h) ?_)
  rintro v s1 ⟨x, H1, I1, r1, ⟨p, ob, xs, rfl, hp, hd, q⟩ | ⟨p, xs, rfl, hp, q⟩⟩
  · cases r1
    obtain ⟨ho', -⟩ := I1.hok p _ hp
    obtain ⟨its, rv, ht, -⟩ := I1.tuple (xs := xs) (.inl (.inr ⟨ob, hp⟩))
    refine ⟨"tuple", "tuple.count", F.plainAttrs_tuple, F.slot_tuple_count, F.type_tuple_count, ht.typeIs, fun a e => by cases e; exact ⟨ob, ho', hd⟩, ?_⟩
    have hA := ha.run cpos pins s1 σ H1 _ I1 q
    rw [hs] at hA ⊢
    refine Calls.callWith_builtin rfl (Calls.evalArgs_plain (thn hA ?_))
    rintro us s2 ⟨vs, H2, I2, r2, q2⟩
    exact mt_cntT pins s2 σ H2 (V.ref p) vs _ us Q I2 rfl r2 q2
  · cases r1
    obtain ⟨its, rv, pl, -⟩ := I1.list hp
    refine ⟨"list", "list.count", F.plainAttrs_list, F.slot_list_count, F.type_list_count, pl.isList.typeIs, fun a e => by
      cases e
      obtain ⟨o, n, e, c, hd, _⟩ := pl
      exact ⟨o, e, hd⟩, ?_⟩
    have hA := ha.run cpos pins s1 σ H1 _ I1 q
    rw [hs] at hA ⊢
    refine Calls.callWith_builtin rfl (Calls.evalArgs_plain (thn hA ?_))
    rintro us s2 ⟨vs, H2, I2, r2, q2⟩
    exact mt_cntL pins s2 σ H2 (V.ref p) vs _ us Q I2 rfl r2 q2⟩
/-! ### sum, max of tuples -/
theorem iter_tup {prog : Program} {w : World} {A : Around} {E : Value → Shared → Prop} {s : Shared} {l : Addr} {items : Array Value} {Q : Value → Shared → Prop} (hl : s.heap.IsTuple l items)
    (h : ∀ s₂ : Shared, s₂ = { s with heap := s.heap.push { cls := .type "tuple_iterator", data := .fields #[.ref l, .int 0 0] } } →
      (s₂.heap.IsTupleIter s.heap.objs.size l 0 ∧ s₂.heap.IsTuple l items) → l ≠ s.heap.objs.size → (∀ b ∈ [s.heap.objs.size, l], b < s₂.heap.objs.size) → Q (.ref s.heap.objs.size) s₂) : wpAny (model prog w) A (pyIter (.ref l)) Q E s := by
  have hlt : l < s.heap.objs.size := by obtain ⟨_, e, _⟩ := id hl; exact Heap.lt_size e
  refine wpAny_pyIter_tuple hl (h _ rfl ⟨⟨_, Heap.get?_push_size _ rfl, rfl, rfl⟩, ?_⟩ (Nat.ne_of_lt hlt) fun b hb => ?_)
  · obtain ⟨o, e, r⟩ := hl
    exact ⟨o, Heap.get?_push_of_some _ e, r⟩
  · rw [Heap.size_push]
    rcases List.mem_cons.mp hb with rfl | hb
    · exact Nat.lt_succ_self _
    · rw [List.mem_singleton.mp hb]; exact Nat.lt_succ_of_lt hlt
def rSumT (K : PySem.W.Frag) : List V → Hp → VK → Prop := fun vs H Q => ∃ (a : Addr) (ns : List Int), vs = [V.ref a] ∧ SqT K H a (ns.map V.int) ∧ Q (.int ns.sum) H
theorem ints_at {its : List Value} {ns : List Int} (h : IntsAre its ns) : ∀ (i : Nat) (v : Value), its.toArray[i]? = some v → ∃ t, v = Value.int (ns.getD i 0) t := by
  intro i v e
  have e' : its[i]? = some v := by simpa using e
  clear e
  induction h generalizing i with
  | nil => simp at e'
  | cons n t r ih =>
    cases i with
    | zero => simp at e'; exact ⟨t, e'.symm⟩
    | succ i => exact ih i (by simpa using e')
theorem preSum_getD (ns : List Int) : preSum (fun i => ns.getD i 0) ns.length = ns.sum := by
  have h : ∀ k, k ≤ ns.length → preSum (fun i => ns.getD i 0) k = (ns.take k).sum := by
    intro k
    induction k with
    | zero => intro _; rfl
    | succ k ih =>
      intro hk
      show preSum (fun i => ns.getD i 0) k + ns.getD k 0 = _
      rw [ih (by omega), List.take_succ, List.getElem?_eq_getElem (by omega), List.sum_append]
      simp [List.getD, List.getElem?_eq_getElem (show k < ns.length by omega)]
  rw [h _ (Nat.le_refl _), List.take_length]
theorem old_kept' {s : Shared} {o : Obj} {h' : Heap} (hk : ∀ b ob, b ∉ [s.heap.objs.size] → (s.heap.push o).get? b = some ob → h'.get? b = some ob) : ∀ b ob, s.heap.get? b = some ob → h'.get? b = some ob := fun b ob e =>
  hk b ob (by simpa using Nat.ne_of_lt (Heap.lt_size e)) (Heap.get?_push_of_some _ e)
theorem cr_sumT (hc : X.calm = true) : CallR X (.builtin "sum") (rSumT X.K) := by
  rintro pins s σ H vs us Q I r ⟨a, ns, rfl, hs, q⟩
  obtain ⟨its, rv, hl, -⟩ := I.tuple hs
  rw [Vals.ref1 r]
  have hi := rv.ints
  have hlen : its.length = ns.length := by simpa using rv.length.symm
  refine call_sum_walkG (iter_tup (show s.heap.IsTuple a its.toArray from hl) ?_)
  rintro s2 rfl st hne hfp
  refine ⟨_, _, _, _, _, _, fun i => ns.getD i 0, rfl, Walks.tuple (A := X.A.in1) (I.ok.hd hc) _ a hne its.toArray, st, hfp, ints_at hi, ?_⟩
  intro h' tk t' hk
  refine ⟨.int _, H, I.kept (old_kept' hk), ⟨_, rfl⟩, ?_⟩
  rw [List.size_toArray, hlen, preSum_getD]
  exact q
def rMaxT (K : PySem.W.Frag) : List V → Hp → VK → Prop := fun vs H Q => ∃ (a : Addr) (ns : List Int), vs = [V.ref a] ∧ SqT K H a (ns.map V.int) ∧ 0 < ns.length ∧ ∀ m, m ∈ ns → (∀ y, y ∈ ns → y ≤ m) → Q (.int m) H
theorem cr_maxT (hc : X.calm = true) : CallR X (.builtin "max") (rMaxT X.K) := by
  rintro pins s σ H vs us Q I r ⟨a, ns, rfl, hs, hne0, q⟩
  obtain ⟨its, rv, hl, -⟩ := I.tuple hs
  rw [Vals.ref1 r]
  have hi := rv.ints
  have hlen : its.length = ns.length := by simpa using rv.length.symm
  refine call_max_walk (iter_tup (show s.heap.IsTuple a its.toArray from hl) ?_)
  rintro s2 rfl st hne hfp
  refine ⟨_, _, _, _, _, _, _, rfl, Walks.tuple (A := X.A.in1) (I.ok.hd hc) _ a hne its.toArray, st, hfp, by rw [List.size_toArray, hlen]; exact hne0, CmpOf.ints_gt (fun i => ns.getD i 0) (ints_at hi), ?_⟩
  intro v h' tk hP hk
  obtain ⟨t, rfl⟩ := ints_at hi _ _ hP
  obtain ⟨h1, h2⟩ := argBest_gt (fun i => ns.getD i 0) (its.toArray.size - 1)
  rw [List.size_toArray, hlen] at h1 h2
  rw [List.size_toArray, hlen]
  refine ⟨.int _, H, I.kept (old_kept' hk), ⟨_, rfl⟩, q _ ?_ ?_⟩
  · exact PySem.getD_mem (by omega)
  · intro y hy
    obtain ⟨j, hj, rfl⟩ := mem_getD hy
    exact h2 j (by omega)
/-- set(t) of a tuple of ints -/
def rSetT (K : PySem.W.Frag) (w : World) : List V → Hp → VK → Prop := fun vs H Q => ∃ (p : Addr) (ns : List Int), vs = [V.ref p] ∧ SqT K H p (ns.map V.int) ∧ ns.length ≤ 60 ∧
  ∀ q c, H q = none → c ≤ ns.length → Q (.ref q) (upd H q (SetO w q (fun j => decide (j ∈ ns)) c))
theorem cr_setT (hc : X.calm = true) : CallR X (.type "set") (rSetT X.K X.w) := by
  rintro pins s σ H vs us Q I r ⟨p, ns, rfl, hs, hl, q⟩
  obtain ⟨its, rv, pt, -⟩ := I.tuple hs
  rw [Vals.ref1 r]
  have hi : IntsAre its.toArray.toList ns := ints_of_vals rv
  refine call_set_tupI ns (I.ok.hd hc) (show s.heap.IsTuple p its.toArray from pt) hi (by unfold scanBound; omega) ?_
  intro h' tk c R1 hcn k
  exact ⟨.ref s.heap.objs.size, _, I.laid k (Nat.le_refl _) (setO_new R1), rfl, q _ c (I.hok.fresh (Nat.le_refl _)) hcn⟩
end
end Bz
/-! ### xs.extend(t), t a tuple -/
namespace Bz
open PySem PySem.Spec PyProof.Rows L2
set_option maxRecDepth 8000 in
theorem list_extT (l : Addr) (items : Array Value) (n : Nat) (b : Addr) (items2 : Array Value) (n2 : Nat) (dd : Option Addr) (sl : Array (Option Value)) (hs0 : ¬(!items.isEmpty && Builtin.List.listTooLong (items.size + items2.size)) = true) (hs1 : items.size ≤ sizeLine) (hs2 : items.size + items2.size ≤ sizeLine + 1) :
    Meets (Builtin.«list.extend» ⟨[.ref l, .ref b], []⟩) (fun _ R s => s.heap.get? l = some { cls := .type "list", dict := none, data := .seq items n, slots := #[] } ∧ s.heap.get? b = some { cls := .type "tuple", dict := dd, data := .seq items2 n2, slots := sl } ∧ R (.ok (.ret Value.none)) { s with heap := s.heap.update l (Obj.mapSeq fun x => x ++ items2), toks := s.toks }) :=
  .of_wp fun prog w A R s h => by
    obtain ⟨hp, g, d, tk, os⟩ := s; obtain ⟨hl, hb, h⟩ := h; have f1 := AutoSeq1.idx_int; have f2 := AutoSeq1.sub_tuple_tuple; have f3 := AutoSeq1.sub_list_list; have f4 := AutoSeq1.sub_tuple_list; have f5 := AutoSeq1.sub_list_tuple;
    have hz' : (items ++ items2).size ≤ sizeLine + 1 := by rw [Array.size_append]; exact hs2
    wp_walk using (wpAny_updateSeq hl rfl (hz := hs1) (_hz' := hz')), wpAny_loadPart' hl, wpAny_loadPart' hb; exact ⟨_, rfl, h⟩
section
variable {X : Cx}
def rExtB : V → List V → Hp → VK → Prop := fun x vs H Q => rExtend x vs H Q ∨ ∃ l b ob xs zs, x = .ref l ∧ vs = [.ref b] ∧ H l = some (.lst xs) ∧ H b = some (.frz ob (.tup zs)) ∧ xs.length + zs.length ≤ sizeLine ∧ Q .non (upd H l (.lst (xs ++ zs)))
theorem mt_extB : MtM X "list.extend" rExtB := by
  intro pins s σ H x vs v us Q I rx rv h
  rcases h with h | ⟨l, b, ob, xs, zs, rfl, rfl, hH, hB, hz, q⟩
  · exact mt_extend pins s σ H x vs v us Q I rx rv h
  cases rx
  obtain ⟨u, rfl, ru⟩ := rv.one
  cases ru
  obtain ⟨z, its, n, r, hl, e⟩ := I.lstM hH
  obtain ⟨its2, r2, ⟨⟨cls, dd, data, sl⟩, e2, hc, n2, hd⟩, hs⟩ := I.tuple (xs := zs) (.inl (.inr ⟨ob, hB⟩))
  simp only at hc hd
  subst hc hd
  have hl2 := r2.length
  have hsz : its.toArray.size + its2.toArray.size ≤ sizeLine := by rw [List.size_toArray, List.size_toArray]; omega
  have hlong : ¬ (!its.toArray.isEmpty && Builtin.List.listTooLong (its.toArray.size + its2.toArray.size)) = true := by
    rw [notLongL hsz, Bool.and_false]
    exact Bool.false_ne_true
  refine call_meets F.slot_list_extend ⟨_, e, rfl⟩ F.entry_list_extend (F.args_list_extend_2 _ _)
    (list_extT l its.toArray n b its2.toArray n2 dd sl hlong (by rw [List.size_toArray]; omega) (by omega)) ⟨e, e2, ?_⟩
  refine ⟨.non, _, I.lset (its' := its ++ its2) hH e (by simp) (r.append r2) ?_, rfl, q⟩
  rw [List.length_append]
  omega
end
end Bz
/-! ### t[lo:hi:k], t[::-1] -/
namespace Bz
open PySem PySem.Spec PyProof.Rows L2
section
variable {prog : Program} {w : World} {A : Around} {E : Value → Shared → Prop} {s : Shared}
theorem sliceApplied_st {sl : Addr} {vl vu vs : Value} {lo hi : Option Int} {k : Int} {n : Nat} {Q : Int × Int × Nat → Shared → Prop} (hs : s.heap.IsSliceOf sl vl vu vs) (pl : IsPart vl lo) (pu : IsPart vu hi) (pk : IsPart vs (some k)) (hk : k ≠ 0)
    (h : Q ((Builtin.Slice.sliceAdjust lo hi k (n : Int)).1, k, Builtin.Slice.slicePlaces (Builtin.Slice.sliceAdjust lo hi k (n : Int)).1 (Builtin.Slice.sliceAdjust lo hi k (n : Int)).2 k) s) : wpAny (model prog w) A (Builtin.Slice.sliceApplied (.ref sl) (pure (n : Int))) Q E s := by
  obtain ⟨os, hos, hcs, hds⟩ := id hs
  unfold Builtin.Slice.sliceApplied Builtin.Slice.sliceFields
  refine wpAny_bind (wpAny_bind (wpAny_field hos hds (x := vl) rfl (wpAny_bind (wpAny_field hos hds (x := vu) rfl (wpAny_bind (wpAny_field hos hds (x := vs) rfl (wpAny_pure ?_)))))))
  refine wpAny_bind (HT.slicePart_ pk ?_)
  show wpAny _ _ (if (k == 0) = true then _ else _) _ _ s
  rw [if_neg (by simpa using hk)]
  refine wpAny_bind (HT.slicePart_ pl (wpAny_bind (HT.slicePart_ pu (wpAny_bind (wpAny_pure ?_)))))
  exact wpAny_pure h
theorem getItem_tuple_st {t sl : Addr} {items : Array Value} {vl vu vs : Value} {lo hi : Option Int} {k : Int} {Q : Value → Shared → Prop} (ht : IsTup s.heap t items) (hs : s.heap.IsSliceOf sl vl vu vs) (pl : IsPart vl lo) (pu : IsPart vu hi) (pk : IsPart vs (some k)) (hk : k ≠ 0) (hk1 : k ≠ 1)
    (h : Q (.ref s.heap.objs.size) { s with heap := s.heap.push { cls := .type "tuple", data := .seq (stepL items.toList lo hi k).toArray } })
    (hsz : (stepL items.toList lo hi k).length ≤ sizeLine) : wpAny (model prog w) A (getItem (.ref t) (.ref sl)) Q E s := by
  have htake : sizeOk (.seq (stepL items.toList lo hi k).toArray) := by
    show (stepL items.toList lo hi k).toArray.size ≤ sizeLine
    rw [List.size_toArray]; exact hsz
  obtain ⟨os, hos, hcs, hds⟩ := id hs
  have hTs : s.TypeIs (.ref sl) "slice" := ⟨os, hos, hcs⟩
  unfold getItem
  try with_reducible refine wpAny_holding ?_
  first | refine wpAny_bind (wpAny_pure ?_) | skip
  refine wpAny_bind (wpAny_sequenceKey ht.typeIs (by decide) ?_)
  refine wpAny_bind (wpAny_callSpecial?_slot (name := Str.ofString "__getitem__") ht.typeIs PyProof.Rows.slot_tuple_getitem
    (wpAny_call_entry PyProof.Rows.slot_tuple_getitem ht.typeIs entry_tuple_getitem ?_ (args_tuple_getitem _ _)))
  show wpAny _ _ (Builtin.Tuple.tupleItemsOf (.ref t) >>= _) _ _ s
  refine wpAny_bind (tupleItemsOf_ ht ?_)
  refine wpAny_bind (wpAny_typeOf hTs ?_)
  rw [if_pos (by decide)]
  refine wpAny_bind (sliceApplied_st hs pl pu pk hk ?_)
  have hno : ¬ (((Builtin.Slice.sliceAdjust lo hi k (items.size : Int)).1 == 0 && k == 1 && (Builtin.Slice.slicePlaces (Builtin.Slice.sliceAdjust lo hi k (items.size : Int)).1 (Builtin.Slice.sliceAdjust lo hi k (items.size : Int)).2 k) == items.size) = true) := by
    intro q
    rw [Bool.and_eq_true, Bool.and_eq_true] at q
    exact hk1 (eq_of_beq q.1.2)
  show wpAny _ _ (if ((Builtin.Slice.sliceAdjust lo hi k (items.size : Int)).1 == 0 && k == 1 && (Builtin.Slice.slicePlaces (Builtin.Slice.sliceAdjust lo hi k (items.size : Int)).1 (Builtin.Slice.sliceAdjust lo hi k (items.size : Int)).2 k) == items.size) = true then _ else _) _ _ s
  rw [if_neg hno]
  have e : ((List.range (Builtin.Slice.slicePlaces (Builtin.Slice.sliceAdjust lo hi k (items.size : Int)).1 (Builtin.Slice.sliceAdjust lo hi k (items.size : Int)).2 k)).filterMap fun (m : Nat) => items[((Builtin.Slice.sliceAdjust lo hi k (items.size : Int)).1 + (m : Int) * k).toNat]?) = stepL items.toList lo hi k := by
    unfold stepL
    rw [Array.length_toList]
    refine congrArg (fun f => List.filterMap f _) ?_
    funext m
    exact (Array.getElem?_toList).symm
  rw [e]
  first
    | exact wpAny_bind (m := Builtin.Tuple.tupleExact _) (wpAny_newObj_type (wpAny_pure ⟨_, rfl, wpAny_pure h⟩) htake)
    | exact wpAny_bind (m := Builtin.Tuple.tupleExact _) (wpAny_newObj_type (wpAny_bind (wpAny_pure (wpAny_pure ⟨_, rfl, wpAny_pure h⟩))) htake)
    | exact wpAny_bind (wpAny_bind (m := Builtin.Tuple.tupleExact _) (wpAny_newObj_type (wpAny_pure (wpAny_pure ⟨_, rfl, wpAny_pure h⟩)) htake))
    | exact wpAny_bind (wpAny_bind (m := Builtin.Tuple.tupleExact _) (wpAny_newObj_type (wpAny_pure ⟨_, rfl, wpAny_pure h⟩) htake))
end
theorem stepL_rev {α : Type} (xs : List α) : stepL xs none none (-1) = xs.reverse := by
  have e1 : Builtin.Slice.sliceAdjust none none (-1) (xs.length : Int) = ((xs.length : Int) - 1, -1) := rfl
  unfold stepL
  rw [e1]
  have e2 : Builtin.Slice.slicePlaces ((xs.length : Int) - 1) (-1) (-1) = xs.length := by
    unfold Builtin.Slice.slicePlaces
    simp only [show ¬ ((-1 : Int) > 0) by omega, if_false]
    by_cases h : (xs.length : Int) - 1 > -1
    · rw [if_pos h]
      have : ((xs.length : Int) - 1 - -1 - 1) / (- -1) = (xs.length : Int) - 1 := by
        rw [show (- -1 : Int) = 1 by omega, Int.ediv_one]; omega
      omega
    · rw [if_neg h]; omega
  simp only [e2]
  refine List.ext_getElem? fun i => ?_
  have key : ∀ n : Nat, n ≤ xs.length → (List.range n).filterMap (fun m : Nat => xs[((xs.length : Int) - 1 + (m : Int) * -1).toNat]?) = xs.reverse.take n := by
    intro n
    induction n with
    | zero => simp
    | succ n ih =>
      intro hn
      rw [List.range_succ, List.filterMap_append, ih (by omega), List.take_succ]
      congr 1
      have hi : ((xs.length : Int) - 1 + (n : Int) * -1).toNat = xs.length - 1 - n := by omega
      rw [List.getElem?_reverse (by omega)]
      simp only [List.filterMap_cons, List.filterMap_nil, hi]
      cases xs[xs.length - 1 - n]? <;> rfl
  rw [key xs.length (Nat.le_refl _), ← List.length_reverse, List.take_length]
theorem stepL_map {α β : Type} {f : α → β} {xs : List α} {lo hi : Option Int} {k : Int} : stepL (xs.map f) lo hi k = (stepL xs lo hi k).map f := by
  unfold stepL
  rw [List.length_map, List.map_filterMap]
  refine congrArg (fun g => List.filterMap g _) ?_
  funext m
  rw [List.getElem?_map]
theorem Paired_filter {α β : Type} {F : α → β → Prop} {xs : List α} {ys : List β} (hl : xs.length = ys.length) (h : ∀ (i : Nat) (x : α) (y : β), xs[i]? = some x → ys[i]? = some y → F x y) : ∀ (l : List Nat), Paired F (l.filterMap fun m => xs[m]?) (l.filterMap fun m => ys[m]?)
  | [] => .nil
  | m :: l => by
    rw [List.filterMap_cons, List.filterMap_cons]
    cases hx : xs[m]? with
    | none =>
      have : ys[m]? = none := by rw [List.getElem?_eq_none_iff] at hx ⊢; omega
      rw [this]
      exact Paired_filter hl h l
    | some x =>
      have : m < ys.length := by rw [← hl]; exact (List.getElem?_eq_some_iff.mp hx).1
      rw [List.getElem?_eq_getElem this]
      exact .cons (h m x _ hx (List.getElem?_eq_getElem this)) (Paired_filter hl h l)
theorem stepL_fm {α : Type} {xs : List α} {lo hi : Option Int} {k : Int} : stepL xs lo hi k = ((List.range (Builtin.Slice.slicePlaces (Builtin.Slice.sliceAdjust lo hi k xs.length).1 (Builtin.Slice.sliceAdjust lo hi k xs.length).2 k)).map fun (m : Nat) => ((Builtin.Slice.sliceAdjust lo hi k xs.length).1 + (m : Int) * k).toNat).filterMap fun m => xs[m]? := by
  unfold stepL
  rw [List.filterMap_map]
  rfl
theorem vals_step {xs : List V} {us : List Value} (r : Vals xs us) (lo hi : Option Int) (k : Int) : Vals (stepL xs lo hi k) (stepL us lo hi k) := by
  rw [stepL_fm, stepL_fm, ← r.length]
  refine Paired_filter r.length (fun i x y hx hy => ?_) _
  obtain ⟨u, h1, h2⟩ := r.get hx
  rw [hy] at h1
  cases h1
  exact h2
section
variable {X : Cx}
def tRevV (K : PySem.W.Frag) (te : TE) : TE := fun σ H Q => te σ H fun x H1 => ∃ a xs, x = .ref a ∧ ((SqL K H1 a xs ∧ ∀ p, H1 p = none → Q (.ref p) (upd H1 p (.lst xs.reverse))) ∨ (SqT K H1 a xs ∧ NewT xs.reverse H1 Q))
theorem pe_revV {e : Expr} {te : TE} {k : Nat} {p1 p2 p3 pos : Pos} (he : PE X e te) : PE X (.Subscript e (.Slice none none (some (.UnaryOp .USub (.Constant (.int 1) k p1) p2)) p3) pos) (tRevV X.K te) := by
  refine ⟨fun pins s σ H Q I h => ?_⟩
  refine Subscript_ (thn (he.run pins s σ H _ I h) fun v s1 ⟨x, H1, I1, r1, q1⟩ => ?_)
  obtain ⟨a, xs, ex, hx⟩ := q1
  subst ex
  cases r1
  have hst : PO X (some (.UnaryOp .USub (.Constant (.int 1) k p1) p2)) (tPart (tUn (rU fun i => .int (-i)) (tC (.int 1)))) := po_some (pe_un un_neg pe_int)
  refine wpAny_Slice (thn (po_none.run pins s1 σ H1 (fun o H2 => o = none ∧ H2 = H1) I1 ⟨rfl, rfl⟩) fun vl s2 ⟨l, H2, I2, pl, el, e2⟩ => ?_)
  subst el e2
  refine thn (po_none.run pins s2 σ H2 (fun o H3 => o = none ∧ H3 = H2) I2 ⟨rfl, rfl⟩) fun vu s3 ⟨u, H3, I3, pu, eu, e3⟩ => ?_
  subst eu e3
  refine thn (hst.run pins s3 σ H3 (fun o H4 => o = some (-1) ∧ H4 = H3) I3 ⟨1, rfl, -1, rfl, rfl, rfl⟩) fun vs s4 ⟨o, H4, I4, ps, eo, e4⟩ => ?_
  subst eo e4
  have I5 : Inv X pins σ H4 { s4 with heap := s4.heap.push { cls := .type "slice", data := .fields #[vl, vu, vs] } } := I4.kept (t' := s4.toks) fun b ob q => Heap.get?_push_of_some _ q
  show wpAny (model X.prog X.w) X.A (subscriptTail e (.Slice none none (some (.UnaryOp .USub (.Constant (.int 1) k p1) p2)) p3) (.ref a) (.ref s4.heap.objs.size)) (EP X pins σ Q) X.xe { s4 with heap := s4.heap.push { cls := .type "slice", data := .fields #[vl, vu, vs] } }
  rcases hx with ⟨hx, q⟩ | ⟨hx, q⟩
  · obtain ⟨its, r, ht, hz⟩ := I5.list hx
    have hlen := r.length
    refine tail_any (ops := [.ref a, .ref s4.heap.objs.size]) ht.isList.typeIs (PySem.slot_list_getitem.lookup) ?_ (by with_unfolding_all rfl)
    refine wpAny_getItem_list_slice ht.isList (Heap.IsSliceOf.new _ vl vu vs) pl pu ps (by decide) ?_ (by rw [List.size_toArray]; omega)
    rw [PySem.W.krv_pick]
    refine ⟨.ref _, _, I5.laid (t' := s4.toks) (o := .lst xs.reverse) (fun b ob q => Heap.get?_push_of_some _ q) (Nat.le_refl _) ?_, rfl, q _ (I5.hok.fresh (Nat.le_refl _))⟩
    exact ⟨by rw [List.length_reverse]; exact hz, _, 0, r.reverse, Heap.get?_push_size _ rfl⟩
  · obtain ⟨its, r, ht, hz⟩ := I5.tuple hx
    have hlen := r.length
    have r' := vals_step r none none (-1)
    rw [stepL_rev] at r'
    refine tail_any (ops := [.ref a, .ref s4.heap.objs.size]) ht.typeIs (PyProof.Rows.slot_tuple_getitem.lookup) ?_ (by with_unfolding_all rfl)
    refine getItem_tuple_st ht (Heap.IsSliceOf.new _ vl vu vs) pl pu ps (by decide) (by decide) ?_ (by rw [stepL_rev, List.length_reverse]; simp; omega)
    exact newT0 I5 r' (by rw [List.length_reverse]; exact hz) q
def tStp (K : PySem.W.Frag) (k : Int) (te : TE) (tl th : TO) : TE := fun σ H Q => te σ H fun x H1 => tl σ H1 fun l H2 => th σ H2 fun u H3 => ∃ a xs, x = .ref a ∧ SqT K H3 a xs ∧ (stepL xs l u k).length ≤ sizeLine ∧ NewT (stepL xs l u k) H3 Q
theorem pe_stp {e : Expr} {lo hi : Option Expr} {te : TE} {tl th : TO} {j : Nat} {k : Int} {p1 p3 pos : Pos} (hk : 2 ≤ k) (he : PE X e te) (hl : PO X lo tl) (hh : PO X hi th) : PE X (.Subscript e (.Slice lo hi (some (.Constant (.int k) j p1)) p3) pos) (tStp X.K k te tl th) := by
  refine ⟨fun pins s σ H Q I h => ?_⟩
  refine Subscript_ (thn (he.run pins s σ H _ I h) fun v s1 ⟨x, H1, I1, r1, q1⟩ => ?_)
  have hst : PO X (some (.Constant (.int k) j p1)) (tPart (tC (.int k))) := po_some pe_int
  refine wpAny_Slice (thn (hl.run pins s1 σ H1 _ I1 q1) fun vl s2 ⟨l, H2, I2, pl, q2⟩ => thn (hh.run pins s2 σ H2 _ I2 q2) fun vu s3 ⟨u, H3, I3, pu, q3⟩ => ?_)
  refine thn (hst.run pins s3 σ H3 (fun o H4 => o = some k ∧ H4 = H3) I3 ⟨k, rfl, rfl, rfl⟩) fun vs s4 ⟨o, H4, I4, ps, eo, e4⟩ => ?_
  subst eo e4
  obtain ⟨a, xs, ex, hx, hsz, q⟩ := q3
  subst ex
  cases r1
  have I5 : Inv X pins σ H4 { s4 with heap := s4.heap.push { cls := .type "slice", data := .fields #[vl, vu, vs] } } := I4.kept (t' := s4.toks) fun b ob q => Heap.get?_push_of_some _ q
  show wpAny (model X.prog X.w) X.A (subscriptTail e (.Slice lo hi (some (.Constant (.int k) j p1)) p3) (.ref a) (.ref s4.heap.objs.size)) (EP X pins σ Q) X.xe { s4 with heap := s4.heap.push { cls := .type "slice", data := .fields #[vl, vu, vs] } }
  obtain ⟨its, r, ht, hz⟩ := I5.tuple hx
  have r' := vals_step r l u k
  refine tail_any (ops := [.ref a, .ref s4.heap.objs.size]) ht.typeIs (PyProof.Rows.slot_tuple_getitem.lookup) ?_ (by with_unfolding_all rfl)
  refine getItem_tuple_st ht (Heap.IsSliceOf.new _ vl vu vs) pl pu ps (by omega) (by omega) ?_ (by rw [← r'.length]; exact hsz)
  exact newT0 I5 r' hsz q
end
end Bz
/-! Operators, comparisons, calls of built-ins, over data. -/
namespace Bz
open PySem PySem.Spec PyProof.Rows L2

/-- what is wanted of a value z, made in this heap or in one with one object more -/
def Fin1 (g : Gh) (H : Hp) (z : Va) (Q : VK) : Prop := (∀ u, RepV g u z → Q u H) ∧ ∀ p o u, H p = none → RepV (g.put p o) u z → Q u (upd H p o)
theorem put_le {g : Gh} {st : Stt} {H : Hp} {p : Addr} {o : HO} (r : RelC g st H) (h : H p = none) : g.le (g.put p o) := (r.put h).2
theorem put_at {g : Gh} {p : Addr} {o : HO} : (g.put p o).F p = some o := upd_same
theorem Fin1.tup {g : Gh} {st : Stt} {H : Hp} {Q : VK} {xs : List V} {ds : List PyData} (r : RelC g st H) (a : RpAll g.F xs ds) (f : Fin1 g H (.d (.tuple ds)) Q) : NewT xs H Q := fun p ob h n =>
  f.2 p _ _ h (.tup put_at n (a.mono (put_le r h).f))
theorem Fin1.lst {g : Gh} {st : Stt} {H : Hp} {Q : VK} {xs : List V} {ds : List PyData} (r : RelC g st H) (a : RpAll g.F xs ds) (f : Fin1 g H (.d (.list ds)) Q) : ∀ p, H p = none → Q (.ref p) (upd H p (.lst xs)) := fun p h =>
  f.2 p _ _ h (.lst put_at (a.mono (put_le r h).f))
theorem sqT {K : PySem.W.Frag} {F H : Hp} {a : Addr} {ob : Obj} {xs : List V} (k : Same F H) (e : F a = some (.frz ob (.tup xs))) : SqT K H a xs := .inl (.inr ⟨ob, k _ _ e⟩)
theorem sqL {K : PySem.W.Frag} {F H : Hp} {a : Addr} {xs : List V} (k : Same F H) (e : F a = some (.lst xs)) : SqL K H a xs := SqL.of (k _ _ e)
section
variable {X : Cx}
/-- an operator over data -/
def rV (f : Va → Va → Option Va) : R2 := fun v w H Q => ∃ g st x y z, RelC g st H ∧ RepV g v x ∧ RepV g w y ∧ f x y = some z ∧ Fin1 g H z Q
def rB (f : Va → Va → Option Bool) : R2 := fun v w H Q => ∃ g st x y b, RelC g st H ∧ RepV g v x ∧ RepV g w y ∧ f x y = some b ∧ Q (.bl b) H
theorem OpR.imp {f : Value → Value → Sem Value} {r r' : R2} (h : OpR X f r) (k : ∀ x y H Q, r' x y H Q → r x y H Q) : OpR X f r' := fun pins s σ H x y v u Q I rx ry q => h pins s σ H x y v u Q I rx ry (k _ _ _ _ q)
theorem strapp {a b : Str} (h : PyData.canLay0 (.str a) = true) (k : PyData.canLay0 (.str b) = true) : PyData.canLay0 (.str (a ++ b)) = true := by
  simp only [PyData.canLay0, PyData.strOk] at h k ⊢
  show (a.cps ++ b.cps).all _ = true
  rw [Array.all_append, h, k]; rfl
theorem op_bop (op : Operator) : OpR X (binaryOp op) (rV (bop op)) := by
  rintro pins s σ H v w vv ww Q I rv rw' ⟨g, st, x, y, z, rc, hx, hy, e, f⟩
  unfold bop at e
  split at e
  · cases e; cases hx; cases hy
    exact op_add pins s σ H _ _ _ _ Q I rv rw' ⟨_, _, rfl, rfl, f.1 _ (.int _)⟩
  · split at e
    · rename_i a b hz
      cases e
      cases hx with | str _ h1 z1 =>
      cases hy with | str _ h2 z2 =>
      refine op_add_str pins s σ H _ _ _ _ Q I rv rw' ⟨_, _, rfl, rfl, by rw [← szl_eq]; exact hz, f.1 _ (.str _ (strapp h1 h2) ?_)⟩
      show (a.cps ++ b.cps).size ≤ szl
      rw [Array.size_append]; exact hz
    · cases e
  · split at e
    · rename_i a b hz
      cases e
      cases hx with | tup e1 n1 r1 =>
      cases hy with | tup e2 n2 r2 =>
      refine op_catF pins s σ H _ _ _ _ Q I rv rw' ⟨_, _, _, _, rfl, rfl, sqT rc.fh e1, sqT rc.fh e2, by rw [← szl_eq, r1.length, r2.length]; exact hz, fun q => ?_, fun q => ?_, f.tup rc (r1.append r2)⟩
      · subst q
        cases r1
        exact f.1 _ (.tup e2 n2 r2)
      · subst q
        cases r2
        rw [List.append_nil] at f
        exact f.1 _ (.tup e1 n1 r1)
    · cases e
  · split at e
    · rename_i a b hz
      cases e
      cases hx with | lst e1 r1 =>
      cases hy with | lst e2 r2 =>
      exact op_cat pins s σ H _ _ _ _ Q I rv rw' ⟨_, _, _, _, rfl, rfl, rc.fh _ _ e1, rc.fh _ _ e2, by rw [← szl_eq, r1.length, r2.length]; exact hz, f.lst rc (r1.append r2)⟩
    · cases e
  · cases e; cases hx; cases hy
    exact op_sub pins s σ H _ _ _ _ Q I rv rw' ⟨_, _, rfl, rfl, f.1 _ (.int _)⟩
  · cases e; cases hx; cases hy
    obtain ⟨t, rfl⟩ := rw'
    cases rv
    exact IntBool.add_bool_int ⟨.int _, H, I.tok _, ⟨_, rfl⟩, f.1 _ (.int _)⟩
  · cases e; cases hx; cases hy
    obtain ⟨t, rfl⟩ := rw'
    cases rv
    exact IntBool.sub_bool_int ⟨.int _, H, I.tok _, ⟨_, rfl⟩, f.1 _ (.int _)⟩
  · split at e
    · rename_i i j hz
      cases e; cases hx; cases hy
      exact op_mul pins s σ H _ _ _ _ Q I rv rw' ⟨_, _, rfl, rfl, by unfold mulOk at hz; have hz := of_decide_eq_true hz; unfold CMul; omega, f.1 _ (.int _)⟩
    · cases e
  · split at e
    · rename_i a k hz
      cases e; cases hy
      cases hx with | tup e1 n1 r1 =>
      refine op_repF pins s σ H _ _ _ _ Q I rv rw' ⟨_, _, _, rfl, rfl, sqT rc.fh e1, by rw [r1.length]; exact hz.1, hz.2.1, hz.2.2, fun q => ?_, f.tup rc (r1.rep k.toNat)⟩
      refine f.1 _ (.tup e1 n1 ?_)
      rw [← q]
      exact r1.rep k.toNat
    · cases e
  · split at e
    · rename_i a k hz
      cases e; cases hy
      cases hx with | lst e1 r1 =>
      exact op_repL pins s σ H _ _ _ _ Q I rv rw' ⟨_, _, _, rfl, rfl, rc.fh _ _ e1, by rw [r1.length]; exact hz.1, hz.2.1, hz.2.2, f.lst rc (r1.rep k.toNat)⟩
    · cases e
  · split at e
    · rename_i i j hz
      cases e; cases hx; cases hy
      exact op_fdiv pins s σ H _ _ _ _ Q I rv rw' ⟨_, _, rfl, rfl, hz, f.1 _ (.int _)⟩
    · cases e
  · split at e
    · rename_i i j hz
      cases e; cases hx; cases hy
      exact op_mod pins s σ H _ _ _ _ Q I rv rw' ⟨_, _, rfl, rfl, hz, f.1 _ (.int _)⟩
    · cases e
  · split at e
    · rename_i i j hz
      cases e; cases hx; cases hy
      exact op_shl pins s σ H _ _ _ _ Q I rv rw' ⟨_, _, rfl, rfl, ⟨hz.1, by omega, by have := hz.2.2; omega⟩, f.1 _ (.int _)⟩
    · cases e
  · cases e
theorem opD {K : PySem.W.Frag} {v : V} {a : PyData} {H : Hp} {g : Gh} {st : Stt} (rc : RelC g st H) (h : Rp g.F v a) : Dp K H v a := h.dp rc.fh
theorem eq_ok (hu : X.A.units + 64 < cLine) : OpR X (compareOp .Eq) (rB (cmp .Eq)) := by
  rintro pins s σ H v w vv ww Q I rv rw' ⟨g, st, x, y, b, rc, hx, hy, e, q⟩
  cases x with
  | d x =>
    cases y with
    | d y =>
      simp only [cmp, eqD] at e
      split at e
      · rename_i hd
        cases e
        obtain ⟨as, r1⟩ := Dp.reads I x v vv (hx.dp rc.fh) rv
        obtain ⟨bs, r2⟩ := Dp.reads I y w ww (hy.dp rc.fh) rw'
        exact SeqAt.compareEq_reads r1 r2 hx.lay hy.lay (by omega) ⟨.bl _, H, I, rfl, q⟩
      · cases e
    | _ => simp [cmp] at e
  | _ => cases y <;> simp [cmp] at e
theorem ne_ok (hu : X.A.units + 64 < cLine) : OpR X (compareOp .NotEq) (rB (cmp .NotEq)) := by
  rintro pins s σ H v w vv ww Q I rv rw' ⟨g, st, x, y, b, rc, hx, hy, e, q⟩
  cases x with
  | d x =>
    cases y with
    | d y =>
      simp only [cmp, eqD] at e
      split at e
      · rename_i hd
        cases e
        obtain ⟨as, r1⟩ := Dp.reads I x v vv (hx.dp rc.fh) rv
        obtain ⟨bs, r2⟩ := Dp.reads I y w ww (hy.dp rc.fh) rw'
        exact SeqAt.compareNe_reads r1 r2 hx.lay hy.lay (by omega) ⟨.bl _, H, I, rfl, q⟩
      · cases e
    | _ => simp [cmp] at e
  | _ => cases y <;> simp [cmp] at e
theorem op_cmp (hu : X.A.units + 64 < cLine) (op : CmpOp) : OpR X (compareOp op) (rB (cmp op)) := by
  by_cases h1 : op = .Eq
  · subst h1; exact eq_ok hu
  by_cases h2 : op = .NotEq
  · subst h2; exact ne_ok hu
  rintro pins s σ H v w vv ww Q I rv rw' ⟨g, st, x, y, b, rc, hx, hy, e, q⟩
  unfold cmp at e
  split at e
  · exact absurd rfl h1
  · exact absurd rfl h2
  · cases e; cases hx; cases hy
    exact op_lt pins s σ H _ _ _ _ Q I rv rw' ⟨_, _, rfl, rfl, q⟩
  · cases e; cases hx; cases hy
    exact op_le pins s σ H _ _ _ _ Q I rv rw' ⟨_, _, rfl, rfl, q⟩
  · cases e; cases hx; cases hy
    exact op_gt pins s σ H _ _ _ _ Q I rv rw' ⟨_, _, rfl, rfl, q⟩
  · cases e; cases hx; cases hy
    exact op_ge pins s σ H _ _ _ _ Q I rv rw' ⟨_, _, rfl, rfl, q⟩
  · cases hy
    refine op_isN pins s σ H _ _ _ _ Q I rv rw' ⟨rfl, ?_⟩
    cases hx <;> (cases e; exact q)
  · cases hy
    refine op_notN pins s σ H _ _ _ _ Q I rv rw' ⟨rfl, ?_⟩
    cases hx <;> (cases e; exact q)
  · cases hy
    cases rw'
    cases hx with
    | bl c => cases e; exact op_isBl pins s σ H _ _ _ _ Q I rv (by exact rfl) ⟨_, _, rfl, rfl, q⟩
    | non => cases e; cases rv; exact wpAny_is_other rfl (by intro z; cases z) ⟨.bl false, H, I, rfl, q⟩
    | int i => cases e; obtain ⟨t, rfl⟩ := rv; exact wpAny_is_other rfl (by intro z; cases z) ⟨.bl false, H, I, rfl, q⟩
    | str i => cases e; obtain ⟨t, rfl⟩ := rv; exact wpAny_is_other rfl (by intro z; cases z) ⟨.bl false, H, I, rfl, q⟩
    | lst => cases e; cases rv; exact wpAny_is_other rfl (by intro z; cases z) ⟨.bl false, H, I, rfl, q⟩
    | tup => cases e; cases rv; exact wpAny_is_other rfl (by intro z; cases z) ⟨.bl false, H, I, rfl, q⟩
  · cases e; cases hx; cases hy
    exact op_notBl pins s σ H _ _ _ _ Q I rv rw' ⟨_, _, rfl, rfl, q⟩
  · split at e
    · rename_i hz
      cases e
      rw [Bool.and_eq_true] at hz
      cases hy with | lst e1 r1 =>
      refine op_in_seq pins s σ H _ _ _ _ Q I rv rw' ⟨_, _, rfl, .inl (sqL rc.fh e1), rp_flat hx hz.1, rp_flats r1 hz.2, ?_⟩
      rw [if_neg Bool.false_ne_true, rp_in hx hz.1 r1 hz.2]; exact q
    · split at e
      · rename_i hz
        cases e
        obtain ⟨as, r1⟩ := Dp.reads I _ v vv (Rp.dp (K := X.K) rc.fh hx) rv
        obtain ⟨bs, r2⟩ := Dp.reads I _ w ww (Rp.dp (K := X.K) rc.fh hy) rw'
        exact SeqAt.in_list_reads r2 r1 (by have := Rp.lay hy; simpa [PyData.canLay0] using this) (Rp.lay hx) (by omega) ⟨.bl _, H, I, rfl, q⟩
      · cases e
  · split at e
    · rename_i hz
      cases e
      rw [Bool.and_eq_true] at hz
      cases hy with | tup e1 n1 r1 =>
      refine op_in_seq pins s σ H _ _ _ _ Q I rv rw' ⟨_, _, rfl, .inr (sqT rc.fh e1), rp_flat hx hz.1, rp_flats r1 hz.2, ?_⟩
      rw [if_neg Bool.false_ne_true, rp_in hx hz.1 r1 hz.2]; exact q
    · split at e
      · rename_i hz
        cases e
        obtain ⟨as, r1⟩ := Dp.reads I _ v vv (Rp.dp (K := X.K) rc.fh hx) rv
        obtain ⟨bs, r2⟩ := Dp.reads I _ w ww (Rp.dp (K := X.K) rc.fh hy) rw'
        exact SeqAt.in_tuple_reads r2 r1 (by have := Rp.lay hy; simpa [PyData.canLay0] using this) (Rp.lay hx) (by omega) ⟨.bl _, H, I, rfl, q⟩
      · cases e
  · split at e
    · rename_i hz
      cases e
      rw [Bool.and_eq_true] at hz
      cases hy with | lst e1 r1 =>
      refine op_notIn_seq pins s σ H _ _ _ _ Q I rv rw' ⟨_, _, rfl, .inl (sqL rc.fh e1), rp_flat hx hz.1, rp_flats r1 hz.2, ?_⟩
      rw [if_pos rfl, rp_in hx hz.1 r1 hz.2]; exact q
    · split at e
      · rename_i hz
        cases e
        obtain ⟨as, r1⟩ := Dp.reads I _ v vv (Rp.dp (K := X.K) rc.fh hx) rv
        obtain ⟨bs, r2⟩ := Dp.reads I _ w ww (Rp.dp (K := X.K) rc.fh hy) rw'
        exact SeqAt.notIn_list_reads r2 r1 (by have := Rp.lay hy; simpa [PyData.canLay0] using this) (Rp.lay hx) (by omega) ⟨.bl _, H, I, rfl, q⟩
      · cases e
  · split at e
    · rename_i hz
      cases e
      rw [Bool.and_eq_true] at hz
      cases hy with | tup e1 n1 r1 =>
      refine op_notIn_seq pins s σ H _ _ _ _ Q I rv rw' ⟨_, _, rfl, .inr (sqT rc.fh e1), rp_flat hx hz.1, rp_flats r1 hz.2, ?_⟩
      rw [if_pos rfl, rp_in hx hz.1 r1 hz.2]; exact q
    · split at e
      · rename_i hz
        cases e
        obtain ⟨as, r1⟩ := Dp.reads I _ v vv (Rp.dp (K := X.K) rc.fh hx) rv
        obtain ⟨bs, r2⟩ := Dp.reads I _ w ww (Rp.dp (K := X.K) rc.fh hy) rw'
        exact SeqAt.notIn_tuple_reads r2 r1 (by have := Rp.lay hy; simpa [PyData.canLay0] using this) (Rp.lay hx) (by omega) ⟨.bl _, H, I, rfl, q⟩
      · cases e
  · cases e
theorem isEmpty_len {α β : Type} {xs : List α} {ys : List β} (h : xs.length = ys.length) : xs.isEmpty = ys.isEmpty := by
  cases xs <;> cases ys <;> first | rfl | (simp at h)
theorem tru_V {K : PySem.W.Frag} {g : Gh} {st : Stt} {H : Hp} {v : V} {x : Va} {b : Bool} (rc : RelC g st H) (hx : RepV g v x) (e : tru st x = some b) : TruV K v H b := by
  unfold tru at e
  split at e
  · cases e; cases hx; rfl
  · cases e; cases hx; rfl
  · cases e; cases hx; rfl
  · cases e
    cases hx with | str _ h z => exact ⟨by rw [← szl_eq]; exact z, rfl⟩
  · cases e
    cases hx with | lst e1 r1 => exact .inl ⟨_, sqL rc.fh e1, by rw [isEmpty_len r1.length]⟩
  · cases e
    cases hx with | tup e1 n1 r1 => exact .inr (.inl ⟨_, sqT rc.fh e1, by rw [isEmpty_len r1.length]⟩)
  · obtain ⟨a, rfl, hm⟩ := hx
    split at e
    · rename_i xs ho
      cases e
      obtain ⟨a', h1, h2, h3, vs, h4, h5⟩ := rc.ob _ _ ho
      rw [hm] at h1; cases h1
      exact .inl ⟨_, SqL.of h4, by rw [isEmpty_len h5.length]⟩
    · rename_i xs ho
      cases e
      obtain ⟨a', h1, h2, h3, o, h4⟩ := rc.ob _ _ ho
      rw [hm] at h1; cases h1
      exact .inl ⟨_, .inl (.inr ⟨o, h4⟩), by rw [isEmpty_len (List.length_map ..)]⟩
    · cases e
  · cases e
theorem at_rp {F : Hp} {xs : List V} {ds : List PyData} {i : Int} {d : PyData} (r : RpAll F xs ds) (h : atI ds i = some d) : ∃ v, atI xs i = some v ∧ Rp F v d := by
  unfold atI at h ⊢
  rw [r.length]
  cases e : ixN ds.length i with
  | none => rw [e] at h; cases h
  | some j =>
    rw [e] at h
    exact r.get h
theorem at_map {xs : List Int} {i d : Int} (hd : atI xs i = some d) : atI (xs.map V.int) i = some (V.int d) := by
  unfold atI at hd ⊢
  rw [List.length_map]
  cases q : ixN xs.length i with
  | none => rw [q] at hd; cases hd
  | some j =>
    rw [q] at hd
    show (xs.map V.int)[j]? = _
    rw [List.getElem?_map, show xs[j]? = some d from hd]
    rfl
def rIxD : R2 := fun v w H Q => ∃ g st x y z, RelC g st H ∧ RepV g v x ∧ RepV g w y ∧ item st x y = some z ∧ ∀ u, RepV g u z → Q u H
theorem ix_item : IxR X rIxD := by
  have imp : ∀ v w H Q, rIxD v w H Q → rIx X.K v w H Q := by
    rintro v w H Q ⟨g, st, x, y, z, rc, hx, hy, e, f⟩
    unfold item at e
    split at e
    · cases hy
      cases hx with | tup e1 n1 r1 =>
      obtain ⟨d, hd, rfl⟩ := Option.map_eq_some_iff.mp e
      obtain ⟨u, h1, h2⟩ := at_rp r1 hd
      exact .inr (.inl ⟨_, _, _, _, rfl, rfl, sqT rc.fh e1, h1, f _ h2⟩)
    · cases hy
      cases hx with | lst e1 r1 =>
      obtain ⟨d, hd, rfl⟩ := Option.map_eq_some_iff.mp e
      obtain ⟨u, h1, h2⟩ := at_rp r1 hd
      exact .inl ⟨_, _, _, _, rfl, rfl, sqL rc.fh e1, h1, f _ h2⟩
    · cases hy
      obtain ⟨a, rfl, hm⟩ := hx
      split at e
      · rename_i xs ho
        obtain ⟨a', h1, h2, h3, vs, h4, h5⟩ := rc.ob _ _ ho
        rw [hm] at h1; cases h1
        obtain ⟨d, hd, rfl⟩ := Option.map_eq_some_iff.mp e
        obtain ⟨u, g1, g2⟩ := at_rp h5 hd
        exact .inl ⟨_, _, _, _, rfl, rfl, SqL.of h4, g1, f _ g2⟩
      · rename_i xs ho
        obtain ⟨a', h1, h2, h3, o, h4⟩ := rc.ob _ _ ho
        rw [hm] at h1; cases h1
        obtain ⟨d, hd, rfl⟩ := Option.map_eq_some_iff.mp e
        exact .inl ⟨_, _, _, _, rfl, rfl, .inl (.inr ⟨o, h4⟩), at_map hd, f _ (.int _)⟩
      · rename_i ns ho
        obtain ⟨a', h1, h2, h3, vs, h4, h5, h6⟩ := rc.ob _ _ ho
        rw [hm] at h1; cases h1
        obtain ⟨d, hd, rfl⟩ := Option.map_eq_some_iff.mp e
        unfold atI at hd
        rw [← h5] at hd
        cases q : ixN vs.length _ with
        | none => rw [q] at hd; cases hd
        | some j =>
          rw [q] at hd
          obtain ⟨b, q1, q2⟩ := h6 j d hd
          refine .inl ⟨_, _, _, .ref b, rfl, rfl, SqL.of h4, ?_, f _ ⟨b, rfl, q2⟩⟩
          unfold atI
          rw [q]; exact q1
      · cases e
    · cases e
  exact fun value sl pins s σ H v w vv ww Q I rv rw' q => ix_seq value sl pins s σ H v w vv ww Q I rv rw' (imp _ _ _ _ q)
theorem sl_slice : SlR X (fun v lo hi H Q => ∃ g st x z, RelC g st H ∧ RepV g v x ∧ slice x lo hi = some z ∧ Fin1 g H z Q) := by
  rintro pins s σ H v vv vl vu lo hi sl Q I rv hs pl pu ⟨g, st, x, z, rc, hx, e, f⟩
  unfold slice at e
  split at e
  · cases e
    cases hx with | tup e1 n1 r1 =>
    refine sl_tupF pins s σ H _ _ vl vu lo hi sl Q I rv hs pl pu ⟨_, _, rfl, sqT rc.fh e1, fun q => f.1 _ (.tup e1 n1 ?_), f.tup rc (r1.cut lo hi)⟩
    have := r1.cut lo hi
    rw [q] at this
    exact this
  · cases e
    cases hx with | lst e1 r1 =>
    exact sl_list pins s σ H _ _ vl vu lo hi sl Q I rv hs pl pu ⟨_, _, rfl, sqL rc.fh e1, f.lst rc (r1.cut lo hi)⟩
  · cases e
end
end Bz
/-! Readings over data; the rules' soundness: expressions. -/
namespace Bz
open PySem PySem.Spec PyProof.Rows L2

section
variable (mg : Str → Option Value) (W : WX)
def Out (g : Gh) (env : List Sl) (σ : L2.St) {α : Type} (r : R α) (P : α → Stt → Gh → Hp → Prop) : Prop := match r with
  | .ok x st => ∀ H' g', Rel g' env st σ H' → g.le g' → P x st g' H'
  | .exc c st => ∀ cls d H' g', Rel g' env st σ H' → g.le g' → mg c = some cls → W cls d σ H'
  | .stuck => False
def tR (f : List Sl → Stt → R Va) : TE := fun σ H Q => ∃ g env st, Rel g env st σ H ∧ Out mg W g env σ (f env st) fun x _ g' H' => ∀ v, RepV g' v x → Q v H'
def tT (f : List Sl → Stt → R Bool) : TT := fun σ H Q => ∃ g env st, Rel g env st σ H ∧ Out mg W g env σ (f env st) fun b _ _ H' => Q b H'
def tA (f : List Sl → Stt → R (List Va)) : TA := fun σ H Q => ∃ g env st, Rel g env st σ H ∧ Out mg W g env σ (f env st) fun xs _ g' H' => ∀ vs, RepAll g' vs xs → Q vs H'
def tO (f : List Sl → Stt → R (Option Int)) : TO := fun σ H Q => ∃ g env st, Rel g env st σ H ∧ Out mg W g env σ (f env st) fun o _ _ H' => Q o H'
end
section
variable {mg : Str → Option Value} {W : WX} {g : Gh} {env : List Sl} {σ : L2.St} {α β : Type}
theorem Out.imp {r : R α} {P P' : α → Stt → Gh → Hp → Prop} (o : Out mg W g env σ r P) (h : ∀ x st g' H', Rel g' env st σ H' → g.le g' → P x st g' H' → P' x st g' H') : Out mg W g env σ r P' := by
  cases r with
  | ok x st => exact fun H' g' rel le => h x st g' H' rel le (o H' g' rel le)
  | exc c st => exact o
  | stuck => exact o
theorem Out.up {r : R α} {P : α → Stt → Gh → Hp → Prop} {g' : Gh} (le : g.le g') (o : Out mg W g env σ r P) : Out mg W g' env σ r P := by
  cases r with
  | ok x st => exact fun H' g'' rel le' => o H' g'' rel (le.trans le')
  | exc c st => exact fun cls d H' g'' rel le' => o cls d H' g'' rel (le.trans le')
  | stuck => exact o
theorem Out.bind {r : R α} {k : α → Stt → R β} {P : β → Stt → Gh → Hp → Prop} (o : Out mg W g env σ (r.bind k) P) : Out mg W g env σ r fun x st g' _ => Out mg W g' env σ (k x st) P := by
  cases r with
  | ok x st => exact fun H' g' rel le => Out.up le o
  | exc c st => exact o
  | stuck => exact o
theorem Out.lift {e : Option α} {st : Stt} {P : α → Stt → Gh → Hp → Prop} (o : Out mg W g env σ (Bz.lift e st) P) : ∃ z, e = Option.some z ∧ Out mg W g env σ (R.ok z st) P := by
  cases e with
  | none => exact False.elim o
  | some z => exact ⟨z, rfl, o⟩
theorem Out.here {z : α} {st : Stt} {H : Hp} {P : α → Stt → Gh → Hp → Prop} (rel : Rel g env st σ H) (o : Out mg W g env σ (R.ok z st) P) : P z st g H := o H g rel (.refl g)
theorem Out.fin1 {z : Va} {st : Stt} {H : Hp} {Q : VK} (rel : Rel g env st σ H) (o : Out mg W g env σ (R.ok z st) fun x _ g' H' => ∀ v, RepV g' v x → Q v H') : Fin1 g H z Q :=
  ⟨fun u hu => o H g rel (.refl g) u hu, fun p ob u hp hu => o _ _ (rel.put hp).1 (rel.put hp).2 u hu⟩
end
theorem _root_.L2.PE.impB {X : Cx} {e : Expr} {t t' : TE} (h : PE X e t) (k : ∀ σ H Q, t' σ H Q → t σ H Q) : PE X e t' := ⟨fun pins s σ H Q I q => h.run pins s σ H Q I (k σ H Q q)⟩
theorem _root_.L2.PT.impB {X : Cx} {e : Expr} {t t' : TT} (h : PT X e t) (k : ∀ σ H Q, t' σ H Q → t σ H Q) : PT X e t' := ⟨fun pins s σ H Q I q => h.run pins s σ H Q I (k σ H Q q)⟩
theorem _root_.L2.PW.impB {X : Cx} {e : Expr} {t t' : TT} (h : PW X e t) (k : ∀ σ H Q, t' σ H Q → t σ H Q) : PW X e t' := ⟨fun wh pins s σ H Q I q => h.run wh pins s σ H Q I (k σ H Q q)⟩
theorem _root_.L2.PA.impB {X : Cx} {e : List Expr} {t t' : TA} (h : PA X e t) (k : ∀ σ H Q, t' σ H Q → t σ H Q) : PA X e t' := ⟨fun pos pins s σ H Q I q => h.run pos pins s σ H Q I (k σ H Q q)⟩
theorem _root_.L2.PO.impB {X : Cx} {e : Option Expr} {t t' : TO} (h : PO X e t) (k : ∀ σ H Q, t' σ H Q → t σ H Q) : PO X e t' := ⟨fun pins s σ H Q I q => h.run pins s σ H Q I (k σ H Q q)⟩
/-- a def's promise -/
def spF (mg : Str → Option Value) (h : List Va → Stt → R Va) : Sp := fun vs H Q E => ∃ g xs st, RelC g st H ∧ RepAll g vs xs ∧ match h xs st with
  | .ok x st' => ∀ v H' g', RelC g' st' H' → g.le g' → RepV g' v x → Q v H'
  | .exc c st' => ∀ cls d H' g', RelC g' st' H' → g.le g' → mg c = some cls → E cls d H'
  | .stuck => False
def bltNames : List String := ["len", "sum", "max", "min", "int", "tuple", "list", "all", "isinstance", "range", "enumerate", "zip", "sorted", "set", "bool", "str"]
structure XcOk (K : PySem.W.Frag) (mg : Str → Option Value) (nm : Nat → Option Str) : Prop where
  one : ∀ f x, 1000 ≤ f → nm f = some x → ∃ C, mg x = some (.ref C) ∧ PySem.W.keepIn K (.ref C) = true ∧ PySem.W.excIn K C [.type "ValueError", .type "Exception", .type "BaseException", .type "object"] "ValueError.__new__" = true ∧ PySem.W.subIn K (.ref C) (.type "BaseException") = some true ∧ PySem.W.typeIn K (.ref C) = some (.type "type")
  two : ∀ f x f' y, 1000 ≤ f → nm f = some x → 1000 ≤ f' → nm f' = some y → ∀ c d, mg x = some c → mg y = some d → PySem.W.exmOne K c d = some (xsub x y)
structure Ctx (nm : Nat → Option Str) (cf : Nat → List Va → Stt → R Va) (k : Nat) (bk : Option Scope) (W : WX) (X : Cx) : Prop where
  nd : X.N.Nodup
  calm : X.calm = true
  tk : Takes X W
  own : PassesOwn (model X.prog X.w) X.A X.env X.xe
  room : Room k X.A
  bl : ∀ b ∈ bltNames, X.mg b = none
  fnb : ∀ x, cellB bk x = true → X.fn x = true
  xa : XcOk X.K X.mg nm
  stk : bk = none → X.stack = X.env :: X.outer
  frm : bk = none → X.env.frame = some X.env.locals
  fn : ∀ f x, f < 1000 → nm f = some x → ∃ a fd pn, X.mg x = some (.ref a) ∧ PySem.W.keepIn X.K (.ref a) = true ∧ Binds X.K fd pn [] ∧ FnOk X.prog X.w X.K X.mg X.base (L2.CX X.prog X.w) k a fd pn (spF X.mg (cf f))
section
variable (nm : Nat → Option Str) (cf : Nat → List Va → Stt → R Va)
def SE (e : E) : Prop := ∀ (k : Nat) (bk : Option Scope) (W : WX) (X : Cx), Ctx nm cf k bk W X → wfE nm X.N X.env.scope bk e = true → PE X e.py (tR X.mg W (ev cf e))
def ST (e : E) : Prop := ∀ (k : Nat) (bk : Option Scope) (W : WX) (X : Cx), Ctx nm cf k bk W X → wfE nm X.N X.env.scope bk e = true → PT X e.py (tT X.mg W fun env st => tst (ev cf e env st))
def SEs : Es → Prop
  | .nil => True
  | .cons a r => SE nm cf a ∧ (a.isIf = false → ST nm cf a) ∧ SEs r
end
/-! ### the text's sides -/
theorem star1 (e : E) (es : List Expr) (env : Env) : starEach (e.py :: es) env = (false, eval e.py env) :: starEach es env := by cases e <;> rfl
theorem stars (es : Es) (env : Env) (pos : Pos) : (backTo pos (starEach es.py env)).any (·.1) = false := by
  induction es using Es.rec (motive_1 := fun _ => True) (motive_2 := fun _ => True) (motive_3 := fun _ => True) with
  | nil => rfl
  | cons a r _ ih =>
    show (backTo pos (starEach (a.py :: r.py) env)).any (·.1) = false
    rw [star1]
    show (false || (backTo pos (starEach r.py env)).any (·.1)) = false
    rw [ih]; rfl
  | _ => trivial
theorem ixPlain (e : E) : PlainIx e.py := by cases e <;> exact fun _ _ => rfl
theorem noSet (e : E) (op : CmpOp) : behindInMarks op e.py = false := by cases e <;> rfl
theorem attrBase (e : E) (x : Str) (env : Env) (h : ∀ x f p q, e ≠ .call x f .nil p q) (h2 : ∀ f p q, e ≠ .bi f .nil p q) : attributeBase e.py x env (eval e.py env) = eval e.py env := by
  cases e with
  | call y f es p q =>
    cases es with
    | nil => exact absurd rfl (h y f p q)
    | cons a r => rfl
  | bi f es p q =>
    cases es with
    | nil => exact absurd rfl (h2 f p q)
    | cons a r => rfl
  | _ => rfl
def E.plainT : E → Bool
  | .not .. => false
  | .bo .. => false
  | .cmp .. => false
  | .cmp2 .. => false
  | .ife .. => false
  | _ => true
theorem isT_plain {e : E} (h : e.plainT = true) (env : Env) : ∀ whole, isTrue e.py env whole = (do let v ← whole; standAt e.py.pos; holding [v] (truthy v)) := by
  cases e <;> first | (cases h; done) | (intro _; rfl)
theorem glOf {X : Cx} {x : Str} (h : glB X.env.scope x = true) : Gl X x := by
  unfold glB at h
  show X.env.scope.names.lookup x = some .globalImplicit
  split at h
  · assumption
  · cases h
theorem okDbg {x : Str} (h : okN x = true) : (x == ("__debug__" : Str)) = false := by
  unfold okN at h
  simp only [Bool.and_eq_true, Bool.not_eq_true'] at h
  exact h.1
section
variable {nm : Nat → Option Str} {cf : Nat → List Va → Stt → R Va} {k : Nat} {bk : Option Scope} {W : WX} {X : Cx}
theorem pe_nm {X : Cx} {x : Str} {i p : Nat} (h : wfV X.N X.env.scope x i = true) : PE X (.Name x (ps p)) (tVar i) := by
  unfold wfV okN at h
  simp only [Bool.and_eq_true, Bool.not_eq_true', decide_eq_true_eq] at h
  obtain ⟨⟨h1, h2⟩, h3, h4⟩ := h
  refine pe_var h1 ?_ h3 h4
  unfold visB at h2
  unfold Vis
  split at h2 <;> first | exact .inl (by assumption) | exact .inr (.inl (by assumption)) | exact .inr (.inr (by assumption)) | cases h2
theorem pe_name (c : Ctx nm cf k bk W X) {x : Str} {i p : Nat} (h : wfV X.N X.env.scope x i = true) : PE X (.Name x (ps p)) (tVar i) := by
  unfold wfV okN at h
  simp only [Bool.and_eq_true, Bool.not_eq_true', decide_eq_true_eq] at h
  obtain ⟨⟨h1, h2⟩, h3, h4⟩ := h
  refine pe_var h1 ?_ h3 h4
  unfold visB at h2
  unfold Vis
  split at h2 <;> first | exact .inl (by assumption) | exact .inr (.inl (by assumption)) | exact .inr (.inr (by assumption)) | cases h2
theorem tst_bind {α : Type} (r : R α) (f : α → Stt → R Va) : tst (r.bind f) = r.bind fun x st => tst (f x st) := by cases r <;> rfl
theorem st_plain (e : E) (h : SE nm cf e) (hp : e.plainT = true) : ST nm cf e := fun k bk W X c hw => by
  refine (pt_truth (h k bk W X c hw) (isT_plain hp X.env)).impB ?_
  rintro σ H Q ⟨g, env, st, rel, out⟩
  refine ⟨g, env, st, rel, (Out.bind out).imp ?_⟩
  intro x st1 g1 H1 rel1 le1 o1 v hv
  obtain ⟨b, e1, o2⟩ := o1.lift
  exact ⟨b, tru_V rel1.c hv e1, o2.here rel1⟩
theorem se_k (co : K) (j p : Nat) : SE nm cf (.k co j p) := fun k bk W X c h => by
  simp only [wfE] at h
  cases co with
  | non => exact (pe_non).impB fun σ H Q ⟨g, env, st, rel, out⟩ => out.here rel _ .non
  | bl b => exact (pe_bl).impB fun σ H Q ⟨g, env, st, rel, out⟩ => out.here rel _ (.bl b)
  | int i => exact (pe_int).impB fun σ H Q ⟨g, env, st, rel, out⟩ => out.here rel _ (.int i)
  | str s =>
    rw [Bool.and_eq_true, decide_eq_true_eq] at h
    exact (pe_str).impB fun σ H Q ⟨g, env, st, rel, out⟩ => out.here rel _ (.str s h.1 h.2)
theorem se_var (x : Str) (i p : Nat) : SE nm cf (.var x i p) := fun k bk W X c hw => by
  refine (pe_name c hw).impB ?_
  rintro σ H Q ⟨g, env, st, rel, out⟩
  simp only [ev] at out
  split at out
  · rename_i y hy
    obtain ⟨v, h1, h2⟩ := rel.e.val i y hy
    exact ⟨v, h1, out.here rel v h2⟩
  · exact out.elim
theorem se_bin {op : Operator} {a b : E} {p : Nat} (ha : SE nm cf a) (hb : SE nm cf b) : SE nm cf (.bin op a b p) := fun k bk W X c hw => by
  simp only [wfE, Bool.and_eq_true] at hw
  refine (pe_op (op_bop op) (ha k bk W X c hw.1) (hb k bk W X c hw.2)).impB ?_
  rintro σ H Q ⟨g, env, st, rel, out⟩
  refine ⟨g, env, st, rel, (Out.bind out).imp ?_⟩
  intro x st1 g1 H1 rel1 le1 o1 v hv
  refine ⟨g1, env, st1, rel1, (Out.bind o1).imp ?_⟩
  intro y st2 g2 H2 rel2 le2 o2 w hw
  obtain ⟨z, e1, o3⟩ := o2.lift
  exact ⟨g2, st2, x, y, z, rel2.c, hv.mono le2, hw, e1, o3.fin1 rel2⟩
theorem se_neg {a : E} {p : Nat} (ha : SE nm cf a) : SE nm cf (.neg a p) := fun k bk W X c hw => by
  refine (pe_un un_neg (ha k bk W X c hw)).impB ?_
  rintro σ H Q ⟨g, env, st, rel, out⟩
  refine ⟨g, env, st, rel, (Out.bind out).imp ?_⟩
  intro x st1 g1 H1 rel1 le1 o1 v hv
  split at o1
  · cases hv
    exact ⟨_, rfl, o1.here rel1 _ (.int _)⟩
  · exact o1.elim
theorem se_not {a : E} {p : Nat} (ha : SE nm cf a) : SE nm cf (.not a p) := fun k bk W X c hw => by
  simp only [wfE, Bool.and_eq_true] at hw
  refine (pe_notT (ha k bk W X c hw.1)).impB ?_
  rintro σ H Q ⟨g, env, st, rel, out⟩
  refine ⟨g, env, st, rel, (Out.bind out).imp ?_⟩
  intro x st1 g1 H1 rel1 le1 o1 v hv
  obtain ⟨z, e1, o2⟩ := o1.lift
  obtain ⟨b, e2, rfl⟩ := Option.map_eq_some_iff.mp e1
  exact ⟨b, tru_V rel1.c hv e2, o2.here rel1 _ (.bl _)⟩
theorem st_not {a : E} {p : Nat} (ha : a.isIf = false → ST nm cf a) : ST nm cf (.not a p) := fun k bk W X c hw => by
  simp only [wfE, Bool.and_eq_true, Bool.not_eq_true'] at hw
  refine (pt_not (ha hw.2 k bk W X c hw.1)).impB ?_
  rintro σ H Q ⟨g, env, st, rel, out⟩
  refine ⟨g, env, st, rel, ?_⟩
  have e : tst (ev cf (.not a p) env st) = (tst (ev cf a env st)).bind fun b st => .ok (!b) st := by
    simp only [ev, tst]
    cases ev cf a env st with
    | ok x st =>
      simp only [R.bind]
      cases tru st x <;> rfl
    | exc c st => rfl
    | stuck => rfl
  simp only [e] at out
  exact out.bind.imp fun b st1 g1 H1 rel1 le1 o1 => o1.here rel1
theorem se_cmp {op : CmpOp} {a b : E} {p : Nat} (ha : SE nm cf a) (hb : SE nm cf b) : SE nm cf (.cmp op a b p) := fun k bk W X c hw => by
  simp only [wfE, Bool.and_eq_true] at hw
  refine (pe_cmpR (op_cmp c.room.units op) (ha k bk W X c hw.1) (hb k bk W X c hw.2) (noSet b op)).impB ?_
  rintro σ H Q ⟨g, env, st, rel, out⟩
  refine ⟨g, env, st, rel, (Out.bind out).imp ?_⟩
  intro x st1 g1 H1 rel1 le1 o1 v hv
  refine ⟨g1, env, st1, rel1, (Out.bind o1).imp ?_⟩
  intro y st2 g2 H2 rel2 le2 o2 w hw
  obtain ⟨z, e1, o3⟩ := o2.lift
  obtain ⟨b, e2, rfl⟩ := Option.map_eq_some_iff.mp e1
  exact ⟨g2, st2, x, y, b, rel2.c, hv.mono le2, hw, e2, o3.here rel2 _ (.bl _)⟩
theorem st_cmp {op : CmpOp} {a b : E} {p : Nat} (ha : SE nm cf a) (hb : SE nm cf b) : ST nm cf (.cmp op a b p) := fun k bk W X c hw => by
  simp only [wfE, Bool.and_eq_true] at hw
  refine (pt_cmpR (op_cmp c.room.units op) (ha k bk W X c hw.1) (hb k bk W X c hw.2) (noSet b op)).impB ?_
  rintro σ H Q ⟨g, env, st, rel, out⟩
  simp only [ev, tst_bind] at out
  refine ⟨g, env, st, rel, (Out.bind out).imp ?_⟩
  intro x st1 g1 H1 rel1 le1 o1 v hv
  refine ⟨g1, env, st1, rel1, (Out.bind o1).imp ?_⟩
  intro y st2 g2 H2 rel2 le2 o2 w hw
  obtain ⟨z, e1, o3⟩ := (Out.bind o2).lift
  obtain ⟨b, e2, rfl⟩ := Option.map_eq_some_iff.mp e1
  exact ⟨g2, st2, x, y, b, rel2.c, hv.mono le2, hw, e2, b, rfl, Out.here rel2 (o3.here rel2)⟩
theorem lastM (o1 o2 : CmpOp) (b c : E) : lastMarks [o1, o2] [b.py, c.py] = false := noSet c o2
theorem se_cmp2 {o1 o2 : CmpOp} {a b d : E} {p : Nat} (ha : SE nm cf a) (hb : SE nm cf b) (hd : SE nm cf d) : SE nm cf (.cmp2 o1 o2 a b d p) := fun k bk W X c hw => by
  simp only [wfE, Bool.and_eq_true] at hw
  refine (pe_chain (op_cmp c.room.units o1) (op_cmp c.room.units o2) (ha k bk W X c hw.1.1) (hb k bk W X c hw.1.2) (hd k bk W X c hw.2) (lastM o1 o2 b d)).impB ?_
  rintro σ H Q ⟨g, env, st, rel, out⟩
  refine ⟨g, env, st, rel, (Out.bind out).imp ?_⟩
  intro x st1 g1 H1 rel1 le1 o1 v hv
  refine ⟨g1, env, st1, rel1, (Out.bind o1).imp ?_⟩
  intro y st2 g2 H2 rel2 le2 o2 w hw
  obtain ⟨q, e1, o3⟩ := (Out.bind o2).lift
  have o4 := o3.here rel2
  refine ⟨g2, st2, x, y, q, rel2.c, hv.mono le2, hw, e1, q, rfl, ?_⟩
  cases q with
  | false => exact Out.here rel2 o4 _ (.bl _)
  | true =>
    refine ⟨g2, env, st2, rel2, (Out.bind o4).imp ?_⟩
    intro z st3 g3 H3 rel3 le3 o5 u hu
    obtain ⟨t, e5, o6⟩ := o5.lift
    obtain ⟨b, e6, rfl⟩ := Option.map_eq_some_iff.mp e5
    exact ⟨g3, st3, y, z, b, rel3.c, hw.mono le3, hu, e6, o6.here rel3 _ (.bl _)⟩
theorem st_cmp2 {o1 o2 : CmpOp} {a b d : E} {p : Nat} (ha : SE nm cf a) (hb : SE nm cf b) (hd : SE nm cf d) : ST nm cf (.cmp2 o1 o2 a b d p) := fun k bk W X c hw => by
  simp only [wfE, Bool.and_eq_true] at hw
  refine (pt_chain (op_cmp c.room.units o1) (op_cmp c.room.units o2) (ha k bk W X c hw.1.1) (hb k bk W X c hw.1.2) (hd k bk W X c hw.2) (lastM o1 o2 b d)).impB ?_
  rintro σ H Q ⟨g, env, st, rel, out⟩
  simp only [ev, tst_bind] at out
  refine ⟨g, env, st, rel, (Out.bind out).imp ?_⟩
  intro x st1 g1 H1 rel1 le1 o1 v hv
  refine ⟨g1, env, st1, rel1, (Out.bind o1).imp ?_⟩
  intro y st2 g2 H2 rel2 le2 o2 w hw
  obtain ⟨q, e1, o3⟩ := (Out.bind o2).lift
  have o4 := o3.here rel2
  refine ⟨g2, st2, x, y, q, rel2.c, hv.mono le2, hw, e1, q, rfl, ?_⟩
  cases q with
  | false => exact ⟨false, rfl, Out.here rel2 o4⟩
  | true =>
    simp only [if_true, tst_bind] at o4
    refine ⟨g2, env, st2, rel2, (Out.bind o4).imp ?_⟩
    intro z st3 g3 H3 rel3 le3 o5 u hu
    obtain ⟨t, e5, o6⟩ := (Out.bind o5).lift
    obtain ⟨b, e6, rfl⟩ := Option.map_eq_some_iff.mp e5
    exact ⟨g3, st3, y, z, b, rel3.c, hw.mono le3, hu, e6, b, rfl, Out.here rel3 (o6.here rel3)⟩
theorem se_ife {a b d : E} {p : Nat} (hc : a.isIf = false → ST nm cf a) (ha : SE nm cf b) (hb : SE nm cf d) : SE nm cf (.ife a b d p) := fun k bk W X c hw => by
  simp only [wfE, Bool.and_eq_true, Bool.not_eq_true'] at hw
  refine (pe_ifExp (hc hw.2 k bk W X c hw.1.1.1) (ha k bk W X c hw.1.1.2) (hb k bk W X c hw.1.2)).impB ?_
  rintro σ H Q ⟨g, env, st, rel, out⟩
  refine ⟨g, env, st, rel, (Out.bind out).imp ?_⟩
  intro q st1 g1 H1 rel1 le1 o1
  cases q with
  | true => exact ⟨g1, env, st1, rel1, o1⟩
  | false => exact ⟨g1, env, st1, rel1, o1⟩
/-! ### and, or -/
theorem se_bo {an : Bool} {p : Nat} : ∀ {es : Es} {a : E}, SE nm cf a → SEs nm cf es → SE nm cf (.bo an a es p)
  | .nil, a, ha, _ => fun k bk W X c hw => by
    simp only [wfE, Bool.and_eq_true] at hw
    refine (pe_one (ha k bk W X c hw.1.1.1)).impB ?_
    rintro σ H Q ⟨g, env, st, rel, out⟩
    refine ⟨g, env, st, rel, (Out.bind out).imp ?_⟩
    intro x st1 g1 H1 rel1 le1 o1
    exact o1.here rel1
  | .cons b r, a, ha, hs => fun k bk W X c hw => by
    simp only [wfE, wfEs, wfNI, Bool.and_eq_true] at hw
    have ih := se_bo (an := an) (p := p) hs.1 hs.2.2 k bk W X c (by simp only [wfE, Bool.and_eq_true]; exact ⟨⟨⟨hw.1.1.2.1, hw.1.1.2.2⟩, hw.2.1⟩, hw.2.2⟩)
    have go : ∀ σ H Q, tR X.mg W (ev cf (.bo an a (.cons b r) p)) σ H Q → tR X.mg W (ev cf a) σ H fun x H1 => ∃ q, TruV X.K x H1 q ∧ if q = an then tR X.mg W (ev cf (.bo an b r p)) σ H1 Q else Q x H1 := by
      rintro σ H Q ⟨g, env, st, rel, out⟩
      refine ⟨g, env, st, rel, (Out.bind out).imp ?_⟩
      intro x st1 g1 H1 rel1 le1 o1 v hv
      obtain ⟨q, e1, o2⟩ := (Out.bind o1).lift
      refine ⟨q, tru_V rel1.c hv e1, ?_⟩
      have o3 := o2.here rel1
      by_cases hq : q = an
      · rw [if_pos hq] at o3 ⊢
        exact ⟨g1, env, st1, rel1, o3⟩
      · rw [if_neg hq] at o3 ⊢
        exact Out.here rel1 o3 v hv
    cases an with
    | true => exact (pe_andT (ha k bk W X c hw.1.1.1) ih).impB fun σ H Q q => go σ H Q q
    | false =>
      refine (pe_orT (ha k bk W X c hw.1.1.1) ih).impB fun σ H Q q => ?_
      obtain ⟨g, env, st, rel, out⟩ := go σ H Q q
      refine ⟨g, env, st, rel, out.imp ?_⟩
      rintro x st1 g1 H1 rel1 le1 o1 v hv
      obtain ⟨q, e1, o2⟩ := o1 v hv
      refine ⟨q, e1, ?_⟩
      cases q with
      | true => exact o2
      | false => exact o2
theorem sw_bo {an : Bool} {p : Nat} : ∀ {es : Es} {a : E}, (a.isIf = false → ST nm cf a) → SEs nm cf es → ∀ (k : Nat) (bk : Option Scope) (W : WX) (X : Cx), Ctx nm cf k bk W X → wfE nm X.N X.env.scope bk (.bo an a es p) = true → PW X (E.py (.bo an a es p)) (tT X.mg W fun env st => tst (ev cf (.bo an a es p) env st))
  | .nil, a, ha, _ => fun k bk W X c hw => by
    simp only [wfE, Bool.and_eq_true, Bool.not_eq_true'] at hw
    have h := ha hw.1.2 k bk W X c hw.1.1.1
    have e : ∀ env st, tst (ev cf (.bo an a .nil p) env st) = tst (ev cf a env st) := fun env st => by
      simp only [ev, evb]
      cases ev cf a env st <;> rfl
    simp only [e]
    cases an with
    | true => exact pw_and1 h
    | false => exact pw_or1 h
  | .cons b r, a, ha, hs => fun k bk W X c hw => by
    simp only [wfE, wfEs, wfNI, Bool.and_eq_true, Bool.not_eq_true'] at hw
    have h := ha hw.1.2 k bk W X c hw.1.1.1
    have ih := sw_bo (an := an) (p := p) hs.2.1 hs.2.2 k bk W X c (by simp only [wfE, Bool.and_eq_true, Bool.not_eq_true']; exact ⟨⟨⟨hw.1.1.2.1, hw.1.1.2.2⟩, hw.2.1⟩, hw.2.2⟩)
    have e : ∀ env st, tst (ev cf (.bo an a (.cons b r) p) env st) = (tst (ev cf a env st)).bind fun q st => if q = an then tst (ev cf (.bo an b r p) env st) else .ok q st := fun env st => by
      simp only [ev, evb, tst_bind]
      cases ev cf a env st with
      | ok x st1 =>
        simp only [R.bind, tst]
        cases hq : tru st1 x with
        | none => rfl
        | some q =>
          simp only [Bz.lift, R.bind]
          by_cases hqa : q = an
          · rw [if_pos hqa, if_pos hqa]
            cases ev cf b env st1 <;> rfl
          · rw [if_neg hqa, if_neg hqa]
            simp only [R.bind, hq]
      | exc c st => rfl
      | stuck => rfl
    have go : ∀ σ H Q, tT X.mg W (fun env st => tst (ev cf (.bo an a (.cons b r) p) env st)) σ H Q → tT X.mg W (fun env st => tst (ev cf a env st)) σ H fun q H1 => if q = an then tT X.mg W (fun env st => tst (ev cf (.bo an b r p) env st)) σ H1 Q else Q q H1 := by
      rintro σ H Q ⟨g, env, st, rel, out⟩
      simp only [e] at out
      refine ⟨g, env, st, rel, (Out.bind out).imp ?_⟩
      intro q st1 g1 H1 rel1 le1 o1
      by_cases hq : q = an
      · rw [if_pos hq] at o1 ⊢
        exact ⟨g1, env, st1, rel1, o1⟩
      · rw [if_neg hq] at o1 ⊢
        exact Out.here rel1 o1
    cases an with
    | true =>
      refine (pw_and h ih).impB fun σ H Q q => ?_
      obtain ⟨g, env, st, rel, out⟩ := go σ H Q q
      refine ⟨g, env, st, rel, out.imp ?_⟩
      intro q st1 g1 H1 rel1 le1 o1
      cases q with
      | true => exact o1
      | false => exact o1
    | false =>
      refine (pw_or h ih).impB fun σ H Q q => ?_
      obtain ⟨g, env, st, rel, out⟩ := go σ H Q q
      refine ⟨g, env, st, rel, out.imp ?_⟩
      intro q st1 g1 H1 rel1 le1 o1
      cases q with
      | true => exact o1
      | false => exact o1
theorem st_bo {an : Bool} {p : Nat} {es : Es} {a : E} (ha : a.isIf = false → ST nm cf a) (hs : SEs nm cf es) : ST nm cf (.bo an a es p) := fun k bk W X c hw => (sw_bo ha hs k bk W X c hw).pt
end
end Bz
/-! Soundness: displays, items, slices, calls. -/
namespace Bz
open PySem PySem.Spec PyProof.Rows L2
section
variable {nm : Nat → Option Str} {cf : Nat → List Va → Stt → R Va} {k : Nat} {bk : Option Scope} {W : WX} {X : Cx}
theorem evs_len : ∀ {es : Es} {env : List Sl} {st st' : Stt} {xs : List Va}, evs cf es env st = .ok xs st' → xs.length = es.len
  | .nil, env, st, st', xs, e => by
    simp only [evs] at e
    cases e; rfl
  | .cons a r, env, st, st', xs, e => by
    simp only [evs] at e
    cases ha : ev cf a env st with
    | ok x st1 =>
      rw [ha] at e
      simp only [R.bind] at e
      cases hr : evs cf r env st1 with
      | ok ys st2 =>
        rw [hr] at e
        simp only [R.bind] at e
        cases e
        rw [List.length_cons, evs_len hr]; rfl
      | exc c s => rw [hr] at e; simp only [R.bind] at e; cases e
      | stuck => rw [hr] at e; simp only [R.bind] at e; cases e
    | exc c s => rw [ha] at e; simp only [R.bind] at e; cases e
    | stuck => rw [ha] at e; simp only [R.bind] at e; cases e
theorem Out.and {mg : Str → Option Value} {g : Gh} {env : List Sl} {σ : L2.St} {α : Type} {r : R α} {P : α → Stt → Gh → Hp → Prop} {C : α → Prop} (o : Out mg W g env σ r P) (h : ∀ x st, r = .ok x st → C x) : Out mg W g env σ r fun x st g' H' => C x ∧ P x st g' H' := by
  cases r with
  | ok x st => exact fun H' g' rel le => ⟨h x st rfl, o H' g' rel le⟩
  | exc c st => exact o
  | stuck => exact o
theorem sa : ∀ (es : Es), SEs nm cf es → ∀ (k : Nat) (bk : Option Scope) (W : WX) (X : Cx), Ctx nm cf k bk W X → wfEs nm X.N X.env.scope bk es = true → PA X es.py (tA X.mg W (evs cf es))
  | .nil, _ => fun k bk W X c hw => by
    refine pa_nil.impB ?_
    rintro σ H Q ⟨g, env, st, rel, out⟩
    exact out.here rel [] trivial
  | .cons a r, h => fun k bk W X c hw => by
    simp only [wfEs, Bool.and_eq_true] at hw
    refine (pa_cons (h.1 k bk W X c hw.1) (sa r h.2.2 k bk W X c hw.2) (star1 a r.py X.env)).impB ?_
    rintro σ H Q ⟨g, env, st, rel, out⟩
    refine ⟨g, env, st, rel, (Out.bind out).imp ?_⟩
    intro x st1 g1 H1 rel1 le1 o1 v hv
    refine ⟨g1, env, st1, rel1, (Out.bind o1).imp ?_⟩
    intro xs st2 g2 H2 rel2 le2 o2 vs hvs
    exact o2.here rel2 (v :: vs) ⟨hv.mono le2, hvs⟩
theorem small_sz {n : Nat} (h : n ≤ 1000) : n ≤ sizeLine := by rw [sizeLine_eq]; omega
theorem se_tup {es : Es} {j p : Nat} (h : SEs nm cf es) : SE nm cf (.tup es j p) := fun k bk W X c hw => by
  simp only [wfE, Bool.and_eq_true, decide_eq_true_eq] at hw
  refine (pe_tupF (sa es h k bk W X c hw.1)).impB ?_
  rintro σ H Q ⟨g, env, st, rel, out⟩
  refine ⟨g, env, st, rel, ((Out.bind out).and (C := fun xs => xs.length = es.len) fun x st e => evs_len e).imp ?_⟩
  rintro xs st1 g1 H1 rel1 le1 ⟨hl, o1⟩ vs hvs
  obtain ⟨z, e1, o2⟩ := o1.lift
  obtain ⟨ds, e2, rfl⟩ := Option.map_eq_some_iff.mp e1
  exact ⟨by rw [hvs.length, hl]; exact small_sz hw.2, (o2.fin1 rel1).tup rel1.c (hvs.dats e2)⟩
theorem se_lst {es : Es} {p : Nat} (h : SEs nm cf es) : SE nm cf (.lst es p) := fun k bk W X c hw => by
  simp only [wfE, Bool.and_eq_true, decide_eq_true_eq] at hw
  refine (pe_lst (sa es h k bk W X c hw.1)).impB ?_
  rintro σ H Q ⟨g, env, st, rel, out⟩
  refine ⟨g, env, st, rel, ((Out.bind out).and (C := fun xs => xs.length = es.len) fun x st e => evs_len e).imp ?_⟩
  rintro xs st1 g1 H1 rel1 le1 ⟨hl, o1⟩ vs hvs
  obtain ⟨z, e1, o2⟩ := o1.lift
  obtain ⟨ds, e2, rfl⟩ := Option.map_eq_some_iff.mp e1
  exact ⟨by rw [hvs.length, hl]; exact small_sz hw.2, (o2.fin1 rel1).lst rel1.c (hvs.dats e2)⟩
theorem se_ix {a b : E} {p : Nat} (ha : SE nm cf a) (hb : SE nm cf b) : SE nm cf (.ix a b p) := fun k bk W X c hw => by
  simp only [wfE, Bool.and_eq_true] at hw
  refine (pe_ix ix_item (ha k bk W X c hw.1) (hb k bk W X c hw.2) (ixPlain b)).impB ?_
  rintro σ H Q ⟨g, env, st, rel, out⟩
  refine ⟨g, env, st, rel, (Out.bind out).imp ?_⟩
  intro x st1 g1 H1 rel1 le1 o1 v hv
  refine ⟨g1, env, st1, rel1, (Out.bind o1).imp ?_⟩
  intro y st2 g2 H2 rel2 le2 o2 w hw
  obtain ⟨z, e1, o3⟩ := o2.lift
  exact ⟨g2, st2, x, y, z, rel2.c, hv.mono le2, hw, e1, o3.here rel2⟩
/-- a slice's part -/
theorem so : ∀ (o : Oe), (∀ a, o = .e a → SE nm cf a) → ∀ (k : Nat) (bk : Option Scope) (W : WX) (X : Cx), Ctx nm cf k bk W X → wfO nm X.N X.env.scope bk o = true → PO X o.py (tO X.mg W (evo cf o))
  | .non, _ => fun k bk W X c hw => by
    refine po_none.impB ?_
    rintro σ H Q ⟨g, env, st, rel, out⟩
    exact out.here rel
  | .e a, h => fun k bk W X c hw => by
    refine (po_some (h a rfl k bk W X c hw)).impB ?_
    rintro σ H Q ⟨g, env, st, rel, out⟩
    refine ⟨g, env, st, rel, (Out.bind out).imp ?_⟩
    intro x st1 g1 H1 rel1 le1 o1 v hv
    split at o1
    · cases hv
      exact ⟨_, rfl, o1.here rel1⟩
    · exact o1.elim
theorem se_sl {a : E} {lo hi : Oe} {p p2 : Nat} (ha : SE nm cf a) (hl : ∀ a, lo = .e a → SE nm cf a) (hh : ∀ a, hi = .e a → SE nm cf a) : SE nm cf (.sl a lo hi p p2) := fun k bk W X c hw => by
  simp only [wfE, Bool.and_eq_true] at hw
  refine (pe_slice sl_slice (ha k bk W X c hw.1.1) (so lo hl k bk W X c hw.1.2) (so hi hh k bk W X c hw.2)).impB ?_
  rintro σ H Q ⟨g, env, st, rel, out⟩
  refine ⟨g, env, st, rel, (Out.bind out).imp ?_⟩
  intro x st1 g1 H1 rel1 le1 o1 v hv
  refine ⟨g1, env, st1, rel1, (Out.bind o1).imp ?_⟩
  intro l st2 g2 H2 rel2 le2 o2
  refine ⟨g2, env, st2, rel2, (Out.bind o2).imp ?_⟩
  intro h st3 g3 H3 rel3 le3 o3
  obtain ⟨z, e1, o4⟩ := o3.lift
  exact ⟨g3, st3, x, z, rel3.c, hv.mono (le2.trans le3), e1, o4.fin1 rel3⟩
/-! ### a call of a def -/
open Classical in
/-- all that a callee may not touch -/
noncomputable def restC (g : Gh) (H : Hp) : Hp := fun b => if g.F b = none ∧ ∀ n, g.m n ≠ some b then H b else none
noncomputable def Gh.rest (g : Gh) (H : Hp) : Gh := { g with C := restC g H }
def Gh.withC (g : Gh) (C : Hp) : Gh := { g with C := C }
theorem restC_some {g : Gh} {H : Hp} {b : Addr} {o : HO} (h : restC g H b = some o) : g.F b = none ∧ (∀ n, g.m n ≠ some b) ∧ H b = some o := by
  unfold restC at h
  split at h
  · rename_i q; exact ⟨q.1, q.2, h⟩
  · cases h
theorem restC_of {g : Gh} {H : Hp} {b : Addr} (h1 : g.F b = none) (h2 : ∀ n, g.m n ≠ some b) : restC g H b = H b := by
  unfold restC
  rw [if_pos ⟨h1, h2⟩]
theorem restC_none {g : Gh} {H : Hp} {b : Addr} {n : Nat} (h : g.m n = some b) : restC g H b = none := by
  unfold restC
  rw [if_neg fun q => q.2 n h]
theorem RepV.same {g g' : Gh} (hF : g'.F = g.F) (hm : g'.m = g.m) : ∀ {v : V} {x : Va}, RepV g v x → RepV g' v x
  | v, .d x, h => by unfold RepV at h ⊢; rw [hF]; exact h
  | v, .ref n, ⟨a, e, h⟩ => ⟨a, e, by rw [hm]; exact h⟩
  | _, .dct _, h => h.elim
theorem RepAll.same {g g' : Gh} (hF : g'.F = g.F) (hm : g'.m = g.m) : ∀ {vs : List V} {xs : List Va}, RepAll g vs xs → RepAll g' vs xs
  | [], [], _ => trivial
  | v :: vs, x :: xs, ⟨h, t⟩ => ⟨h.same hF hm, RepAll.same hF hm t⟩
  | [], _ :: _, h => h.elim
  | _ :: _, [], h => h.elim
theorem ObR.same {g g' : Gh} {H : Hp} {a : Addr} (hF : g'.F = g.F) (hm : g'.m = g.m) : ∀ {o : Ob}, ObR g H a o → ObR g' H a o
  | .lst xs, ⟨vs, h, r⟩ => ⟨vs, h, by rw [hF]; exact r⟩
  | .scr ns, ⟨o, h⟩ => ⟨o, h⟩
  | .nest ns, ⟨vs, h, l, q⟩ => ⟨vs, h, l, by rw [hm]; exact q⟩
  | .ins _ _, h => h.elim
theorem RelC.storeC {g : Gh} {st : Stt} {H : Hp} (r : RelC g st H) {n : Nat} {a : Addr} (h : g.m n = some a) : g.C a = none ∧ g.F a = none := by
  obtain ⟨o, ho⟩ : ∃ o, st[n]? = some o := ⟨_, List.getElem?_eq_getElem (r.dom n a h)⟩
  obtain ⟨a', h1, h2, h3, _⟩ := r.ob n o ho
  rw [h] at h1; cases h1
  exact ⟨h3, h2⟩
theorem RelC.rest {g : Gh} {st : Stt} {H : Hp} (r : RelC g st H) : RelC (g.rest H) st H := by
  refine ⟨r.fh, fun b o h => (restC_some h).2.2, fun b o h => (restC_some h).1, fun n o e => ?_, r.inj, r.dom⟩
  obtain ⟨a, h1, h2, h3, h4⟩ := r.ob n o e
  exact ⟨a, h1, h2, restC_none h1, h4.same rfl rfl⟩
/-- back from a callee that ran under the rest -/
theorem Rel.back {g g' : Gh} {env : List Sl} {st st' : Stt} {σ : L2.St} {H H' : Hp} (r : Rel g env st σ H) (r' : RelC g' st' H') (le : (g.rest H).le g') : Rel (g'.withC g.C) env st' σ H' ∧ g.le (g'.withC g.C) := by
  have hC : g'.C = restC g H := le.c
  have cr : ∀ b o, g.C b = some o → restC g H b = some o := fun b o h => by
    rw [restC_of (r.c.cf b o h) (fun n q => by rw [(r.c.storeC q).1] at h; cases h)]
    exact r.c.ch b o h
  have le1 : g.le (g'.withC g.C) := ⟨le.f, le.m, rfl⟩
  refine ⟨⟨⟨r'.fh, fun b o h => ?_, fun b o h => ?_, fun n o e => ?_, r'.inj, r'.dom⟩, ⟨r.e.len, fun i x e => ?_, fun i xs e => ?_, r.e.dis⟩⟩, le1⟩
  · exact r'.ch b o (by rw [hC]; exact cr b o h)
  · exact r'.cf b o (by rw [hC]; exact cr b o h)
  · obtain ⟨a, h1, h2, h3, h4⟩ := r'.ob n o e
    refine ⟨a, h1, h2, ?_, h4.same rfl rfl⟩
    show g.C a = none
    cases q : g.C a with
    | none => rfl
    | some z => rw [hC, cr a z q] at h3; cases h3
  · obtain ⟨v, h1, h2⟩ := r.e.val i x e
    exact ⟨v, h1, h2.mono le1⟩
  · obtain ⟨a, vs, h1, h2, h3, h4, h5, h6⟩ := r.e.own i xs e
    have hr : g'.C a = some (.lst vs) := by rw [hC, restC_of h4 h6]; exact h2
    refine ⟨a, vs, h1, r'.ch _ _ hr, h3.mono le.f, r'.cf _ _ hr, h5, fun n q => ?_⟩
    rw [(r'.storeC q).1] at hr; cases hr
theorem se_call {x : Str} {f : Nat} {es : Es} {p pn : Nat} (h : SEs nm cf es) : SE nm cf (.call x f es p pn) := fun k bk W X c hw => by
  simp only [wfE, Bool.and_eq_true, decide_eq_true_eq, Bool.not_eq_true'] at hw
  obtain ⟨⟨⟨⟨⟨h1, h2⟩, hlt⟩, h3⟩, h4⟩, h5⟩ := hw
  obtain ⟨a, fd, pn', mgx, kp, bd, F⟩ := c.fn f x hlt h2
  cases es with
  | nil => cases h5
  | cons e r =>
    have A := sa (.cons e r) h k bk W X c h4
    refine (pe_callS (E := WE W) F c.room (glOf h1) mgx kp bd (fun σ => passAt c.tk σ) A (okDbg h3) (star1 e r.py X.env) (stars r X.env _)).impB ?_
    rintro σ H Q ⟨g, env, st, rel, out⟩
    refine ⟨g, env, st, rel, (Out.bind out).imp ?_⟩
    intro xs st1 g1 H1 rel1 le1 o1 vs hvs
    refine ⟨g1.rest H1, xs, st1, rel1.c.rest, RepAll.same (g := g1) (g' := g1.rest H1) rfl rfl hvs, ?_⟩
    cases hr : cf f xs st1 with
    | ok y st2 =>
      rw [hr] at o1
      intro v H' g' rc le rv
      obtain ⟨rb, leb⟩ := rel1.back rc le
      exact o1 H' _ rb leb v (rv.same rfl rfl)
    | exc cl st2 =>
      rw [hr] at o1
      intro cls d H' g' rc le hm
      obtain ⟨rb, leb⟩ := rel1.back rc le
      exact o1 cls d H' _ rb leb hm
    | stuck => rw [hr] at o1; exact o1
/-! ### built-ins -/
def rBi (f : Bf) : List V → Hp → VK → Prop := fun vs H Q => ∃ g st xs z, RelC g st H ∧ RepAll g vs xs ∧ bi f xs st = some z ∧ Fin1 g H z Q
theorem callImp {f : Value} {r r' : List V → Hp → VK → Prop} (h : CallR X f r) (k : ∀ vs H Q, r' vs H Q → r vs H Q) : CallR X f r' := fun pins s σ H vs us Q I rv q => h pins s σ H vs us Q I rv (k vs H Q q)
theorem rep1 {g : Gh} {vs : List V} {x : Va} (h : RepAll g vs [x]) : ∃ v, vs = [v] ∧ RepV g v x := by
  match vs, h with
  | [v], ⟨h, _⟩ => exact ⟨v, rfl, h⟩
theorem rep2 {g : Gh} {vs : List V} {x y : Va} (h : RepAll g vs [x, y]) : ∃ v w, vs = [v, w] ∧ RepV g v x ∧ RepV g w y := by
  match vs, h with
  | [v, w], ⟨h, h2, _⟩ => exact ⟨v, w, rfl, h, h2⟩
theorem gt_mem : ∀ (m : Int) (l : List Int), bestGt m l ∈ m :: l
  | m, [] => List.mem_cons_self
  | m, x :: r => by
    show bestGt (if x > m then x else m) r ∈ _
    have := gt_mem (if x > m then x else m) r
    split at this <;> rename_i h
    · rw [if_pos h]; exact List.mem_cons_of_mem _ this
    · rw [if_neg h]
      rcases List.mem_cons.mp this with e | e
      · rw [e]; exact List.mem_cons_self
      · exact List.mem_cons_of_mem _ (List.mem_cons_of_mem _ e)
theorem gt_ge : ∀ (m : Int) (l : List Int), ∀ y ∈ m :: l, y ≤ bestGt m l
  | m, [], y, h => by rw [List.mem_singleton.mp h]; exact Int.le_refl _
  | m, x :: r, y, h => by
    show y ≤ bestGt (if x > m then x else m) r
    have h0 := gt_ge (if x > m then x else m) r (if x > m then x else m) List.mem_cons_self
    rcases List.mem_cons.mp h with e | e
    · subst e; split at h0 <;> split <;> omega
    · rcases List.mem_cons.mp e with e | e
      · subst e; split at h0 <;> split <;> omega
      · exact gt_ge _ r y (List.mem_cons_of_mem _ e)
theorem lt_mem : ∀ (m : Int) (l : List Int), bestLt m l ∈ m :: l
  | m, [] => List.mem_cons_self
  | m, x :: r => by
    show bestLt (if x < m then x else m) r ∈ _
    have := lt_mem (if x < m then x else m) r
    split at this <;> rename_i h
    · rw [if_pos h]; exact List.mem_cons_of_mem _ this
    · rw [if_neg h]
      rcases List.mem_cons.mp this with e | e
      · rw [e]; exact List.mem_cons_self
      · exact List.mem_cons_of_mem _ (List.mem_cons_of_mem _ e)
theorem lt_le : ∀ (m : Int) (l : List Int), ∀ y ∈ m :: l, bestLt m l ≤ y
  | m, [], y, h => by rw [List.mem_singleton.mp h]; exact Int.le_refl _
  | m, x :: r, y, h => by
    show bestLt (if x < m then x else m) r ≤ y
    have h0 := lt_le (if x < m then x else m) r (if x < m then x else m) List.mem_cons_self
    rcases List.mem_cons.mp h with e | e
    · subst e; split at h0 <;> split <;> omega
    · rcases List.mem_cons.mp e with e | e
      · subst e; split at h0 <;> split <;> omega
      · exact lt_le _ r y (List.mem_cons_of_mem _ e)
theorem bi_len : CallR X (.builtin "len") (rBi .len) := by
  refine callImp call_len_seq ?_
  rintro vs H Q ⟨g, st, xs, z, rc, hr, e, f⟩
  simp only [bi] at e
  unfold biLen at e
  split at e
  · cases e
    obtain ⟨v, rfl, hv⟩ := rep1 hr
    cases hv with | tup e1 n1 r1 => exact ⟨_, _, rfl, .inr (sqT rc.fh e1), by rw [r1.length]; exact f.1 _ (.int _)⟩
  · cases e
    obtain ⟨v, rfl, hv⟩ := rep1 hr
    cases hv with | lst e1 r1 => exact ⟨_, _, rfl, .inl (sqL rc.fh e1), by rw [r1.length]; exact f.1 _ (.int _)⟩
  · obtain ⟨v, rfl, a, rfl, hm⟩ := rep1 hr
    split at e
    · rename_i ys ho
      cases e
      obtain ⟨a', h1, h2, h3, vs, h4, h5⟩ := rc.ob _ _ ho
      rw [hm] at h1; cases h1
      exact ⟨_, _, rfl, .inl (SqL.of h4), by rw [h5.length]; exact f.1 _ (.int _)⟩
    · rename_i ys ho
      cases e
      obtain ⟨a', h1, h2, h3, o, h4⟩ := rc.ob _ _ ho
      rw [hm] at h1; cases h1
      exact ⟨_, _, rfl, .inl (.inl (.inr ⟨o, h4⟩)), by rw [List.length_map]; exact f.1 _ (.int _)⟩
    · cases e
  · cases e
theorem bi_sum (hc : X.calm = true) : CallR X (.builtin "sum") (rBi .sum) := by
  refine callImp ((cr_sum hc).or (cr_sumT hc)) ?_
  rintro vs H Q ⟨g, st, xs, z, rc, hr, e, f⟩
  simp only [bi] at e
  unfold biSum at e
  split at e
  · obtain ⟨ns, hn, rfl⟩ := Option.map_eq_some_iff.mp e
    obtain ⟨v, rfl, hv⟩ := rep1 hr
    cases hv with | lst e1 r1 =>
    have := r1.ints hn
    subst this
    exact .inl ⟨_, ns, rfl, sqL rc.fh e1, f.1 _ (.int _)⟩
  · obtain ⟨ns, hn, rfl⟩ := Option.map_eq_some_iff.mp e
    obtain ⟨v, rfl, hv⟩ := rep1 hr
    cases hv with | tup e1 n1 r1 =>
    have := r1.ints hn
    subst this
    exact .inr ⟨_, ns, rfl, sqT rc.fh e1, f.1 _ (.int _)⟩
  · cases e
theorem bi_max (hc : X.calm = true) : CallR X (.builtin "max") (rBi .max) := by
  refine callImp ((cr_max hc).or (cr_maxT hc)) ?_
  rintro vs H Q ⟨g, st, xs, z, rc, hr, e, f⟩
  simp only [bi] at e
  unfold biMax at e
  have key : ∀ (n : Int) (ns : List Int), z = .d (.int (bestGt n ns)) → ∀ m, m ∈ n :: ns → (∀ y, y ∈ n :: ns → y ≤ m) → Q (.int m) H := fun n ns ez m hm hb => by
    have : m = bestGt n ns := Int.le_antisymm (gt_ge n ns m hm) (hb _ (gt_mem n ns))
    subst ez this
    exact f.1 _ (.int _)
  split at e
  · split at e
    · rename_i n ns hn
      cases e
      obtain ⟨v, rfl, hv⟩ := rep1 hr
      cases hv with | lst e1 r1 =>
      have := r1.ints hn
      subst this
      exact .inl ⟨_, n :: ns, rfl, sqL rc.fh e1, by simp, key n ns rfl⟩
    · cases e
  · split at e
    · rename_i n ns hn
      cases e
      obtain ⟨v, rfl, hv⟩ := rep1 hr
      cases hv with | tup e1 n1 r1 =>
      have := r1.ints hn
      subst this
      exact .inr ⟨_, n :: ns, rfl, sqT rc.fh e1, by simp, key n ns rfl⟩
    · cases e
  · cases e
theorem bi_min (hc : X.calm = true) : CallR X (.builtin "min") (rBi .min) := by
  refine callImp (cr_min hc) ?_
  rintro vs H Q ⟨g, st, xs, z, rc, hr, e, f⟩
  simp only [bi] at e
  unfold biMin at e
  split at e
  · split at e
    · rename_i n ns hn
      cases e
      obtain ⟨v, rfl, hv⟩ := rep1 hr
      cases hv with | lst e1 r1 =>
      have := r1.ints hn
      subst this
      refine ⟨_, n :: ns, rfl, sqL rc.fh e1, by simp, fun m hm hb => ?_⟩
      have : m = bestLt n ns := Int.le_antisymm (hb _ (lt_mem n ns)) (lt_le n ns m hm)
      subst this
      exact f.1 _ (.int _)
    · cases e
  · cases e
theorem bi_int : CallR X (.type "int") (rBi .int) := by
  refine callImp call_int1 ?_
  rintro vs H Q ⟨g, st, xs, z, rc, hr, e, f⟩
  simp only [bi] at e
  unfold biInt at e
  split at e
  · cases e
    obtain ⟨v, rfl, hv⟩ := rep1 hr
    cases hv
    exact .inl ⟨_, rfl, f.1 _ (.int _)⟩
  · cases e
    obtain ⟨v, rfl, hv⟩ := rep1 hr
    cases hv
    exact .inr ⟨_, rfl, f.1 _ (.int _)⟩
  · cases e
theorem bi_tuple : CallR X (.type "tuple") (rBi .tuple) := by
  refine callImp call_tupF ?_
  rintro vs H Q ⟨g, st, xs, z, rc, hr, e, f⟩
  simp only [bi] at e
  unfold biTuple at e
  split at e
  · cases e
    obtain ⟨v, rfl, hv⟩ := rep1 hr
    cases hv with | lst e1 r1 => exact ⟨_, _, rfl, .inl ⟨sqL rc.fh e1, f.tup rc r1⟩⟩
  · cases e
    obtain ⟨v, rfl, hv⟩ := rep1 hr
    cases hv with | tup e1 n1 r1 => exact ⟨_, _, rfl, .inr ⟨sqT rc.fh e1, f.1 _ (.tup e1 n1 r1)⟩⟩
  · obtain ⟨v, rfl, a, rfl, hm⟩ := rep1 hr
    split at e
    · rename_i xs ho
      cases e
      obtain ⟨a', h1, h2, h3, vs, h4, h5⟩ := rc.ob _ _ ho
      rw [hm] at h1; cases h1
      exact ⟨_, _, rfl, .inl ⟨SqL.of h4, f.tup rc h5⟩⟩
    · cases e
  · cases e
theorem bi_list : CallR X (.type "list") (rBi .list) := by
  refine callImp call_list_of ?_
  rintro vs H Q ⟨g, st, xs, z, rc, hr, e, f⟩
  simp only [bi] at e
  unfold biList at e
  split at e
  · cases e
    obtain ⟨v, rfl, hv⟩ := rep1 hr
    cases hv with | lst e1 r1 => exact ⟨_, _, rfl, .inl (sqL rc.fh e1), f.lst rc r1⟩
  · cases e
    obtain ⟨v, rfl, hv⟩ := rep1 hr
    cases hv with | tup e1 n1 r1 => exact ⟨_, _, rfl, .inr (sqT rc.fh e1), f.lst rc r1⟩
  · cases e
theorem bi_all (hc : X.calm = true) : CallR X (.builtin "all") (rBi .all) := by
  refine callImp (cr_all hc) ?_
  rintro vs H Q ⟨g, st, xs, z, rc, hr, e, f⟩
  simp only [bi] at e
  unfold biAll at e
  split at e
  · obtain ⟨ns, hn, rfl⟩ := Option.map_eq_some_iff.mp e
    obtain ⟨v, rfl, hv⟩ := rep1 hr
    cases hv with | lst e1 r1 =>
    have := r1.bools hn
    subst this
    exact ⟨_, ns, rfl, sqL rc.fh e1, f.1 _ (.bl _)⟩
  · cases e
theorem bi_max2 (hc : X.calm = true) : CallR X (.builtin "max") (rBi .max2) := by
  refine callImp (call_max2 hc) ?_
  rintro vs H Q ⟨g, st, xs, z, rc, hr, e, f⟩
  simp only [bi] at e
  unfold biMax2 at e
  split at e
  · cases e
    obtain ⟨v, w, rfl, hv, hw⟩ := rep2 hr
    cases hv; cases hw
    exact ⟨_, _, rfl, f.1 _ (.int _)⟩
  · cases e
theorem bi_min2 (hc : X.calm = true) : CallR X (.builtin "min") (rBi .min2) := by
  refine callImp (call_min2 hc) ?_
  rintro vs H Q ⟨g, st, xs, z, rc, hr, e, f⟩
  simp only [bi] at e
  unfold biMin2 at e
  split at e
  · cases e
    obtain ⟨v, w, rfl, hv, hw⟩ := rep2 hr
    cases hv; cases hw
    exact ⟨_, _, rfl, f.1 _ (.int _)⟩
  · cases e
theorem insS_perm (x : Int) : ∀ l : List Int, (insS x l).Perm (x :: l)
  | [] => .refl _
  | y :: r => by
    unfold insS
    split
    · exact .refl _
    · exact ((insS_perm x r).cons y).trans (.swap x y r)
theorem sortI_perm : ∀ l : List Int, (sortI l).Perm l
  | [] => .refl _
  | x :: r => (insS_perm x (sortI r)).trans ((sortI_perm r).cons x)
theorem insS_sorted (x : Int) : ∀ l : List Int, l.Pairwise (· ≤ ·) → (insS x l).Pairwise (· ≤ ·)
  | [], _ => by simp [insS]
  | y :: r, h => by
    unfold insS
    split
    · rename_i hx
      refine List.pairwise_cons.mpr ⟨fun z hz => ?_, h⟩
      rcases List.mem_cons.mp hz with q | q
      · omega
      · have := (List.pairwise_cons.mp h).1 z q; omega
    · rename_i hx
      have h' := List.pairwise_cons.mp h
      refine List.pairwise_cons.mpr ⟨fun z hz => ?_, insS_sorted x r h'.2⟩
      rcases List.mem_cons.mp ((insS_perm x r).mem_iff.mp hz) with q | q
      · omega
      · exact h'.1 z q
theorem sortI_sorted : ∀ l : List Int, (sortI l).Pairwise (· ≤ ·)
  | [] => .nil
  | x :: r => insS_sorted x _ (sortI_sorted r)
theorem perm_sorted : ∀ {l m : List Int}, l.Perm m → l.Pairwise (· ≤ ·) → m.Pairwise (· ≤ ·) → l = m
  | [], m, h, _, _ => (List.nil_perm.mp h).symm
  | x :: l, [], h, _, _ => absurd h.length_eq (by simp)
  | x :: l, y :: m, h, h1, h2 => by
    have e : x = y := by
      have a1 := h.mem_iff.mp (List.mem_cons_self (a := x) (l := l))
      have a2 := h.mem_iff.mpr (List.mem_cons_self (a := y) (l := m))
      have b1 := (List.pairwise_cons.mp h1).1
      have b2 := (List.pairwise_cons.mp h2).1
      rcases List.mem_cons.mp a1 with q | q
      · exact q
      · rcases List.mem_cons.mp a2 with q2 | q2
        · exact q2.symm
        · have := b1 y q2; have := b2 x q; omega
    subst e
    rw [perm_sorted (List.perm_cons _ |>.mp h) (List.pairwise_cons.mp h1).2 (List.pairwise_cons.mp h2).2]
theorem collect_tup {prog : Program} {w : World} {A : Around} {E : Value → Shared → Prop} {s : Shared} {l : Addr} {vs : List Value} {Q : List Value → Shared → Prop} (hl : s.heap.IsTuple l vs.toArray) (hz : vs.length ≤ sizeLine)
    (h : Q vs { s with heap := (s.heap.push (seqObj "list" #[] 0)).update s.heap.objs.size (Obj.mapSeq (· ++ vs.toArray)) }) : wpAny (model prog w) A (collect (.ref l)) Q E s := by
  obtain ⟨o, ho, hc, n, hd⟩ := id hl
  unfold collect
  refine wpAny_bind (wpAny_runValue (codeAny_builtin entry_proto_collect' ?_))
  show wpAny _ _ (do again (.builtin "list.__iadd__" ⟨[← newList [], .ref l], []⟩)) _ _ s
  refine wpAny_bind (wpAny_newList (wpAny_pure ⟨Code.quiet_builtin _ (by decide +kernel), codeAny_builtin entry_list_iadd' ?_⟩))
  show wpAny _ _ (Builtin.List.listExtendWith (.ref s.heap.objs.size) (.ref l) (.ref s.heap.objs.size)) _ _ { s with heap := s.heap.push (seqObj "list" #[] 0) }
  unfold Builtin.List.listExtendWith
  have ho' : (s.heap.push (seqObj "list" #[] 0)).get? l = some o := Heap.get?_push_of_some _ ho
  refine wpAny_bind (wpAny_typeOf (T := "tuple") ⟨o, ho', hc⟩ ?_)
  have ht : (Value.type "tuple" == Value.type "tuple") = true := by rfl
  rw [if_pos (by rw [ht]; simp)]
  refine wpAny_bind (listItems_at ho' hd ?_)
  refine wpAny_bind (listItems_at (xs := #[]) (n := 0) (Heap.get?_push_size _ rfl) rfl ?_)
  rw [if_neg (by simp)]
  refine wpAny_bind (listUpdate_at (xs := #[]) (n := 0) (Heap.get?_push_size _ rfl) rfl ?_ (Nat.zero_le _) (by show (#[] ++ vs.toArray).size ≤ sizeLine + 1; simp only [Array.size_append, List.size_toArray, List.length_nil]; omega))
  refine wpAny_pure ?_
  show wpAny (model prog w) A (do
      let o ← load s.heap.objs.size
      match o.data with
      | .seq xs _ => pure xs.toList
      | _ => unsupported "internal:collect") Q E { s with heap := (s.heap.push (seqObj "list" #[] 0)).update s.heap.objs.size (Obj.mapSeq (· ++ vs.toArray)) }
  refine wpAny_bind (wpAny_load (get?_update_seq (Heap.get?_push_size _ rfl) _) ?_)
  show wpAny _ _ (pure ((#[] : Array Value) ++ vs.toArray).toList) Q E _
  rw [show ((#[] : Array Value) ++ vs.toArray).toList = vs by simp]
  exact wpAny_pure h
theorem sorted_tup {prog : Program} {w : World} {A : Around} {E : Value → Shared → Prop} {s : Shared} {l : Addr} {vs : List Value} {ltv : Value → Value → Bool} {Q : Value → Shared → Prop} (O : SrtO.Swo ltv) (hl : s.heap.IsTuple l vs.toArray) (hz : vs.length ≤ sizeLine)
    (hS : 2 ≤ vs.length → ∀ (h₁ : Heap) (a : Addr), h₁.get? a = some (seqObj "list" vs.toArray 0) → (∀ b o, s.heap.get? b = some o → b ≠ a ∧ h₁.get? b = some o) → SrtO.SortableO prog w A.in1.in1 { s with heap := h₁ } a vs ltv)
    (h : ∀ out : List Value, SrtO.Srtd ltv out → SrtO.Stb ltv out vs → Q (.ref (s.heap.objs.size + 1)) { s with heap := sortedAll s.heap vs out.toArray }) :
    wpAny (model prog w) A (call (.builtin "sorted") [.ref l]) Q E s := by
  refine Calls.call_function_entry kind_sorted plain_sorted entry_sorted (args_sorted1 _) ?_
  unfold Builtin.«sorted»
  refine wpAny_bind (m := checkCount "sorted" 1 1 _) (wpAny_pure ?_)
  refine wpAny_bind (collect_tup hl hz ?_)
  refine wpAny_bind (wpAny_newList ?_ hz)
  have hsz : ((s.heap.push (seqObj "list" #[] 0)).update s.heap.objs.size (Obj.mapSeq (· ++ vs.toArray))).objs.size = s.heap.objs.size + 1 := by
    rw [Heap.size_update, size_push']
  have hoL : (((s.heap.push (seqObj "list" #[] 0)).update s.heap.objs.size (Obj.mapSeq (· ++ vs.toArray))).push (seqObj "list" vs.toArray 0)).get? (s.heap.objs.size + 1) = some (seqObj "list" vs.toArray 0) := by
    rw [← hsz]; exact Heap.get?_push_size _ rfl
  have keep : ∀ b o, s.heap.get? b = some o → b ≠ s.heap.objs.size + 1 ∧ (((s.heap.push (seqObj "list" #[] 0)).update s.heap.objs.size (Obj.mapSeq (· ++ vs.toArray))).push (seqObj "list" vs.toArray 0)).get? b = some o := fun b o q => by
    have hlt : b < s.heap.objs.size := Heap.lt_size q
    refine ⟨Nat.ne_of_lt (Nat.lt_succ_of_lt hlt), Heap.get?_push_of_some _ ?_⟩
    rw [Heap.get?_update_ne _ _ _ _ (Nat.ne_of_lt hlt)]
    exact Heap.get?_push_of_some _ q
  show wpAny _ _ _ _ _ { s with heap := ((s.heap.push (seqObj "list" #[] 0)).update s.heap.objs.size (Obj.mapSeq (· ++ vs.toArray))).push (seqObj "list" vs.toArray 0) }
  rw [hsz]
  refine wpAny_bind (wpAny_holding (wpAny_call_entry slot_list_sort ⟨_, hoL, rfl⟩ entry_list_sort (SrtO.list_sort_ord O hoL hz (fun h2 => hS h2 _ _ hoL keep) fun out hs hb => ⟨_, rfl, ?_⟩) (args_list_sort _)))
  exact wpAny_pure ⟨_, rfl, h out hs hb⟩
def rSortedTI (K : PySem.W.Frag) : List V → Hp → VK → Prop := fun vs H Q => ∃ (a : Addr) (ns : List Int), vs = [V.ref a] ∧ SqT K H a (ns.map V.int) ∧
  ∀ (ns' : List Int) (p : Addr), ns'.Perm ns → ns'.Pairwise (· ≤ ·) → H p = none → Q (.ref p) (upd H p (.lst (ns'.map V.int)))
theorem cr_sortedTI : CallR X (.builtin "sorted") (rSortedTI X.K) := by
  intro pins s σ H vs us Q I r h
  obtain ⟨a, ns, rfl, hs, q⟩ := h
  obtain ⟨its, rv, hl, hz⟩ := I.tuple hs
  rw [Vals.ref1 r]
  have hi := rv.ints
  refine sorted_tup SrtO.swo_int (show s.heap.IsTuple a its.toArray from hl) (by rw [← rv.length]; exact hz) (fun h2 h₁ a' _ _ => SrtO.ints_sortable hi h2) fun out h1 h2 => ?_
  obtain ⟨k1, k2, k3⟩ := SrtO.ints_out hi h1 h2
  obtain ⟨ep, he'⟩ := PyProof.Rows.sortedAll_at s.heap its out.toArray
  have hlen : ((out.map SrtO.iv).map V.int).length ≤ sizeLine := by
    rw [List.length_map, k2.length_eq]
    rw [List.length_map] at hz
    exact hz
  exact ⟨.ref _, upd H (s.heap.objs.size + 1) (.lst ((out.map SrtO.iv).map V.int)), I.laid (t' := s.toks) (fun _ _ => PyProof.Rows.sortedAll_old) (Nat.le_succ _) ⟨hlen, out, ep, vals_of_ints k1, he'⟩, rfl, q _ _ k2 k3 (I.hok.fresh (Nat.le_succ _))⟩
theorem rp_intsA {F : Hp} : ∀ (ns : List Int), RpAll F (ns.map V.int) (ns.map .int)
  | [] => .nil
  | n :: r => .cons (.int n) (rp_intsA r)
theorem bi_srt : CallR X (.builtin "sorted") (rBi .srt) := by
  refine callImp (cr_sortedI.or cr_sortedTI) ?_
  rintro vs H Q ⟨g, st, xs, z, rc, hr, e, f⟩
  simp only [bi] at e
  unfold biSrt at e
  split at e
  · obtain ⟨ns, hn, rfl⟩ := Option.map_eq_some_iff.mp e
    obtain ⟨v, rfl, hv⟩ := rep1 hr
    cases hv with | lst e1 r1 =>
    have := r1.ints hn
    subst this
    refine .inl ⟨_, ns, rfl, sqL rc.fh e1, fun ns' p h1 h2 hp => ?_⟩
    rw [perm_sorted (h1.trans (sortI_perm ns).symm) h2 (sortI_sorted ns)]
    exact f.lst rc (rp_intsA _) p hp
  · obtain ⟨ns, hn, rfl⟩ := Option.map_eq_some_iff.mp e
    obtain ⟨v, rfl, hv⟩ := rep1 hr
    cases hv with | tup e1 n1 r1 =>
    have := r1.ints hn
    subst this
    refine .inr ⟨_, ns, rfl, sqT rc.fh e1, fun ns' p h1 h2 hp => ?_⟩
    rw [perm_sorted (h1.trans (sortI_perm ns).symm) h2 (sortI_sorted ns)]
    exact f.lst rc (rp_intsA _) p hp
  · cases e
theorem call_str_bl : CallR X (.type "str") (fun xs H Q => ∃ b : Bool, xs = [.bl b] ∧ Q (.str (if b = true then "True" else "False")) H) := by
  intro pins s σ H xs us Q I r h
  obtain ⟨b, rfl, q⟩ := h
  obtain ⟨u, rfl, r1⟩ := vals1 r
  cases r1
  exact PySem.P.str_of_bool ⟨.str _, H, I.tok _, ⟨_, rfl⟩, q⟩
theorem numS_nat {i : Int} (h : 0 ≤ i) : (numS i).cps.toList = TL.numL i.toNat := by
  have e : i = ((i.toNat : Nat) : Int) := by omega
  unfold numS
  rw [e]
  exact TL.tl_num _
theorem numS_ok {i : Int} (h : 0 ≤ i ∧ i < 1000000000000) : PyData.canLay0 (.str (numS i)) = true ∧ (numS i).length ≤ 12 := by
  have e := numS_nat h.1
  refine ⟨?_, ?_⟩
  · simp only [PyData.canLay0, PyData.strOk]
    rw [← Array.all_toList, e, List.all_eq_true]
    intro c hc
    have := TL.numL_digits i.toNat c hc
    simp
    omega
  · show (numS i).cps.size ≤ 12
    rw [← Array.length_toList, e]
    exact TL.numL_len (by omega) (by omega)
theorem log2_small {n : Nat} (h : n < 1000000000000) : n.log2 < 1920 := by
  by_cases h0 : n = 0
  · subst h0; decide
  · rw [Nat.log2_lt h0]
    exact Nat.lt_of_lt_of_le (Nat.lt_trans h (by decide : 1000000000000 < 2 ^ 40)) (Nat.pow_le_pow_right (by decide) (by decide))
theorem bi_str : CallR X (.type "str") (rBi .str) := by
  refine callImp (call_str_int.or call_str_bl) ?_
  rintro vs H Q ⟨g, st, xs, z, rc, hr, e, f⟩
  simp only [bi] at e
  unfold biStr at e
  split at e
  · split at e
    · rename_i hz
      cases e
      obtain ⟨v, rfl, hv⟩ := rep1 hr
      cases hv
      obtain ⟨h1, h2⟩ := numS_ok hz
      refine .inl ⟨_, rfl, ?_, f.1 _ (.str _ h1 (Nat.le_trans h2 (by decide)))⟩
      exact log2_small (by omega)
    · cases e
  · cases e
    obtain ⟨v, rfl, hv⟩ := rep1 hr
    cases hv
    refine .inr ⟨_, rfl, f.1 _ (.str _ ?_ ?_)⟩
    · split <;> decide +kernel
    · split <;> decide +kernel
  · cases e
theorem blt (c : Ctx nm cf k bk W X) (b : String) (h : (bltNames.contains b) = true) : X.mg b = none := c.bl b (by simpa using h)
theorem se_bi {f : Bf} {es : Es} {p pn : Nat} (h : SEs nm cf es) : SE nm cf (.bi f es p pn) := fun k bk W X c hw => by
  simp only [wfE, Bool.and_eq_true, Bool.not_eq_true'] at hw
  obtain ⟨⟨h1, h4⟩, h5⟩ := hw
  cases es with
  | nil => cases h5
  | cons e r =>
    have A := sa (.cons e r) h k bk W X c h4
    have go : ∀ σ H Q, tR X.mg W (ev cf (.bi f (.cons e r) p pn)) σ H Q → tCB (rBi f) (tA X.mg W (evs cf (.cons e r))) σ H Q := by
      rintro σ H Q ⟨g, env, st, rel, out⟩
      refine ⟨g, env, st, rel, (Out.bind out).imp ?_⟩
      intro xs st1 g1 H1 rel1 le1 o1 vs hvs
      obtain ⟨z, e1, o2⟩ := o1.lift
      exact ⟨g1, st1, xs, z, rel1.c, hvs, e1, o2.fin1 rel1⟩
    cases f with
    | len => exact (pe_callB bi_len (glOf h1) (blt c _ rfl) PySem.boot_len A (by decide) (by decide) (star1 e r.py X.env) (stars r X.env _)).impB go
    | sum => exact (pe_callB (bi_sum c.calm) (glOf h1) (blt c _ rfl) boot_sum A (by decide) (by decide) (star1 e r.py X.env) (stars r X.env _)).impB go
    | max => exact (pe_callB (bi_max c.calm) (glOf h1) (blt c _ rfl) boot_max A (by decide) (by decide) (star1 e r.py X.env) (stars r X.env _)).impB go
    | min => exact (pe_callB (bi_min c.calm) (glOf h1) (blt c _ rfl) boot_min A (by decide) (by decide) (star1 e r.py X.env) (stars r X.env _)).impB go
    | all => exact (pe_callB (bi_all c.calm) (glOf h1) (blt c _ rfl) boot_all A (by decide) (by decide) (star1 e r.py X.env) (stars r X.env _)).impB go
    | max2 => exact (pe_callB (bi_max2 c.calm) (glOf h1) (blt c _ rfl) boot_max A (by decide) (by decide) (star1 e r.py X.env) (stars r X.env _)).impB go
    | min2 => exact (pe_callB (bi_min2 c.calm) (glOf h1) (blt c _ rfl) boot_min A (by decide) (by decide) (star1 e r.py X.env) (stars r X.env _)).impB go
    | srt => exact (pe_callB bi_srt (glOf h1) (blt c _ rfl) boot_sorted A (by decide) (by decide) (star1 e r.py X.env) (stars r X.env _)).impB go
    | str => exact (pe_callTy bi_str (glOf h1) (blt c _ rfl) PyProof.Rows.boot_str A (by decide) (by decide) (star1 e r.py X.env) (stars r X.env _)).impB go
    | int => exact (pe_callTy bi_int (glOf h1) (blt c _ rfl) PyProof.Rows.boot_int A (by decide) (by decide) (star1 e r.py X.env) (stars r X.env _)).impB go
    | tuple => exact (pe_callTy bi_tuple (glOf h1) (blt c _ rfl) PyProof.Rows.boot_tuple A (by decide) (by decide) (star1 e r.py X.env) (stars r X.env _)).impB go
    | list => exact (pe_callTy bi_list (glOf h1) (blt c _ rfl) PyProof.Rows.boot_list A (by decide) (by decide) (star1 e r.py X.env) (stars r X.env _)).impB go
end
end Bz
/-! Soundness: methods, isinstance, ranges, sorted sets. -/
namespace Bz
open PySem PySem.Spec PyProof.Rows L2
section
variable {nm : Nat → Option Str} {cf : Nat → List Va → Stt → R Va} {k : Nat} {bk : Option Scope} {W : WX} {X : Cx}
theorem rp_cnt {F : Hp} {v : V} {d : PyData} (q : Rp F v d) (k : flat d = true) : ∀ {vs : List V} {ds : List PyData}, RpAll F vs ds → ds.all flat = true → (vs.countP fun z => eqV z v) = ds.countP fun y => PyData.eqv y d
  | _, _, .nil, _ => rfl
  | _, _, .cons r t, h => by
    rw [List.all_cons, Bool.and_eq_true] at h
    rw [List.countP_cons, List.countP_cons, rp_cnt q k t h.2, rp_eqv r q h.1 k]
theorem pa1 {a : E} {ta : TE} (h : PE X a.py ta) : PA X [a.py] (tCons ta tNil) := pa_cons h pa_nil (star1 a [] X.env)
theorem pa2 {a b : E} {ta tb : TE} (h : PE X a.py ta) (h2 : PE X b.py tb) : PA X [a.py, b.py] (tCons ta (tCons tb tNil)) := pa_cons h (pa1 h2) (star1 a [b.py] X.env)
theorem attrBase' (e : E) (x : Str) (h : wfE nm X.N X.env.scope bk e = true) : attributeBase e.py x X.env (eval e.py X.env) = eval e.py X.env :=
  attrBase e x X.env (fun x f p q z => by subst z; simp [wfE, Es.isNil] at h) (fun f p q z => by subst z; simp [wfE, Es.isNil] at h)
theorem se_me {m : Bm} {o e : E} {p pa : Nat} (ho : SE nm cf o) (h : SE nm cf e) : SE nm cf (.me m o e p pa) := fun k bk W X c hw => by
  simp only [wfE, Bool.and_eq_true] at hw
  obtain ⟨⟨h1, h2⟩, h4⟩ := hw
  cases m with
  | count =>
    refine (pe_cnt (ho k bk W X c h1) (pa1 (h k bk W X c h2)) (attrBase' o "count" h1) h4 (star1 e [] X.env)).impB ?_
    rintro σ H Q ⟨g, env, st, rel, out⟩
    refine ⟨g, env, st, rel, (Out.bind out).imp ?_⟩
    intro x st1 g1 H1 rel1 le1 o1 v hv
    have key : ∀ (C : V → Hp → Prop), (∀ y st2 g2 H2 w, Rel g2 env st2 σ H2 → g1.le g2 → RepV g2 w y → Out X.mg W g2 env σ (lift (bm .count x y) st2) (fun x _ g' H' => ∀ v, RepV g' v x → Q v H') → C w H2) → tR X.mg W (ev cf e) σ H1 fun w H2 => C w H2 := fun C hC => by
      split at o1
      · refine ⟨g1, env, st1, rel1, (Out.bind o1).imp ?_⟩
        intro y st2 g2 H2 rel2 le2 o2 w hw
        exact hC y st2 g2 H2 w rel2 le2 hw o2
      · exact o1.elim
    cases x with
    | d x =>
      cases hv with
      | @tup a ob xs ds e1 n1 r1 =>
        refine .inl ⟨a, ob, xs, rfl, rel1.c.fh _ _ e1, n1, key _ fun y st2 g2 H2 w rel2 le2 hw o2 => ?_⟩
        obtain ⟨z, e2, o3⟩ := o2.lift
        cases y with
        | d y =>
          simp only [bm] at e2
          split at e2
          · rename_i hz
            cases e2
            rw [Bool.and_eq_true] at hz
            refine ⟨a, ob, xs, w, rfl, rfl, rel2.c.fh _ _ (le2.f _ _ e1), rp_flat hw hz.1, rp_flats r1 hz.2, ?_⟩
            rw [rp_cnt hw hz.1 (r1.mono le2.f) hz.2]
            exact o3.here rel2 _ (.int _)
          · cases e2
        | ref n => simp [bm] at e2
        | dct n => simp [bm] at e2
      | @lst a xs ds e1 r1 =>
        refine .inr ⟨a, xs, rfl, sqL rel1.c.fh e1, key _ fun y st2 g2 H2 w rel2 le2 hw o2 => ?_⟩
        obtain ⟨z, e2, o3⟩ := o2.lift
        cases y with
        | d y =>
          simp only [bm] at e2
          split at e2
          · rename_i hz
            cases e2
            rw [Bool.and_eq_true] at hz
            refine ⟨a, xs, w, rfl, rfl, sqL rel2.c.fh (le2.f _ _ e1), rp_flat hw hz.1, rp_flats r1 hz.2, ?_⟩
            rw [rp_cnt hw hz.1 (r1.mono le2.f) hz.2]
            exact o3.here rel2 _ (.int _)
          · cases e2
        | ref n => simp [bm] at e2
        | dct n => simp [bm] at e2
      | _ => exact (show False from o1).elim
    | ref n => exact (show False from o1).elim
    | dct n => exact (show False from o1).elim
theorem tyRp {K : PySem.W.Frag} {g : Gh} {st : Stt} {H : Hp} {v : V} {d : PyData} (rc : RelC g st H) (h : Rp g.F v d) (t : Ty) : ∃ u, TyX K H v u ∧ PySem.W.kitOne K u (.type t.name) = some (isi d t) := by
  cases h with
  | non => exact ⟨_, .base .non, by cases t <;> (apply kit_ty; simp only [isi, Ty.name]; decide +kernel)⟩
  | bl b => exact ⟨_, .base (.bl b), by cases t <;> (apply kit_ty; simp only [isi, Ty.name]; decide +kernel)⟩
  | int i => exact ⟨_, .base (.int i), by cases t <;> (apply kit_ty; simp only [isi, Ty.name]; decide +kernel)⟩
  | str x => exact ⟨_, .base (.str x), by cases t <;> (apply kit_ty; simp only [isi, Ty.name]; decide +kernel)⟩
  | lst e r => exact ⟨_, .base (.lst (rc.fh _ _ e)), by cases t <;> (apply kit_ty; simp only [isi, Ty.name]; decide +kernel)⟩
  | tup e n r => exact ⟨_, .fTuple (rc.fh _ _ e), by cases t <;> (apply kit_ty; simp only [isi, Ty.name]; decide +kernel)⟩
theorem bootTy (t : Ty) : bootBuiltins t.name = some (.type t.name) := by cases t <;> decide +kernel
theorem tyName (t : Ty) : (t.name : Str) ≠ "__name__" ∧ ((t.name : Str) == ("__debug__" : Str)) = false ∧ bltNames.contains t.name = true := by cases t <;> decide +kernel
theorem se_isi {a : E} {t : Ty} {p pn pt : Nat} (ha : SE nm cf a) : SE nm cf (.isi a t p pn pt) := fun k bk W X c hw => by
  simp only [wfE, Bool.and_eq_true] at hw
  obtain ⟨⟨h1, h2⟩, h3⟩ := hw
  obtain ⟨n1, n2, n3⟩ := tyName t
  have T : PE X (.Name (t.name : Str) (ps pt)) (tC (.ty t.name)) := pe_bltn (glOf h2) (blt c _ n3) (bootTy t) rfl n1 n2
  have A : PA X [a.py, .Name (t.name : Str) (ps pt)] _ := pa_cons (ha k bk W X c h3) (pa_cons T pa_nil rfl) (star1 a _ X.env)
  refine (pe_callB call_isi (glOf h1) (blt c _ rfl) boot_isinstance A (by decide) (by decide) (star1 a _ X.env) rfl).impB ?_
  rintro σ H Q ⟨g, env, st, rel, out⟩
  refine ⟨g, env, st, rel, (Out.bind out).imp ?_⟩
  intro x st1 g1 H1 rel1 le1 o1 v hv
  obtain ⟨z, e1, o2⟩ := o1.lift
  obtain ⟨y, e2, rfl⟩ := Option.map_eq_some_iff.mp e1
  cases x with
  | d x =>
    cases e2
    obtain ⟨u, ht, hk⟩ := tyRp (K := X.K) rel1.c hv t
    exact ⟨v, _, u, _, _, rfl, .ty _, ht, hk, o2.here rel1 _ (.bl _)⟩
  | ref n => cases e2
  | dct n => cases e2
theorem rngOk_of {a b : Int} (h : rngOk a b = true) : RgOk a b := by
  unfold rngOk at h
  simp only [decide_eq_true_eq] at h
  unfold RgOk
  omega
theorem se_rng {tp : Bool} {a b : E} {p pn p2 pn2 : Nat} (ha : SE nm cf a) (hb : SE nm cf b) : SE nm cf (.rng tp a b p pn p2 pn2) := fun k bk W X c hw => by
  simp only [wfE, Bool.and_eq_true] at hw
  obtain ⟨⟨⟨h1, h2⟩, h3⟩, h4⟩ := hw
  have R2 := prg_2 (p := ps pn2) (pos := ps p2) (glOf h2) (blt c "range" rfl) (ha k bk W X c h3) (hb k bk W X c h4) (star1 a _ X.env) (star1 b _ X.env) (by rw [star1 b]; rfl)
  have key : ∀ (σ : L2.St) (H : Hp) (Q : VK), tR X.mg W (ev cf (.rng tp a b p pn p2 pn2)) σ H Q → tRg2 (tR X.mg W (ev cf a)) (tR X.mg W (ev cf b)) σ H fun i j H1 => RgOk i j ∧ ∃ g st, RelC g st H1 ∧ Fin1 g H1 (.d (if tp = true then .tuple (rng2 i j) else .list (rng2 i j))) Q := by
    rintro σ H Q ⟨g, env, st, rel, out⟩
    refine ⟨g, env, st, rel, (Out.bind out).imp ?_⟩
    intro x st1 g1 H1 rel1 le1 o1 v hv
    refine ⟨g1, env, st1, rel1, (Out.bind o1).imp ?_⟩
    intro y st2 g2 H2 rel2 le2 o2 w hw
    split at o2
    · cases hv; cases hw
      split at o2
      · rename_i hok
        exact ⟨_, _, rfl, rfl, rngOk_of hok, g2, st2, rel2.c, o2.fin1 rel2⟩
      · exact o2.elim
    · exact o2.elim
  cases tp with
  | true =>
    refine (pe_tupRgF c.calm (glOf h1) (blt c "tuple" rfl) R2 rfl).impB ?_
    intro σ H Q q
    obtain ⟨g, env, st, rel, out⟩ := key σ H Q q
    refine ⟨g, env, st, rel, out.imp ?_⟩
    intro x st1 g1 H1 rel1 le1 o1 v hv
    obtain ⟨g', env', st', rel', out'⟩ := o1 v hv
    refine ⟨g', env', st', rel', out'.imp ?_⟩
    intro y st2 g2 H2 rel2 le2 o2 w hw
    obtain ⟨i, j, e1, e2, ok, g3, st3, rc, f⟩ := o2 w hw
    exact ⟨i, j, e1, e2, ok, f.tup rc (RpAll.rng i j)⟩
  | false =>
    refine (pe_listRg c.calm (glOf h1) (blt c "list" rfl) R2 rfl).impB ?_
    intro σ H Q q
    obtain ⟨g, env, st, rel, out⟩ := key σ H Q q
    refine ⟨g, env, st, rel, out.imp ?_⟩
    intro x st1 g1 H1 rel1 le1 o1 v hv
    obtain ⟨g', env', st', rel', out'⟩ := o1 v hv
    refine ⟨g', env', st', rel', out'.imp ?_⟩
    intro y st2 g2 H2 rel2 le2 o2 w hw
    obtain ⟨i, j, e1, e2, ok, g3, st3, rc, f⟩ := o2 w hw
    exact ⟨i, j, e1, e2, ok, f.lst rc (RpAll.rng i j)⟩
theorem se_oix {x : Str} {i : Nat} {b : E} {p px : Nat} (hb : SE nm cf b) : SE nm cf (.oix x i b p px) := fun k bk W X c hw => by
  simp only [wfE, Bool.and_eq_true] at hw
  refine (pe_ix ix_list (pe_name c hw.1) (hb k bk W X c hw.2) (ixPlain b)).impB ?_
  rintro σ H Q ⟨g, env, st, rel, out⟩
  simp only [ev] at out
  split at out
  · rename_i xs he
    obtain ⟨a, vs, h1, h2, h3, h4, h5, h6⟩ := rel.e.own i xs he
    refine ⟨_, h1, g, env, st, rel, (Out.bind out).imp ?_⟩
    intro y st1 g1 H1 rel1 le1 o1 w hw
    obtain ⟨z, e1, o2⟩ := o1.lift
    obtain ⟨a', vs', h1', h2', h3', -⟩ := rel1.e.own i xs he
    rw [h1] at h1'; cases h1'
    cases y with
    | d y =>
      cases y with
      | int j =>
        simp only [item] at e1
        cases hw
        obtain ⟨d, hd, rfl⟩ := Option.map_eq_some_iff.mp e1
        obtain ⟨u, q1, q2⟩ := at_rp h3' hd
        exact ⟨_, _, _, _, rfl, rfl, SqL.of h2', q1, o2.here rel1 _ q2⟩
      | _ => simp [item] at e1
    | _ => simp [item] at e1
  · exact out.elim
/-! ### sorted(set(t)) -/
theorem ins_mem (x y : Int) : ∀ l : List Int, y ∈ insU x l ↔ y = x ∨ y ∈ l
  | [] => by simp [insU]
  | z :: r => by
    unfold insU
    split
    · simp
    · split
      · rename_i h; subst h; simp
      · rw [List.mem_cons, ins_mem x y r, List.mem_cons]
        constructor
        · rintro (h | h | h)
          · exact .inr (.inl h)
          · exact .inl h
          · exact .inr (.inr h)
        · rintro (h | h | h)
          · exact .inr (.inl h)
          · exact .inl h
          · exact .inr (.inr h)
theorem ins_sorted (x : Int) : ∀ l : List Int, l.Pairwise (· < ·) → (insU x l).Pairwise (· < ·)
  | [], _ => by simp [insU]
  | z :: r, h => by
    rw [List.pairwise_cons] at h
    unfold insU
    split
    · rename_i hx
      refine List.pairwise_cons.mpr ⟨fun y hy => ?_, List.pairwise_cons.mpr h⟩
      rcases List.mem_cons.mp hy with e | e
      · omega
      · have := h.1 y e; omega
    · split
      · exact List.pairwise_cons.mpr h
      · rename_i h1 h2
        refine List.pairwise_cons.mpr ⟨fun y hy => ?_, ins_sorted x r h.2⟩
        rcases (ins_mem x y r).mp hy with e | e
        · omega
        · exact h.1 y e
theorem sortU_mem (y : Int) : ∀ l : List Int, y ∈ sortU l ↔ y ∈ l
  | [] => by simp [sortU]
  | x :: r => by
    show y ∈ insU x (sortU r) ↔ _
    rw [ins_mem, sortU_mem y r, List.mem_cons]
theorem sortU_sorted : ∀ l : List Int, (sortU l).Pairwise (· < ·)
  | [] => .nil
  | x :: r => ins_sorted x _ (sortU_sorted r)
theorem sorted_one : ∀ {l m : List Int}, l.Pairwise (· < ·) → m.Pairwise (· < ·) → (∀ y, y ∈ l ↔ y ∈ m) → l = m
  | [], [], _, _, _ => rfl
  | [], y :: _, _, _, h => absurd ((h y).mpr List.mem_cons_self) (by simp)
  | x :: _, [], _, _, h => absurd ((h x).mp List.mem_cons_self) (by simp)
  | x :: r, y :: t, hl, hm, h => by
    rw [List.pairwise_cons] at hl hm
    have e : x = y := by
      rcases List.mem_cons.mp ((h x).mp List.mem_cons_self) with q | q
      · exact q
      · rcases List.mem_cons.mp ((h y).mpr List.mem_cons_self) with q2 | q2
        · exact q2.symm
        · have a1 := hm.1 x q
          have a2 := hl.1 y q2
          omega
    subst e
    rw [sorted_one hl.2 hm.2 fun z => ?_]
    constructor
    · intro hz
      rcases List.mem_cons.mp ((h z).mp (List.mem_cons_of_mem _ hz)) with q | q
      · subst q; have := hl.1 z hz; omega
      · exact q
    · intro hz
      rcases List.mem_cons.mp ((h z).mpr (List.mem_cons_of_mem _ hz)) with q | q
      · subst q; have := hm.1 z hz; omega
      · exact q
/-- an object that nothing speaks of -/
theorem RelC.junk {g : Gh} {st : Stt} {H : Hp} {p : Addr} {o : HO} (r : RelC g st H) (h : H p = none) : RelC g st (upd H p o) := by
  refine ⟨r.fh.trans (same_upd h), r.ch.trans (same_upd h), r.cf, fun n x e => ?_, r.inj, r.dom⟩
  obtain ⟨a, h1, h2, h3, h4⟩ := r.ob n x e
  refine ⟨a, h1, h2, h3, ObR.mono (g := g) (g' := g) (Same.refl _) (fun _ _ q => q) (fun o' e' => ?_) h4⟩
  rw [upd_ne (ne_of_none e' h)]; exact e'
theorem Rel.junk {g : Gh} {env : List Sl} {st : Stt} {σ : L2.St} {H : Hp} {p : Addr} {o : HO} (r : Rel g env st σ H) (h : H p = none) : Rel g env st σ (upd H p o) := by
  refine ⟨r.c.junk h, ⟨r.e.len, r.e.val, fun i xs e => ?_, r.e.dis⟩⟩
  obtain ⟨a, vs, h1, h2, h3⟩ := r.e.own i xs e
  exact ⟨a, vs, h1, by rw [upd_ne (ne_of_none h2 h)]; exact h2, h3⟩
theorem rp_ints {F : Hp} : ∀ (ns : List Int), RpAll F (ns.map V.int) (ns.map PyData.int)
  | [] => .nil
  | n :: r => .cons (.int n) (rp_ints r)
theorem se_sset {a : E} {p pn p2 pn2 : Nat} (ha : SE nm cf a) : SE nm cf (.sset a p pn p2 pn2) := fun k bk W X c hw => by
  simp only [wfE, Bool.and_eq_true] at hw
  obtain ⟨⟨h1, h2⟩, h3⟩ := hw
  have S1 : PE X (.Call (.Name ("set" : String) (ps pn2)) [a.py] [] (ps p2)) _ := pe_callTy (cr_setT c.calm) (glOf h2) (blt c "set" rfl) PyProof.Rows.boot_set (pa1 (ha k bk W X c h3)) (by decide) (by decide) (star1 a [] X.env) rfl
  refine (pe_callB (cr_sortedSet c.calm) (glOf h1) (blt c "sorted" rfl) boot_sorted (pa_cons S1 pa_nil rfl) (by decide) (by decide) rfl rfl).impB ?_
  rintro σ H Q ⟨g, env, st, rel, out⟩
  refine ⟨g, env, st, rel, (Out.bind out).imp ?_⟩
  intro x st1 g1 H1 rel1 le1 o1 v hv
  split at o1
  · split at o1
    · rename_i xs ns hn
      split at o1
      · rename_i hl
        cases hv with | tup e1 n1 r1 =>
        have := r1.ints hn
        subst this
        refine ⟨_, ns, rfl, sqT rel1.c.fh e1, hl, fun q cc hq hc => ?_⟩
        refine ⟨q, _, cc, rfl, upd_same, by omega, fun ms p hs hm hlen hp => ?_⟩
        have em : ms = sortU ns := sorted_one hs (sortU_sorted ns) fun y => by rw [hm y, sortU_mem, decide_eq_true_eq]
        subst em
        have rj := rel1.junk (o := SetO X.w q (fun j => decide (j ∈ ns)) cc) hq
        obtain ⟨rp, lp⟩ := rj.put (o := .lst ((sortU ns).map V.int)) hp
        exact o1 _ _ rp lp _ (.lst put_at (rp_ints _))
      · exact o1.elim
    · exact o1.elim
  · exact o1.elim
theorem se_rv {a : E} {j q1 q2 q3 p : Nat} (ha : SE nm cf a) : SE nm cf (.rv a j q1 q2 q3 p) := fun k bk W X c hw => by
  refine (pe_revV (ha k bk W X c hw)).impB ?_
  rintro σ H Q ⟨g, env, st, rel, out⟩
  refine ⟨g, env, st, rel, (Out.bind out).imp ?_⟩
  intro x st1 g1 H1 rel1 le1 o1 v hv
  obtain ⟨z, e1, o2⟩ := o1.lift
  unfold revV at e1
  split at e1
  · cases e1
    cases hv with | tup e2 n1 r1 =>
    exact ⟨_, _, rfl, .inr ⟨sqT rel1.c.fh e2, (o2.fin1 rel1).tup rel1.c r1.reverse⟩⟩
  · cases e1
    cases hv with | lst e2 r1 =>
    exact ⟨_, _, rfl, .inl ⟨sqL rel1.c.fh e2, (o2.fin1 rel1).lst rel1.c r1.reverse⟩⟩
  · cases e1
theorem se_stp {a : E} {lo hi : Oe} {d : Int} {j q1 q3 p : Nat} (ha : SE nm cf a) (hl : ∀ a, lo = .e a → SE nm cf a) (hh : ∀ a, hi = .e a → SE nm cf a) : SE nm cf (.stp a lo hi d j q1 q3 p) := fun k bk W X c hw => by
  simp only [wfE, Bool.and_eq_true, decide_eq_true_eq] at hw
  refine (pe_stp hw.2 (ha k bk W X c hw.1.1.1) (so lo hl k bk W X c hw.1.1.2) (so hi hh k bk W X c hw.1.2)).impB ?_
  rintro σ H Q ⟨g, env, st, rel, out⟩
  refine ⟨g, env, st, rel, (Out.bind out).imp ?_⟩
  intro x st1 g1 H1 rel1 le1 o1 v hv
  refine ⟨g1, env, st1, rel1, (Out.bind o1).imp ?_⟩
  intro l st2 g2 H2 rel2 le2 o2
  refine ⟨g2, env, st2, rel2, (Out.bind o2).imp ?_⟩
  intro h st3 g3 H3 rel3 le3 o3
  obtain ⟨z, e1, o4⟩ := o3.lift
  have hv := hv.mono (le2.trans le3)
  unfold stepV at e1
  split at e1
  · split at e1
    · rename_i hz
      cases e1
      cases hv with | tup e2 n1 r1 =>
      have r2 := r1.step l h d
      exact ⟨_, _, rfl, sqT rel3.c.fh e2, by rw [r2.length, ← szl_eq]; exact hz, (o4.fin1 rel3).tup rel3.c r2⟩
    · cases e1
  · cases e1
/-! ### sum(range(a, b)) -/
def tSumRg (te : L2.St → Hp → (Int → Int → Hp → Prop) → Prop) : TE := fun σ H Q => te σ H fun a b H1 => RgOk a b ∧ Q (.int (rgS a b)) H1
theorem preSum_rg (a : Int) : ∀ n, preSum (fun i => a + (i : Int)) n = ((List.range n).map fun (i : Nat) => a + (i : Int)).sum
  | 0 => rfl
  | n + 1 => by
    show preSum (fun i => a + (i : Int)) n + (a + (n : Int)) = _
    rw [preSum_rg a n, List.range_succ, List.map_append, List.sum_append]
    simp
theorem pe_sumRg {e : Expr} {te : L2.St → Hp → (Int → Int → Hp → Prop) → Prop} {p pos : Pos} (hc : X.calm = true) (hg : Gl X "sum") (hm : X.mg "sum" = none) (he : PRg X e te)
    (na : starEach [e] X.env = (false, eval e X.env) :: starEach [] X.env) : PE X (.Call (.Name "sum" p) [e] [] pos) (tSumRg te) := ⟨fun pins s σ H Q I h => by
  refine Call_ (ld_blt I hg hm boot_sum (PyProof.Rows.callWith_builtin1 (args_cons (thn (he pins s σ H _ I h) ?_) na) na))
  rintro x s1 ⟨r, a, b, t, u, v, H1, rfl, hr, I1, ⟨b1, b2, b3, b4, b5⟩, q⟩
  refine args_nil (call_sum_walkG (wpAny_pyIter_range hr (small_one b1 b2 b3 b4) ?_))
  refine ⟨s1.heap.objs.size, [s1.heap.objs.size], [s1.heap.objs.size], (b - a).toNat, _, _, fun i => a + (i : Int), rfl, Walks.range (A := X.A.in1) (I1.ok.hd hc) _ a 1 (b - a).toNat, (by show IsRangeIter _ _ _ _ _; rw [rangeSize_nat a b]; simpa using Heap.get?_push_size _ rfl), ?_, fun i v ⟨t, e⟩ => ⟨t, by simpa using e⟩, fun h' tk t' hk => ⟨.int _, H1, I1.kept (old_kept' hk), ⟨_, rfl⟩, ?_⟩⟩
  · intro c hc
    rw [List.mem_singleton.mp hc, Heap.size_push]
    exact Nat.lt_succ_self _
  · rw [preSum_rg]
    exact q⟩
theorem se_sumr {a b : E} {p pn p2 pn2 : Nat} (ha : SE nm cf a) (hb : SE nm cf b) : SE nm cf (.sumr a b p pn p2 pn2) := fun k bk W X c hw => by
  simp only [wfE, Bool.and_eq_true] at hw
  obtain ⟨⟨⟨h1, h2⟩, h3⟩, h4⟩ := hw
  have R2 := prg_2 (p := ps pn2) (pos := ps p2) (glOf h2) (blt c "range" rfl) (ha k bk W X c h3) (hb k bk W X c h4) (star1 a _ X.env) (star1 b _ X.env) (by rw [star1 b]; rfl)
  refine (pe_sumRg c.calm (glOf h1) (blt c "sum" rfl) R2 rfl).impB ?_
  rintro σ H Q ⟨g, env, st, rel, out⟩
  refine ⟨g, env, st, rel, (Out.bind out).imp ?_⟩
  intro x st1 g1 H1 rel1 le1 o1 v hv
  refine ⟨g1, env, st1, rel1, (Out.bind o1).imp ?_⟩
  intro y st2 g2 H2 rel2 le2 o2 w hw
  split at o2
  · cases hv; cases hw
    split at o2
    · rename_i hok
      exact ⟨_, _, rfl, rfl, rngOk_of hok, o2.here rel2 _ (.int _)⟩
    · exact o2.elim
  · exact o2.elim
end
end Bz
/-! Soundness: what is walked, targets, comprehensions. -/
namespace Bz
open PySem PySem.Spec PyProof.Rows L2
/-- what an iterator hands out for x: x itself, or a new pair -/
def Yl (F H H' : Hp) (v : V) (x : PyData) : Prop := (H' = H ∧ Rp F v x) ∨ ∃ T a b y z, v = .ref T ∧ H T = none ∧ H' = upd H T (.tup [a, b]) ∧ x = .tuple [y, z] ∧ Rp F a y ∧ Rp F b z
structure Wk (J : L2.It) (pr : Bool) (xs : List PyData) (F0 : Hp) : Prop where
  go : ∀ (i : Nat) (x : PyData) (F H : Hp), Same F0 F → Same F H → xs[i]? = some x → J.go i H ∧ ∀ v H', J.yld i H v H' → Yl F H H' v x ∧ (pr = false → H' = H ∧ Rp F v x)
  stop : ∀ (F H : Hp), Same F0 F → Same F H → J.stop xs.length H
def tI (mg : Str → Option Value) (W : WX) (pr : Bool) (f : List Sl → Stt → R (List PyData)) : TI := fun σ H R => ∃ g env st, Rel g env st σ H ∧ Out mg W g env σ (f env st) fun xs _ g' H' => ∀ J, Wk J pr xs g'.F → R J H'
theorem _root_.L2.PI.impB {X : Cx} {tg e : Expr} {t t' : TI} (h : PI X tg e t) (k : ∀ σ H R, t' σ H R → t σ H R) : PI X tg e t' := ⟨fun pins s σ H R I q => h.run pins s σ H R I (k σ H R q)⟩
theorem sqL_one {K : PySem.W.Frag} {H : Hp} {a : Addr} {xs ys : List V} (h : H a = some (.lst xs)) (q : SqL K H a ys) (nk : K.lookup a = none ∨ True) : Rd H a (.lst ys) → ys = xs := by
  rintro (e | ⟨o, e⟩)
  · rw [h] at e; cases e; rfl
  · rw [h] at e; cases e
section
variable {nm : Nat → Option Str} {cf : Nat → List Va → Stt → R Va} {k : Nat} {bk : Option Scope} {W : WX} {X : Cx} {tg : Expr}
/-- an iterator whose items are told for every list that may be read there -/
theorem wk_list {K : PySem.W.Frag} {a : Addr} {vs : List V} {ds : List PyData} {F0 : Hp} (e : F0 a = some (.lst vs)) (r : RpAll F0 vs ds) : Wk (Itl K a) false ds F0 where
  go := fun i x F H f1 f2 hx => by
    obtain ⟨v, h1, h2⟩ := r.get hx
    have hs : SqL K H a vs := SqL.of (f2 _ _ (f1 _ _ e))
    refine ⟨⟨vs, v, hs, h1⟩, ?_⟩
    rintro w H' ⟨rfl, q⟩
    have : w = v := Option.some.inj ((q vs hs).symm.trans h1)
    subst this
    exact ⟨.inl ⟨rfl, h2.mono f1⟩, fun _ => ⟨rfl, h2.mono f1⟩⟩
  stop := fun F H f1 f2 => ⟨vs, SqL.of (f2 _ _ (f1 _ _ e)), Nat.le_of_eq r.length⟩
theorem wk_tup {K : PySem.W.Frag} {a : Addr} {ob : Obj} {vs : List V} {ds : List PyData} {F0 : Hp} (e : F0 a = some (.frz ob (.tup vs))) (r : RpAll F0 vs ds) : Wk (Itt K a) false ds F0 where
  go := fun i x F H f1 f2 hx => by
    obtain ⟨v, h1, h2⟩ := r.get hx
    have hs : SqT K H a vs := .inl (.inr ⟨_, f2 _ _ (f1 _ _ e)⟩)
    refine ⟨⟨vs, v, hs, h1⟩, ?_⟩
    rintro w H' ⟨rfl, q⟩
    have : w = v := Option.some.inj ((q vs hs).symm.trans h1)
    subst this
    exact ⟨.inl ⟨rfl, h2.mono f1⟩, fun _ => ⟨rfl, h2.mono f1⟩⟩
  stop := fun F H f1 f2 => ⟨vs, .inl (.inr ⟨_, f2 _ _ (f1 _ _ e)⟩), Nat.le_of_eq r.length⟩
theorem rng2_get (a b : Int) (i : Nat) (x : PyData) (h : (rng2 a b)[i]? = some x) : i < (b - a).toNat ∧ x = .int (a + (i : Int)) := by
  unfold rng2 at h
  rw [List.getElem?_map] at h
  obtain ⟨j, h1, h2⟩ := Option.map_eq_some_iff.mp h
  obtain ⟨h3, h4⟩ := List.getElem?_eq_some_iff.mp h1
  rw [List.getElem_range] at h4
  rw [List.length_range] at h3
  subst h4
  exact ⟨h3, h2.symm⟩
theorem wk_rng {a b : Int} {F0 : Hp} : Wk (Itr a (b - a).toNat) false (rng2 a b) F0 where
  go := fun i x F H f1 f2 hx => by
    obtain ⟨h1, rfl⟩ := rng2_get a b i x hx
    refine ⟨h1, ?_⟩
    rintro w H' ⟨rfl, rfl⟩
    exact ⟨.inl ⟨rfl, .int _⟩, fun _ => ⟨rfl, .int _⟩⟩
  stop := fun F H f1 f2 => by
    show (b - a).toNat ≤ (rng2 a b).length
    unfold rng2
    rw [List.length_map, List.length_range]
    exact Nat.le_refl _
theorem zipD_get : ∀ (xs ys : List PyData) (i : Nat) (p : PyData), (zipD xs ys)[i]? = some p → ∃ x y, xs[i]? = some x ∧ ys[i]? = some y ∧ p = .tuple [x, y]
  | [], _, i, p, h => by simp [zipD] at h
  | _ :: _, [], i, p, h => by simp [zipD] at h
  | x :: xs, y :: ys, 0, p, h => by
    simp [zipD] at h
    exact ⟨x, y, rfl, rfl, h.symm⟩
  | x :: xs, y :: ys, i + 1, p, h => by
    simp only [zipD, List.getElem?_cons_succ] at h ⊢
    exact zipD_get xs ys i p h
theorem zipD_len : ∀ (xs ys : List PyData), xs.length ≤ (zipD xs ys).length ∨ ys.length ≤ (zipD xs ys).length
  | [], _ => .inl (Nat.zero_le _)
  | _ :: _, [] => .inr (Nat.zero_le _)
  | x :: xs, y :: ys => by
    simp only [zipD, List.length_cons]
    rcases zipD_len xs ys with h | h
    · exact .inl (by omega)
    · exact .inr (by omega)
theorem wk_zipT {K : PySem.W.Frag} {a b : Addr} {oa ob : Obj} {vs ws : List V} {ds es : List PyData} {F0 : Hp} (e : F0 a = some (.frz oa (.tup vs))) (r : RpAll F0 vs ds) (e2 : F0 b = some (.frz ob (.tup ws))) (r2 : RpAll F0 ws es) : Wk (RZ.ItzT K a b) true (zipD ds es) F0 where
  go := fun i x F H f1 f2 hx => by
    obtain ⟨d1, d2, g1, g2, rfl⟩ := zipD_get ds es i x hx
    obtain ⟨v, h1, h2⟩ := r.get g1
    obtain ⟨w, q1, q2⟩ := r2.get g2
    have hs : SqT K H a vs := .inl (.inr ⟨_, f2 _ _ (f1 _ _ e)⟩)
    have hs2 : SqT K H b ws := .inl (.inr ⟨_, f2 _ _ (f1 _ _ e2)⟩)
    refine ⟨⟨vs, ws, v, w, hs, hs2, h1, q1⟩, ?_⟩
    rintro u H' ⟨T, x1, x2, rfl, hT, rfl, k1, k2⟩
    have z1 : x1 = v := Option.some.inj ((k1 vs hs).symm.trans h1)
    have z2 : x2 = w := Option.some.inj ((k2 ws hs2).symm.trans q1)
    subst z1 z2
    exact ⟨.inr ⟨T, _, _, _, _, rfl, hT, rfl, rfl, h2.mono f1, q2.mono f1⟩, fun z => nomatch z⟩
  stop := fun F H f1 f2 => ⟨vs, ws, .inl (.inr ⟨_, f2 _ _ (f1 _ _ e)⟩), .inl (.inr ⟨_, f2 _ _ (f1 _ _ e2)⟩), by rw [r.length, r2.length]; exact zipD_len ds es⟩
theorem wk_zipL {K : PySem.W.Frag} {a b : Addr} {vs ws : List V} {ds es : List PyData} {F0 : Hp} (e : F0 a = some (.lst vs)) (r : RpAll F0 vs ds) (e2 : F0 b = some (.lst ws)) (r2 : RpAll F0 ws es) : Wk (Itz K a b) true (zipD ds es) F0 where
  go := fun i x F H f1 f2 hx => by
    obtain ⟨d1, d2, g1, g2, rfl⟩ := zipD_get ds es i x hx
    obtain ⟨v, h1, h2⟩ := r.get g1
    obtain ⟨w, q1, q2⟩ := r2.get g2
    have hs : SqL K H a vs := SqL.of (f2 _ _ (f1 _ _ e))
    have hs2 : SqL K H b ws := SqL.of (f2 _ _ (f1 _ _ e2))
    refine ⟨⟨vs, ws, v, w, hs, hs2, h1, q1⟩, ?_⟩
    rintro u H' ⟨T, x1, x2, rfl, hT, rfl, k1, k2⟩
    have z1 : x1 = v := Option.some.inj ((k1 vs hs).symm.trans h1)
    have z2 : x2 = w := Option.some.inj ((k2 ws hs2).symm.trans q1)
    subst z1 z2
    exact ⟨.inr ⟨T, _, _, _, _, rfl, hT, rfl, rfl, h2.mono f1, q2.mono f1⟩, fun z => nomatch z⟩
  stop := fun F H f1 f2 => ⟨vs, ws, SqL.of (f2 _ _ (f1 _ _ e)), SqL.of (f2 _ _ (f1 _ _ e2)), by rw [r.length, r2.length]; exact zipD_len ds es⟩
theorem enumD_get : ∀ (n : Nat) (xs : List PyData) (i : Nat) (p : PyData), (enumD n xs)[i]? = some p → ∃ x, xs[i]? = some x ∧ p = .tuple [.int ((n + i : Nat) : Int), x]
  | n, [], i, p, h => by simp [enumD] at h
  | n, x :: xs, 0, p, h => by
    simp [enumD] at h
    exact ⟨x, rfl, h.symm⟩
  | n, x :: xs, i + 1, p, h => by
    simp only [enumD, List.getElem?_cons_succ] at h ⊢
    obtain ⟨y, h1, h2⟩ := enumD_get (n + 1) xs i p h
    exact ⟨y, h1, by rw [h2, show n + 1 + i = n + (i + 1) by omega]⟩
theorem enumD_len : ∀ (n : Nat) (xs : List PyData), (enumD n xs).length = xs.length
  | _, [] => rfl
  | n, x :: xs => by simp [enumD, enumD_len (n + 1) xs]
theorem wk_enum {K : PySem.W.Frag} {a : Addr} {vs : List V} {ds : List PyData} {F0 : Hp} (e : F0 a = some (.lst vs)) (r : RpAll F0 vs ds) : Wk (Ite K a) true (enumD 0 ds) F0 where
  go := fun i x F H f1 f2 hx => by
    obtain ⟨d1, g1, rfl⟩ := enumD_get 0 ds i x hx
    obtain ⟨v, h1, h2⟩ := r.get g1
    have hs : SqL K H a vs := SqL.of (f2 _ _ (f1 _ _ e))
    refine ⟨⟨vs, v, hs, h1⟩, ?_⟩
    rintro u H' ⟨T, x1, rfl, hT, rfl, k1⟩
    have z1 : x1 = v := Option.some.inj ((k1 vs hs).symm.trans h1)
    subst z1
    refine ⟨.inr ⟨T, _, _, _, _, rfl, hT, rfl, rfl, ?_, h2.mono f1⟩, fun z => nomatch z⟩
    rw [Nat.zero_add]
    exact .int _
  stop := fun F H f1 f2 => ⟨vs, SqL.of (f2 _ _ (f1 _ _ e)), by rw [r.length, enumD_len]; exact Nat.le_refl _⟩
/-- a list or a tuple walked -/
def iSeq (K : PySem.W.Frag) (tl : TE) : TI := fun σ H R => tl σ H fun x H1 => (∃ a xs, x = .ref a ∧ SqL K H1 a xs ∧ R (Itl K a) H1) ∨ (∃ a xs, x = .ref a ∧ SqT K H1 a xs ∧ R (Itt K a) H1)
theorem pi_seq {l : Expr} {tl : TE} (hl : PE X l tl) : PI X tg l (iSeq X.K tl) := ⟨fun pins s σ H R I h => by
  refine thn (hl.run pins s σ H _ I h) ?_
  rintro v s1 ⟨x, H1, I1, r1, ⟨a, xs, rfl, hq, q⟩ | ⟨a, xs, rfl, hq, q⟩⟩
  · cases r1
    obtain ⟨its, rv, p, -⟩ := I1.list hq
    refine wpAny_pyIter_list p.isList ⟨s1.heap.objs.size, [s1.heap.objs.size], _, _, H1, rfl, I1.kept (t' := s1.toks) fun b o e => Heap.get?_push_of_some _ e, turn_list a _, ⟨_, Heap.get?_push_size _ rfl, rfl, rfl⟩, fun b hb => ?_, q⟩
    rw [List.mem_singleton.mp hb]
    exact I1.fpOk (Nat.le_refl _) (I1.hok.fresh (Nat.le_refl _))
  · cases r1
    obtain ⟨its, rv, p, -⟩ := I1.tuple hq
    refine wpAny_pyIter_tuple (show s1.heap.IsTuple a its.toArray from p) ⟨s1.heap.objs.size, [s1.heap.objs.size], _, _, H1, rfl, I1.kept (t' := s1.toks) fun b o e => Heap.get?_push_of_some _ e, turn_tuple a _, ⟨_, Heap.get?_push_size _ rfl, rfl, rfl⟩, fun b hb => ?_, q⟩
    rw [List.mem_singleton.mp hb]
    exact I1.fpOk (Nat.le_refl _) (I1.hok.fresh (Nat.le_refl _))⟩
def SI (nm : Nat → Option Str) (cf : Nat → List Va → Stt → R Va) (it : It) : Prop := ∀ (k : Nat) (bk : Option Scope) (W : WX) (X : Cx) (tg : Tg), Ctx nm cf k bk W X → wfI nm X.N X.env.scope bk it = true → (it.pairs = true → tg.isT = true) → PI X tg.py it.py (tI X.mg W it.pairs (evi cf it))
theorem si_e {a : E} (ha : SE nm cf a) : SI nm cf (.e a) := fun k bk W X tg c hw _ => by
  refine (pi_seq (ha k bk W X c hw)).impB ?_
  rintro σ H R ⟨g, env, st, rel, out⟩
  refine ⟨g, env, st, rel, (Out.bind out).imp ?_⟩
  intro x st1 g1 H1 rel1 le1 o1 v hv
  obtain ⟨z, e1, o2⟩ := o1.lift
  obtain ⟨y, e2, e3⟩ := Option.bind_eq_some_iff.mp e1
  cases x with
  | d x =>
    cases e2
    cases hv with
    | lst e r => cases e3; exact .inl ⟨_, _, rfl, sqL rel1.c.fh e, o2.here rel1 _ (wk_list e r)⟩
    | tup e n r => cases e3; exact .inr ⟨_, _, rfl, sqT rel1.c.fh e, o2.here rel1 _ (wk_tup e r)⟩
    | _ => cases e3
  | ref n => cases e2
  | dct n => cases e2
theorem si_r1 {a : E} {p pn : Nat} (ha : SE nm cf a) : SI nm cf (.r1 a p pn) := fun k bk W X tg c hw _ => by
  simp only [wfI, Bool.and_eq_true] at hw
  refine (pi_range1 (glOf hw.1) (blt c "range" rfl) (pa1 (ha k bk W X c hw.2)) (star1 a [] X.env)).impB ?_
  rintro σ H R ⟨g, env, st, rel, out⟩
  refine ⟨g, env, st, rel, (Out.bind out).imp ?_⟩
  intro x st1 g1 H1 rel1 le1 o1 v hv
  split at o1
  · cases hv
    split at o1
    · rename_i j hj
      obtain ⟨b1, b2, b3, b4, b5⟩ := rngOk_of hj
      have h := o1.here rel1 _ (wk_rng (a := 0) (b := j))
      rw [Int.sub_zero] at h
      exact ⟨j, rfl, b3, b4, h⟩
    · exact o1.elim
  · exact o1.elim
theorem si_r2 {a b : E} {p pn : Nat} (ha : SE nm cf a) (hb : SE nm cf b) : SI nm cf (.r2 a b p pn) := fun k bk W X tg c hw _ => by
  simp only [wfI, Bool.and_eq_true] at hw
  refine (pi_range2 (glOf hw.1.1) (blt c "range" rfl) (pa2 (ha k bk W X c hw.1.2) (hb k bk W X c hw.2)) (by rw [star1 a, star1 b]; rfl) (star1 b [] X.env)).impB ?_
  rintro σ H R ⟨g, env, st, rel, out⟩
  refine ⟨g, env, st, rel, (Out.bind out).imp ?_⟩
  intro x st1 g1 H1 rel1 le1 o1 v hv
  refine ⟨g1, env, st1, rel1, (Out.bind o1).imp ?_⟩
  intro y st2 g2 H2 rel2 le2 o2 w hw
  split at o2
  · cases hv; cases hw
    split at o2
    · rename_i i j hj
      obtain ⟨b1, b2, b3, b4, b5⟩ := rngOk_of hj
      exact ⟨i, j, rfl, ⟨b1, b2, b3, b4⟩, o2.here rel2 _ wk_rng⟩
    · exact o2.elim
  · exact o2.elim
/-! ### enumerate(t), t a tuple -/
theorem pyNext_enumT_end {prog : Program} {w : World} {A : Around} {E : Value → Shared → Prop} {s : Shared} {e it a : Addr} {items : Array Value} {n : Nat} {i : Int} {old : Value} {Q : Option Value → Shared → Prop} (hh : A.handled = none)
    (he : IsEnum s.heap e it i old) (hit : s.heap.IsTupleIter it a n) (hl : s.heap.IsTuple a items) (hx : items[n]? = none)
    (hQ : ∀ h', Heap.ExtBut it s.heap h' → Q none { s with heap := h' }) : wpAny (model prog w) A (pyNext (.ref e)) Q E s := by
  have hT : s.TypeIs (.ref e) "enumerate" := ⟨_, he, rfl⟩
  unfold pyNext
  refine wpAny_bind (wpAny_attempt (wpAny_callSpecial?_slot (name := Str.ofString "__next__") hT F.slot_enumerate_next
    (wpAny_call_entry F.slot_enumerate_next hT F.entry_enumerate_next ?_ (F.args_enumerate_next_1 _))))
  show wpAny _ _ (field (.ref e) 2 >>= _) _ _ _
  refine wpAny_bind (wpAny_field he rfl (x := .ref it) rfl ?_)
  refine wpAny_bind (wpAny_nextOf_tuple_end hh hit hl hx fun h' x he' hx' => ?_)
  obtain ⟨o, ho, hc⟩ := hx'
  refine wpAny_bind (wpAny_isInstance (T := "StopIteration") (b := true) ⟨o, ho, hc⟩ isSubtype_stop ?_)
  exact wpAny_pure (hQ _ he')
theorem meets_enumT (l : Addr) (items : Array Value) (n : Nat) (dd : Option Addr) (sl : Array (Option Value)) :
    Meets (Builtin.«enumerate.__new__» ⟨[.type "enumerate", .ref l], []⟩) (fun _ R s => s.heap.get? l = some { cls := .type "tuple", dict := dd, data := .seq items n, slots := sl } ∧
      R (.ok (.ret (.ref (s.heap.push { cls := .type "tuple_iterator", data := .fields #[.ref l, .int 0 0] }).objs.size)))
        { s with heap := (s.heap.push { cls := .type "tuple_iterator", data := .fields #[.ref l, .int 0 0] }).push { cls := .type "enumerate", data := .fields #[.none, .bool false, .ref s.heap.objs.size, rawInt 0, .none, .none] } }) :=
  .of_wp fun prog w A R s h => by
    obtain ⟨hp, g, d, tk, os⟩ := s
    obtain ⟨hl, h⟩ := h
    have hL : hp.IsTuple l items := ⟨_, hl, rfl, n, rfl⟩
    have hsub := sub_enumerate
    wp_walk using wpAny_loadPart' hl
    refine wpAny_stack_any fun st => wpAny_pure ?_
    split
    · rename_i c _ _ _ _ _
      cases (c == Value.type "enumerate")
      · wp_walk using wpAny_loadPart' hl, wpAny_pyIter_tuple hL
        exact ⟨_, rfl, h⟩
      · wp_walk using wpAny_loadPart' hl, wpAny_pyIter_tuple hL
        exact ⟨_, rfl, h⟩
    · wp_walk using wpAny_loadPart' hl, wpAny_pyIter_tuple hL
      exact ⟨_, rfl, h⟩
theorem call_enumT {prog : Program} {w : World} {A : Around} {E : Value → Shared → Prop} {s : Shared} {l : Addr} {items : Array Value} {Q : Value → Shared → Prop} (hL : s.heap.IsTuple l items)
    (h : ∀ h', IsEnum h' (s.heap.objs.size + 1) s.heap.objs.size 0 .none → h'.IsTupleIter s.heap.objs.size l 0 → h'.objs.size = s.heap.objs.size + 2 →
      (∀ b o, s.heap.get? b = some o → h'.get? b = some o) → Q (.ref (s.heap.objs.size + 1)) { s with heap := h' }) :
    wpAny (model prog w) A (call (.type "enumerate") [.ref l]) Q E s := by
  obtain ⟨⟨c, dct, dt, sl⟩, hl, hc, n, hd⟩ := hL
  replace hc : c = .type "tuple" := hc
  replace hd : dt = .seq items n := hd
  subst hc hd
  refine callType_new F.called_enumerate (by decide) (F.typeCall_enumerate_1 _) (F.newCall_enumerate_1 _) (fun obj => F.args_object_init_2 obj _) F.entry_enumerate_new
    (meets_enumT l items n dct sl) ⟨hl, ?_⟩
  have hz : (s.heap.push { cls := .type "tuple_iterator", data := .fields #[.ref l, .int 0 0] }).objs.size = s.heap.objs.size + 1 := Heap.size_push ..
  show _ ∧ _
  rw [hz]
  have he : IsEnum ((s.heap.push { cls := .type "tuple_iterator", data := .fields #[.ref l, .int 0 0] }).push { cls := .type "enumerate", data := .fields #[.none, .bool false, .ref s.heap.objs.size, rawInt 0, .none, .none] }) (s.heap.objs.size + 1) s.heap.objs.size 0 .none := by
    have q := Heap.get?_push_size (h := s.heap.push { cls := .type "tuple_iterator", data := .fields #[.ref l, .int 0 0] }) (o := { cls := .type "enumerate", data := .fields #[.none, .bool false, .ref s.heap.objs.size, rawInt 0, .none, .none] }) rfl
    rw [hz] at q
    exact q
  refine ⟨⟨_, he, rfl⟩, h _ he ?_ ?_ ?_⟩
  · exact ⟨_, Heap.get?_push_of_some _ (Heap.get?_push_size _ rfl), rfl, rfl⟩
  · rw [Heap.size_push, hz]
  · exact fun b o e => Heap.get?_push_of_some _ (Heap.get?_push_of_some _ e)
def Ite2 (K : PySem.W.Frag) (a : Addr) : L2.It :=
  ⟨fun i H => ∃ (xs : List V) (x : V), SqT K H a xs ∧ xs[i]? = some x, fun i H v H' => ∃ T x, v = .ref T ∧ H T = none ∧ H' = upd H T (.tup [.int (i : Nat), x]) ∧ ∀ xs, SqT K H a xs → xs[i]? = some x, fun i H => ∃ xs : List V, SqT K H a xs ∧ xs.length ≤ i⟩
theorem turn_enumT {P : Program} {w : World} {K : PySem.W.Frag} {elts : List Expr} {kk : Nat} {tpos : Pos} (a e it : Addr) :
    Turn P w K (.Tuple elts kk tpos) (Ite2 K a) [e, it] e (fun i h => (∃ old, IsEnum h e it ((i : Nat) : Int) old) ∧ h.IsTupleIter it a i ∧ e ≠ it ∧ e ≠ a ∧ a ≠ it) where
  mem := by simp
  obj := fun i h st b hb => by
    obtain ⟨⟨old, he⟩, ⟨o, ho, hc, hd⟩, _⟩ := st
    have e' : b = e ∨ b = it := by simpa using hb
    rcases e' with z | z
    · rw [z]; exact ⟨_, he, fun v q => nomatch q⟩
    · rw [z]; exact ⟨o, ho, fun v q => by rw [hd] at q; cases q⟩
  keep := fun i h h' st k => let ⟨⟨old, he⟩, hi, hne⟩ := st; ⟨⟨old, k e (by simp) _ he⟩, hi.at fun o q => k it (by simp) o q, hne⟩
  item := by
    intro X hP hw hK hc i pins s σ H E I hf st hg
    subst hP hw hK
    obtain ⟨⟨old, he⟩, hit, hne, hea, hai⟩ := st
    obtain ⟨xs, x, hq, hx⟩ := hg
    obtain ⟨its, rv, p, hz⟩ := I.tuple hq
    obtain ⟨u, hu, ru⟩ := rv.get hx
    have hel : e < s.heap.objs.size := Heap.lt_size he
    have hil : it < s.heap.objs.size := by obtain ⟨_, q, _⟩ := hit; exact Heap.lt_size q
    have hlen : i < its.toArray.size := by
      rw [List.size_toArray]; exact (List.getElem?_eq_some_iff.mp hu).1
    refine wpAny_pyNext_enum_itemD (Draws.tuple (A := X.A.in1) (I.ok.hd hc) it a hai its.toArray) he ⟨hit, p⟩ hlen hne (by simp [hne, hea]) fun y h' tk hy ho hst hT hsz hk => ?_
    have hy' : its[i]? = some y := by simpa using hy
    rw [hu] at hy'
    cases hy'
    refine ⟨_, rfl, wpAny_letOwnedTupleGo_enum (s := { s with heap := h', toks := tk + 1 }) ho fun h'' he' sb => ?_⟩
    have hT2 : h''.get? s.heap.objs.size = some { cls := .type "tuple", data := .seq #[.int i tk, u] } := (sb.2 _ (Nat.ne_of_gt hel)).trans hT
    have new : ObjOk X.prog X.w (upd H s.heap.objs.size (.tup [.int (i : Nat), x])) h'' s.heap.objs.size (.tup [.int (i : Nat), x]) :=
      ⟨by show 2 ≤ sizeLine; decide, [.int i tk, u], .cons ⟨_, rfl⟩ (.cons ru .nil), ⟨_, hT2, rfl, _, rfl⟩⟩
    have I1 : Inv X pins σ (upd H s.heap.objs.size (.tup [.int (i : Nat), x])) { s with heap := h'', toks := tk + 1 } :=
      I.turnedNew (ch := [e, it]) (fun b ob hb q => (sb.2 b (fun z => hb (by simp [z]))).trans (hk b ob (fun z => hb (by simp [z])) (fun z => hb (by simp [z])) q)) hf (Nat.le_refl _) new
    refine ⟨.ref s.heap.objs.size, _, I1, rfl, ⟨_, x, rfl, I.hok.fresh (Nat.le_refl _), rfl, fun ys hy => by rw [I.tuple_inj hy hq]; exact hx⟩, ⟨⟨u, ?_⟩, hst.1.at fun o q => (sb.2 it (Ne.symm hne)).trans q, hne, hea, hai⟩, fun b hb => ?_⟩
    · have e1 : ((i + 1 : Nat) : Int) = (i : Int) + 1 := by omega
      rw [e1]; exact he'
    · have hb' : b < s.heap.objs.size := by
        have e' : b = e ∨ b = it := by simpa using hb
        rcases e' with z | z
        · rw [z]; exact hel
        · rw [z]; exact hil
      rw [upd_ne (Nat.ne_of_lt hb')]
      exact (hf b hb).1
  done := by
    intro X hP hw hK hc i pins s σ H E I hf st hg
    subst hP hw hK
    obtain ⟨⟨old, he⟩, hit, hne, hea, hai⟩ := st
    obtain ⟨xs, hq, hx⟩ := hg
    obtain ⟨its, rv, p, hz⟩ := I.tuple hq
    obtain ⟨f0, f1, f2, f3, f4, f5⟩ := hf it (by simp)
    have hl := rv.length
    exact pyNext_enumT_end (I.ok.hd hc) he hit p (by simp; omega) fun h' eb => ⟨rfl, I.turned (t' := s.toks) (fun b o hb q => eb b o hb q) f0 f1 f3 f4 f5⟩
  self := fun A i s Q E st h => let ⟨⟨_, he⟩, _⟩ := st; wpAny_pyIter_enum he h
def iEnB (K : PySem.W.Frag) (ta : TA) : TI := fun σ H R => ta σ H fun vs H1 => (∃ a xs, vs = [.ref a] ∧ SqL K H1 a xs ∧ R (Ite K a) H1) ∨ (∃ a xs, vs = [.ref a] ∧ SqT K H1 a xs ∧ R (Ite2 K a) H1)
theorem pi_enB {X : Cx} {e : Expr} {ta : TA} {p pos tpos : Pos} {elts : List Expr} {kk : Nat} (hg : Gl X "enumerate") (hm : X.mg "enumerate" = none) (ha : PA X [e] ta) (hs : starEach [e] X.env = [(false, eval e X.env)]) :
    PI X (.Tuple elts kk tpos) (.Call (.Name "enumerate" p) [e] [] pos) (iEnB X.K ta) := by
  refine ⟨fun pins s σ H R I h => ?_⟩
  refine Call_ (ld_blt I hg hm boot_enumerate (PyProof.Rows.callWith_type1 (thn (ha.run pos pins s σ H _ I h) fun us s1 ⟨vs, H1, I1, r1, q1⟩ => ?_) hs rfl))
  rcases q1 with ⟨a, xs, ex, hq, q⟩ | ⟨a, xs, ex, hq, q⟩
  · subst ex
    cases r1 with
    | cons r rr =>
      cases rr
      cases r
      obtain ⟨its, rv, p', hz⟩ := I1.list hq
      refine call_enumerate_list p'.isList fun h' he hit hsz hk => wpAny_pyIter_enum he ?_
      have I2 : Inv X pins σ H1 { s1 with heap := h' } := I1.kept (t' := s1.toks) hk
      refine ⟨s1.heap.objs.size + 1, [s1.heap.objs.size + 1, s1.heap.objs.size], _, _, H1, rfl, I2, turn_enum a (s1.heap.objs.size + 1) s1.heap.objs.size, ⟨⟨.none, he⟩, hit, Nat.succ_ne_self _⟩, fun b hb => ?_, q⟩
      have e' : b = s1.heap.objs.size + 1 ∨ b = s1.heap.objs.size := by simpa using hb
      have hle : s1.heap.objs.size ≤ b := by
        rcases e' with z | z
        · rw [z]; exact Nat.le_add_right _ _
        · rw [z]; exact Nat.le_refl _
      exact I1.fpOk hle (I1.hok.fresh hle)
  · subst ex
    cases r1 with
    | cons r rr =>
      cases rr
      cases r
      obtain ⟨its, rv, p', hz⟩ := I1.tuple hq
      have hal : a < s1.heap.objs.size := by obtain ⟨_, q, _⟩ := id p'; exact Heap.lt_size q
      refine call_enumT p' fun h' he hit hsz hk => wpAny_pyIter_enum he ?_
      have I2 : Inv X pins σ H1 { s1 with heap := h' } := I1.kept (t' := s1.toks) hk
      refine ⟨s1.heap.objs.size + 1, [s1.heap.objs.size + 1, s1.heap.objs.size], _, _, H1, rfl, I2, turn_enumT a (s1.heap.objs.size + 1) s1.heap.objs.size, ⟨⟨.none, he⟩, hit, Nat.succ_ne_self _, Nat.ne_of_gt (Nat.lt_succ_of_lt hal), Nat.ne_of_lt hal⟩, fun b hb => ?_, q⟩
      have e' : b = s1.heap.objs.size + 1 ∨ b = s1.heap.objs.size := by simpa using hb
      have hle : s1.heap.objs.size ≤ b := by
        rcases e' with z | z
        · rw [z]; exact Nat.le_add_right _ _
        · rw [z]; exact Nat.le_refl _
      exact I1.fpOk hle (I1.hok.fresh hle)
theorem wk_enumT {K : PySem.W.Frag} {a : Addr} {ob : Obj} {vs : List V} {ds : List PyData} {F0 : Hp} (e : F0 a = some (.frz ob (.tup vs))) (r : RpAll F0 vs ds) : Wk (Ite2 K a) true (enumD 0 ds) F0 where
  go := fun i x F H f1 f2 hx => by
    obtain ⟨d1, g1, rfl⟩ := enumD_get 0 ds i x hx
    obtain ⟨v, h1, h2⟩ := r.get g1
    have hs : SqT K H a vs := .inl (.inr ⟨_, f2 _ _ (f1 _ _ e)⟩)
    refine ⟨⟨vs, v, hs, h1⟩, ?_⟩
    rintro u H' ⟨T, x1, rfl, hT, rfl, k1⟩
    have z1 : x1 = v := Option.some.inj ((k1 vs hs).symm.trans h1)
    subst z1
    refine ⟨.inr ⟨T, _, _, _, _, rfl, hT, rfl, rfl, ?_, h2.mono f1⟩, fun z => nomatch z⟩
    rw [Nat.zero_add]
    exact .int _
  stop := fun F H f1 f2 => ⟨vs, .inl (.inr ⟨_, f2 _ _ (f1 _ _ e)⟩), by rw [r.length, enumD_len]; exact Nat.le_refl _⟩
theorem si_en {a : E} {p pn : Nat} (ha : SE nm cf a) : SI nm cf (.en a p pn) := fun k bk W X tg c hw ht => by
  simp only [wfI, Bool.and_eq_true] at hw
  cases tg with
  | n => cases ht rfl
  | t xs q r =>
    refine (pi_enB (glOf hw.1) (blt c "enumerate" rfl) (pa1 (ha k bk W X c hw.2)) (star1 a [] X.env)).impB ?_
    rintro σ H R ⟨g, env, st, rel, out⟩
    refine ⟨g, env, st, rel, (Out.bind out).imp ?_⟩
    intro x st1 g1 H1 rel1 le1 o1 v hv
    split at o1
    · cases hv with | lst e r => exact .inl ⟨_, _, rfl, sqL rel1.c.fh e, o1.here rel1 _ (wk_enum e r)⟩
    · cases hv with | tup e n r => exact .inr ⟨_, _, rfl, sqT rel1.c.fh e, o1.here rel1 _ (wk_enumT e r)⟩
    · exact o1.elim
theorem si_zp {a b : E} {p pn : Nat} (ha : SE nm cf a) (hb : SE nm cf b) : SI nm cf (.zp a b p pn) := fun k bk W X tg c hw ht => by
  simp only [wfI, Bool.and_eq_true] at hw
  cases tg with
  | n => cases ht rfl
  | t xs q r =>
    refine (RZ.pi_zipA (glOf hw.1.1) (blt c "zip" rfl) (pa2 (ha k bk W X c hw.1.2) (hb k bk W X c hw.2)) (star1 a _ X.env) (by rw [star1 b]; rfl)).impB ?_
    rintro σ H R ⟨g, env, st, rel, out⟩
    refine ⟨g, env, st, rel, (Out.bind out).imp ?_⟩
    intro x st1 g1 H1 rel1 le1 o1 v hv
    refine ⟨g1, env, st1, rel1, (Out.bind o1).imp ?_⟩
    intro y st2 g2 H2 rel2 le2 o2 w hw
    have hv := hv.mono le2
    split at o2
    · cases hv with | tup e n r =>
      cases hw with | tup e2 n2 r2 => exact ⟨_, _, _, _, rfl, .inr ⟨sqT rel2.c.fh e, sqT rel2.c.fh e2, o2.here rel2 _ (wk_zipT e r e2 r2)⟩⟩
    · cases hv with | lst e r =>
      cases hw with | lst e2 r2 => exact ⟨_, _, _, _, rfl, .inl ⟨sqL rel2.c.fh e, sqL rel2.c.fh e2, o2.here rel2 _ (wk_zipL e r e2 r2)⟩⟩
    · exact o2.elim
end
end Bz
/-! Soundness: targets, comprehensions. -/
namespace Bz
open PySem PySem.Spec PyProof.Rows L2
section
variable {g : Gh} {env : List Sl} {st : Stt} {σ : L2.St} {H : Hp}
theorem getS {α : Type} {l : List α} {i j : Nat} {a b : α} (h : (l.set i a)[j]? = some b) : (i = j ∧ b = a ∧ i < l.length) ∨ (i ≠ j ∧ l[j]? = some b) := by
  by_cases e : i = j
  · subst e
    by_cases hl : i < l.length
    · rw [List.getElem?_set_self hl] at h
      cases h
      exact .inl ⟨rfl, rfl, hl⟩
    · rw [List.getElem?_eq_none (by simpa using hl)] at h; cases h
  · rw [List.getElem?_set_ne e] at h
    exact .inr ⟨e, h⟩
theorem EnvR.set (r : EnvR g env σ H) {i : Nat} {v : V} {x : Va} (h : RepV g v x) : EnvR g (sto env i x) (σ.set i (some v)) H := by
  refine ⟨by unfold sto; rw [List.length_set, List.length_set]; exact r.len, fun j y e => ?_, fun j ys e => ?_, fun j l ys zs a e1 e2 h1 h2 => ?_⟩
  · rcases getS e with ⟨rfl, hy, hl⟩ | ⟨hn, e⟩
    · cases hy
      exact ⟨v, List.getElem?_set_self (by rw [← r.len]; exact hl), h⟩
    · obtain ⟨w, q1, q2⟩ := r.val j y e
      exact ⟨w, by rw [List.getElem?_set_ne hn]; exact q1, q2⟩
  · rcases getS e with ⟨rfl, hy, hl⟩ | ⟨hn, e⟩
    · cases hy
    · obtain ⟨a, vs, q1, q2⟩ := r.own j ys e
      exact ⟨a, vs, by rw [List.getElem?_set_ne hn]; exact q1, q2⟩
  · rcases getS e1 with ⟨rfl, hy, hl⟩ | ⟨hn, e1⟩
    · cases hy
    · rcases getS e2 with ⟨rfl, hy, hl⟩ | ⟨hn2, e2⟩
      · cases hy
      · rw [List.getElem?_set_ne hn] at h1
        rw [List.getElem?_set_ne hn2] at h2
        exact r.dis j l ys zs a e1 e2 h1 h2
theorem Rel.set (r : Rel g env st σ H) {i : Nat} {v : V} {x : Va} (h : RepV g v x) : Rel g (sto env i x) st (σ.set i (some v)) H := ⟨r.c, r.e.set h⟩
/-! ### slots forgotten -/
theorem wipe_get (σ : L2.St) : ∀ (L : List Nat) (j : Nat), (wipe σ L)[j]? = if j ∈ L then (σ[j]?).map fun _ => none else σ[j]?
  | [], j => by simp [wipe]
  | v :: L, j => by
    unfold wipe
    by_cases e : v = j
    · subst e
      rw [if_pos List.mem_cons_self]
      by_cases hl : v < σ.length
      · rw [List.getElem?_set_self (by rw [wipe_length]; exact hl), List.getElem?_eq_getElem hl]; rfl
      · rw [List.getElem?_eq_none (by rw [List.length_set, wipe_length]; omega), List.getElem?_eq_none (by omega)]; rfl
    · rw [List.getElem?_set_ne e, wipe_get σ L j]
      by_cases hm : j ∈ L
      · rw [if_pos hm, if_pos (List.mem_cons_of_mem _ hm)]
      · rw [if_neg hm, if_neg fun q => (List.mem_cons.mp q).elim (fun z => e z.symm) hm]
theorem wipeS_get (env : List Sl) : ∀ (L : List Nat) (j : Nat), (wipeS env L)[j]? = if j ∈ L then (env[j]?).map fun _ => .non else env[j]?
  | [], j => by simp [wipeS]
  | v :: L, j => by
    unfold wipeS
    have hlen : ∀ M : List Nat, (wipeS env M).length = env.length := fun M => by
      induction M with
      | nil => rfl
      | cons a M ih => unfold wipeS; rw [List.length_set, ih]
    by_cases e : v = j
    · subst e
      rw [if_pos List.mem_cons_self]
      by_cases hl : v < env.length
      · rw [List.getElem?_set_self (by rw [hlen]; exact hl), List.getElem?_eq_getElem hl]; rfl
      · rw [List.getElem?_eq_none (by rw [List.length_set, hlen]; omega), List.getElem?_eq_none (by omega)]; rfl
    · rw [List.getElem?_set_ne e, wipeS_get env L j]
      by_cases hm : j ∈ L
      · rw [if_pos hm, if_pos (List.mem_cons_of_mem _ hm)]
      · rw [if_neg hm, if_neg fun q => (List.mem_cons.mp q).elim (fun z => e z.symm) hm]
theorem wipeS_len (env : List Sl) (L : List Nat) : (wipeS env L).length = env.length := by
  induction L with
  | nil => rfl
  | cons a M ih => unfold wipeS; rw [List.length_set, ih]
theorem wipe_set {σ : L2.St} {L : List Nat} {i : Nat} {v : Option V} (h : i ∈ L) : wipe (σ.set i v) L = wipe σ L := by
  refine List.ext_getElem? fun j => ?_
  rw [wipe_get, wipe_get]
  by_cases hm : j ∈ L
  · rw [if_pos hm, if_pos hm]
    by_cases e : i = j
    · subst e
      by_cases hl : i < σ.length
      · rw [List.getElem?_set_self hl, List.getElem?_eq_getElem hl]; rfl
      · rw [List.getElem?_eq_none (by rw [List.length_set]; omega), List.getElem?_eq_none (by omega)]
    · rw [List.getElem?_set_ne e]
  · rw [if_neg hm, if_neg hm, List.getElem?_set_ne (fun (e : i = j) => hm (e ▸ h))]
theorem wipe_twice {σ : L2.St} {L : List Nat} : wipe (wipe σ L) L = wipe σ L := by
  refine List.ext_getElem? fun j => ?_
  rw [wipe_get, wipe_get]
  by_cases hm : j ∈ L
  · rw [if_pos hm, if_pos hm]
    cases σ[j]? <;> rfl
  · rw [if_neg hm]
theorem Rel.wipe (r : Rel g env st σ H) (L : List Nat) : Rel g (wipeS env L) st (L2.wipe σ L) H := by
  have key : ∀ j s, (wipeS env L)[j]? = some s → (j ∉ L ∧ env[j]? = some s) ∨ (j ∈ L ∧ s = .non) := fun j s e => by
    rw [wipeS_get] at e
    by_cases hm : j ∈ L
    · rw [if_pos hm] at e
      obtain ⟨_, _, rfl⟩ := Option.map_eq_some_iff.mp e
      exact .inr ⟨hm, rfl⟩
    · rw [if_neg hm] at e
      exact .inl ⟨hm, e⟩
  have kσ : ∀ j, j ∉ L → (L2.wipe σ L)[j]? = σ[j]? := fun j hm => by rw [wipe_get, if_neg hm]
  refine ⟨r.c, ⟨by rw [wipeS_len, wipe_length]; exact r.e.len, fun j x e => ?_, fun j xs e => ?_, fun i j xs ys a e1 e2 h1 h2 => ?_⟩⟩
  · rcases key j _ e with ⟨hm, e⟩ | ⟨hm, q⟩
    · rw [kσ j hm]; exact r.e.val j x e
    · cases q
  · rcases key j _ e with ⟨hm, e⟩ | ⟨hm, q⟩
    · rw [kσ j hm]; exact r.e.own j xs e
    · cases q
  · rcases key i _ e1 with ⟨hm, e1⟩ | ⟨hm, q⟩
    · rcases key j _ e2 with ⟨hm2, e2⟩ | ⟨hm2, q⟩
      · rw [kσ i hm] at h1
        rw [kσ j hm2] at h2
        exact r.e.dis i j xs ys a e1 e2 h1 h2
      · cases q
    · cases q
/-! ### an object apart -/
structure Apart (g : Gh) (env : List Sl) (σ : L2.St) (p : Addr) : Prop where
  f : g.F p = none
  c : g.C p = none
  m : ∀ n, g.m n ≠ some p
  o : ∀ (i : Nat) (xs : List PyData), env[i]? = some (.own xs) → σ[i]? ≠ some (some (V.ref p))
theorem Rel.new (r : Rel g env st σ H) {p : Addr} (h : H p = none) : Apart g env σ p where
  f := r.c.fh.free h
  c := r.c.ch.free h
  m := fun n e => by
    obtain ⟨o, ho⟩ : ∃ o, st[n]? = some o := ⟨_, List.getElem?_eq_getElem (r.c.dom n p e)⟩
    obtain ⟨a, h1, _, _, h4⟩ := r.c.ob n o ho
    rw [e] at h1; cases h1
    cases o with
    | lst xs => obtain ⟨vs, e', _⟩ := h4; rw [h] at e'; cases e'
    | scr ns => obtain ⟨vs, e'⟩ := h4; rw [h] at e'; cases e'
    | nest ns => obtain ⟨vs, e', _⟩ := h4; rw [h] at e'; cases e'
    | ins => exact h4.elim
  o := fun i xs e q => by
    obtain ⟨a, vs, h1, h2, _⟩ := r.e.own i xs e
    rw [q] at h1; cases h1
    rw [h] at h2; cases h2
theorem Rel.poke (r : Rel g env st σ H) {p : Addr} {o : HO} (a : Apart g env σ p) : Rel g env st σ (upd H p o) := by
  have nf : ∀ b x, g.F b = some x → b ≠ p := fun b x e z => by subst z; rw [a.f] at e; cases e
  have nc : ∀ b x, g.C b = some x → b ≠ p := fun b x e z => by subst z; rw [a.c] at e; cases e
  refine ⟨⟨fun b x e => by rw [upd_ne (nf b x e)]; exact r.c.fh b x e, fun b x e => by rw [upd_ne (nc b x e)]; exact r.c.ch b x e, r.c.cf, fun n x e => ?_, r.c.inj, r.c.dom⟩, ⟨r.e.len, r.e.val, fun i xs e => ?_, r.e.dis⟩⟩
  · obtain ⟨b, h1, h2, h3, h4⟩ := r.c.ob n x e
    have nb : b ≠ p := fun z => a.m n (z ▸ h1)
    exact ⟨b, h1, h2, h3, ObR.mono (g := g) (g' := g) (Same.refl _) (fun _ _ q => q) (fun o' e' => by rw [upd_ne nb]; exact e') h4⟩
  · obtain ⟨b, vs, h1, h2, h3⟩ := r.e.own i xs e
    have nb : b ≠ p := fun z => a.o i xs e (z ▸ h1)
    exact ⟨b, vs, h1, by rw [upd_ne nb]; exact h2, h3⟩
/-- what stood apart is frozen -/
theorem Rel.freeze (r : Rel g env st σ H) {p : Addr} {o : HO} (a : Apart g env σ p) (h : H p = some o) : Rel (g.put p o) env st σ H ∧ g.le (g.put p o) := by
  have le : g.le (g.put p o) := ⟨same_upd a.f, fun _ _ q => q, rfl⟩
  refine ⟨⟨⟨fun b x e => ?_, r.c.ch, fun b x e => ?_, fun n x e => ?_, r.c.inj, r.c.dom⟩, ⟨r.e.len, fun i x e => ?_, fun i xs e => ?_, r.e.dis⟩⟩, le⟩
  · by_cases hb : b = p
    · subst hb
      have e' : upd g.F b o b = some x := e
      rw [upd_same] at e'; cases e'; exact h
    · have e' : upd g.F p o b = some x := e
      rw [upd_ne hb] at e'
      exact r.c.fh b x e'
  · show upd g.F p o b = none
    have e' : g.C b = some x := e
    have nb : b ≠ p := fun z => by subst z; rw [a.c] at e'; cases e'
    rw [upd_ne nb]; exact r.c.cf b x e'
  · obtain ⟨b, h1, h2, h3, h4⟩ := r.c.ob n x e
    have nb : b ≠ p := fun z => a.m n (z ▸ h1)
    refine ⟨b, h1, ?_, h3, ObR.mono (g := g) (g' := g.put p o) le.f (fun _ _ q => q) (fun _ q => q) h4⟩
    show upd g.F p o b = none
    rw [upd_ne nb]; exact h2
  · obtain ⟨v, h1, h2⟩ := r.e.val i x e
    exact ⟨v, h1, h2.mono le⟩
  · obtain ⟨b, vs, h1, h2, h3, h4, h5⟩ := r.e.own i xs e
    have nb : b ≠ p := fun z => a.o i xs e (z ▸ h1)
    refine ⟨b, vs, h1, h2, h3.mono le.f, ?_, h5⟩
    show upd g.F p o b = none
    rw [upd_ne nb]; exact h4
/-- what stands apart is told to stay -/
theorem Rel.guard (r : Rel g env st σ H) {p : Addr} {o : HO} (a : Apart g env σ p) (h : H p = some o) : Rel (g.withC (upd g.C p o)) env st σ H := by
  refine ⟨⟨r.c.fh, fun b x e => ?_, fun b x e => ?_, fun n x e => ?_, r.c.inj, r.c.dom⟩, ⟨r.e.len, fun i x e => ?_, fun i xs e => ?_, r.e.dis⟩⟩
  · by_cases hb : b = p
    · subst hb
      have e' : upd g.C b o b = some x := e
      rw [upd_same] at e'; cases e'; exact h
    · have e' : upd g.C p o b = some x := e
      rw [upd_ne hb] at e'
      exact r.c.ch b x e'
  · by_cases hb : b = p
    · subst hb; exact a.f
    · have e' : upd g.C p o b = some x := e
      rw [upd_ne hb] at e'
      exact r.c.cf b x e'
  · obtain ⟨b, h1, h2, h3, h4⟩ := r.c.ob n x e
    have nb : b ≠ p := fun z => a.m n (z ▸ h1)
    refine ⟨b, h1, h2, ?_, h4.same rfl rfl⟩
    show upd g.C p o b = none
    rw [upd_ne nb]; exact h3
  · obtain ⟨v, h1, h2⟩ := r.e.val i x e
    exact ⟨v, h1, RepV.same (g := g) (g' := g.withC (upd g.C p o)) rfl rfl h2⟩
  · obtain ⟨b, vs, h1, h2, h3, h4, h5, h6⟩ := r.e.own i xs e
    have nb : b ≠ p := fun z => a.o i xs e (z ▸ h1)
    refine ⟨b, vs, h1, h2, h3, h4, ?_, h6⟩
    show upd g.C p o b = none
    rw [upd_ne nb]; exact h5
/-- back from where it was told to stay, the slots L forgotten meanwhile -/
theorem Rel.unguard {g3 : Gh} {env1 : List Sl} {st1 : Stt} {σ1 : L2.St} {H3 : Hp} {p : Addr} {o : HO} {L : List Nat} (r : Rel g env st σ H) (a : Apart g env σ p) (r3 : Rel g3 env1 st1 σ1 H3) (le : (g.withC (upd g.C p o)).le g3)
    (hL : ∀ i ∈ L, isOwn env i = false) (he : ∀ j, j ∉ L → env1[j]? = env[j]?) (hσ : ∀ j, j ∉ L → σ1[j]? = σ[j]?) : Rel (g3.withC g.C) env st1 σ H3 ∧ g.le (g3.withC g.C) ∧ Apart (g3.withC g.C) env σ p ∧ H3 p = some o := by
  have hC : g3.C = upd g.C p o := le.c
  have le1 : g.le (g3.withC g.C) := ⟨le.f, le.m, rfl⟩
  have cc : ∀ b x, g.C b = some x → g3.C b = some x := fun b x e => by
    have nb : b ≠ p := fun z => by subst z; rw [a.c] at e; cases e
    rw [hC, upd_ne nb]; exact e
  have cp : g3.C p = some o := by rw [hC, upd_same]
  have noL : ∀ j xs, env[j]? = some (.own xs) → j ∉ L := fun j xs e hm => by
    have := hL j hm
    unfold isOwn at this
    rw [e] at this
    cases this
  refine ⟨⟨⟨r3.c.fh, fun b x e => r3.c.ch b x (cc b x e), fun b x e => r3.c.cf b x (cc b x e), fun n x e => ?_, r3.c.inj, r3.c.dom⟩, ⟨r.e.len, fun i x e => ?_, fun i xs e => ?_, r.e.dis⟩⟩, le1, ⟨r3.c.cf _ _ cp, a.c, fun n e => ?_, a.o⟩, r3.c.ch _ _ cp⟩
  · obtain ⟨b, h1, h2, h3, h4⟩ := r3.c.ob n x e
    refine ⟨b, h1, h2, ?_, h4.same rfl rfl⟩
    show g.C b = none
    cases q : g.C b with
    | none => rfl
    | some z => rw [cc b z q] at h3; cases h3
  · obtain ⟨v, h1, h2⟩ := r.e.val i x e
    exact ⟨v, h1, h2.mono le1⟩
  · have hn := noL i xs e
    obtain ⟨b, vs, h1, h2, h3, h4, h5, h6⟩ := r3.e.own i xs (by rw [he i hn]; exact e)
    rw [hσ i hn] at h1
    obtain ⟨b', vs', q1, q2, q3, q4, q5, q6⟩ := r.e.own i xs e
    rw [h1] at q1; cases q1
    exact ⟨b, vs, h1, h2, h3, h4, q5, h6⟩
  · rw [(r3.c.storeC e).1] at cp; cases cp
end
/-! ### targets -/
def gNs : List Nat → TGs
  | [] => gNil
  | i :: r => gCons (gName i) (gNs r)
def gTg (K : PySem.W.Frag) : Tg → TG
  | .n _ i _ => gName i
  | .t xs _ _ => gTup K xs.length (gNs (xs.map (·.2.1)))
section
variable {nm : Nat → Option Str} {cf : Nat → List Va → Stt → R Va} {k : Nat} {bk : Option Scope} {W : WX} {X : Cx}
theorem pg_n (c : Ctx nm cf k bk W X) {x : Str} {i p : Nat} (h : wfN X.N X.env.scope bk x i = true) : PG X (.Name x (ps p)) (gName i) := by
  unfold wfN at h
  rw [Bool.and_eq_true, decide_eq_true_eq] at h
  have hl := h.2
  unfold locB at hl
  refine pg_name c.nd h.1 ?_ ?_
  · split at hl
    · exact .inl (by assumption)
    · exact .inr (by assumption)
    · cases hl
  · split at hl
    · exact .inr (by assumption)
    · exact .inl (c.fnb x hl)
    · cases hl
theorem pg_ns (c : Ctx nm cf k bk W X) : ∀ (xs : List (Str × Nat × Nat)), (xs.all fun y => wfN X.N X.env.scope bk y.1 y.2.1) = true → PGs X (xs.map fun y => .Name y.1 (ps y.2.2)) (gNs (xs.map (·.2.1)))
  | [], _ => pgs_nil
  | y :: r, h => by
    rw [List.all_cons, Bool.and_eq_true] at h
    exact pgs_cons (pg_n c h.1) (pg_ns c r h.2) rfl
theorem names_len (env : Env) : ∀ (xs : List (Str × Nat × Nat)), (assignEach (xs.map fun y => Expr.Name y.1 (ps y.2.2)) env).length = xs.length ∧ (assignEach (xs.map fun y => Expr.Name y.1 (ps y.2.2)) env).findIdx? (·.1) = none
  | [] => ⟨rfl, rfl⟩
  | y :: r => by
    obtain ⟨h1, h2⟩ := names_len env r
    have e : assignEach ((y :: r).map fun y => Expr.Name y.1 (ps y.2.2)) env = (false, assign (.Name y.1 (ps y.2.2)) env) :: assignEach (r.map fun y => Expr.Name y.1 (ps y.2.2)) env := rfl
    rw [e]
    refine ⟨by rw [List.length_cons, h1]; rfl, ?_⟩
    rw [List.findIdx?_cons, h2]
    rfl
theorem pg_tg (c : Ctx nm cf k bk W X) (tg : Tg) (h : wfT X.N X.env.scope bk tg = true) : PG X tg.py (gTg X.K tg) := by
  cases tg with
  | n x i p => exact pg_n c h
  | t xs q p => exact pg_tup c.calm (pg_ns c xs h) (names_len X.env xs).1 (names_len X.env xs).2
end
section
variable {g : Gh} {env : List Sl} {st : Stt} {σ : L2.St} {H : Hp}
/-- the slots outside L stay -/
def OutL (L : List Nat) (env env' : List Sl) (σ σ' : L2.St) : Prop := (∀ j, j ∉ L → env'[j]? = env[j]?) ∧ (∀ j, j ∉ L → σ'[j]? = σ[j]?) ∧ L2.wipe σ' L = L2.wipe σ L
theorem OutL.refl (L : List Nat) (env : List Sl) (σ : L2.St) : OutL L env env σ σ := ⟨fun _ _ => rfl, fun _ _ => rfl, rfl⟩
theorem OutL.trans {L : List Nat} {e1 e2 e3 : List Sl} {s1 s2 s3 : L2.St} (a : OutL L e1 e2 s1 s2) (b : OutL L e2 e3 s2 s3) : OutL L e1 e3 s1 s3 :=
  ⟨fun j h => (b.1 j h).trans (a.1 j h), fun j h => (b.2.1 j h).trans (a.2.1 j h), b.2.2.trans a.2.2⟩
theorem OutL.set {L : List Nat} {i : Nat} {x : Va} {v : V} (h : i ∈ L) : OutL L env (sto env i x) σ (σ.set i (some v)) :=
  ⟨fun j hj => List.getElem?_set_ne fun (e : i = j) => hj (e ▸ h), fun j hj => List.getElem?_set_ne fun (e : i = j) => hj (e ▸ h), wipe_set h⟩
theorem ns_store {L : List Nat} {Q : L2.St → Hp → Prop} : ∀ {xs : List (Str × Nat × Nat)} {vs : List V} {ys : List PyData} {env : List Sl} {σ : L2.St}, Rel g env st σ H → RpAll g.F vs ys → xs.length = ys.length → (∀ i ∈ xs.map (·.2.1), i ∈ L) →
    (∀ σ2, Rel g ((xs.zip ys).foldl (fun e q => sto e q.1.2.1 (.d q.2)) env) st σ2 H → OutL L env ((xs.zip ys).foldl (fun e q => sto e q.1.2.1 (.d q.2)) env) σ σ2 → Q σ2 H) → gNs (xs.map (·.2.1)) vs σ H Q
  | [], _, _, env, σ, r, .nil, _, _, q => ⟨rfl, q σ r (.refl L env σ)⟩
  | [], _, _, env, σ, r, .cons _ _, hl, _, q => by simp at hl
  | x :: xs, _, _, env, σ, r, .nil, hl, _, q => by simp at hl
  | x :: xs, _, _, env, σ, r, .cons (v := v) (vs := vs) (d := y) (ds := ys) rv t, hl, hL, q => by
    refine ⟨_, _, rfl, ns_store (r.set (i := x.2.1) (x := .d y) rv) t (by simpa using hl) (fun i hi => hL i (List.mem_cons_of_mem _ hi)) fun σ2 r2 o2 => ?_⟩
    exact q σ2 r2 ((OutL.set (hL _ List.mem_cons_self)).trans o2)
theorem tg_store {K : PySem.W.Frag} {L : List Nat} {tg : Tg} {v : V} {x : PyData} {env' : List Sl} {H' : Hp} {Q : L2.St → Hp → Prop} (r : Rel g env st σ H) (y : Yl g.F H H' v x) (hp : tg.isT = true ∨ (H' = H ∧ Rp g.F v x)) (e : stoT env tg x = some env') (hL : ∀ i ∈ tg.slots, i ∈ L)
    (q : ∀ σ2, Rel g env' st σ2 H' → OutL L env env' σ σ2 → Q σ2 H') : gTg K tg v σ H' Q := by
  cases tg with
  | n z i p =>
    rcases hp with hp | ⟨rfl, hr⟩
    · cases hp
    · simp only [stoT] at e
      cases e
      exact q _ (r.set hr) (.set (hL i (by simp [Tg.slots])))
  | t xs j p =>
    cases x with
    | tuple ys =>
      simp only [stoT] at e
      split at e
      · rename_i hl
        cases e
        rcases y with ⟨rfl, hr⟩ | ⟨T, a, b, c, d, rfl, hT, rfl, he, ra, rb⟩
        · cases hr with | tup e1 n1 r1 =>
          exact ⟨_, _, rfl, sqT r.c.fh e1, by rw [r1.length]; exact hl.symm, ns_store r r1 hl hL q⟩
        · cases he
          exact ⟨T, _, rfl, .inl (.inl upd_same), by simpa using hl.symm, ns_store (r.junk hT) (.cons ra (.cons rb .nil)) hl hL q⟩
      · cases e
    | _ => simp [stoT] at e
end
end Bz
/-! Soundness: comprehensions; all expressions. -/
namespace Bz
open PySem PySem.Spec PyProof.Rows L2
section
variable {nm : Nat → Option Str} {cf : Nat → List Va → Stt → R Va} {k : Nat} {bk : Option Scope} {W : WX} {X : Cx}
abbrev W0 : WX := fun _ _ _ _ => False
theorem ctx_blk (c : Ctx nm cf k bk W X) (s : Shared) (H : Hp) (sc : Scope) (C : Addr) (cl : List (Str × Addr)) (fp : List Addr) : Ctx nm cf k (some sc) W0 (X.blk s H sc (compEnvC sc cl C X.env) fp) where
  nd := c.nd
  calm := c.calm
  tk := takes0
  own := PassesOwn.never
  room := c.room
  bl := c.bl
  fnb := fun x h => h
  xa := c.xa
  stk := fun h => nomatch h
  frm := fun h => nomatch h
  fn := c.fn
theorem noexc_bind {mg : Str → Option Value} {g : Gh} {env : List Sl} {σ : L2.St} {α β : Type} {r : R α} {K : α → Stt → R β} {P : β → Stt → Gh → Hp → Prop} (o : Out mg W g env σ ((noexc r).bind K) P) : ∃ a st, r = .ok a st ∧ Out mg W g env σ (K a st) P := by
  cases r with
  | ok a st => exact ⟨a, st, rfl, o⟩
  | exc c st => exact o.elim
  | stuck => exact o.elim
/-- the tests of a comprehension -/
theorem sts (ifs : Oe) (h : ∀ a, ifs = .e a → a.isIf = false → ST nm cf a) : ∀ (k : Nat) (bk : Option Scope) (W : WX) (X : Cx), Ctx nm cf k bk W X → wfO nm X.N X.env.scope bk ifs = true → ifs.isIf = false → PTs X ifs.pyl (tT X.mg W fun env st => evt cf ifs env st) := fun k bk W X c hw hi => by
  cases ifs with
  | non =>
    refine ⟨fun pins s σ H Q I q => ?_⟩
    obtain ⟨g, env, st, rel, out⟩ := q
    exact pts_nil.run pins s σ H Q I (out.here rel)
  | e a => exact pts_one (h a rfl hi k bk W X c hw)
theorem fsi {it : It} (env : Env) : ∀ x, foldedSetIterable it.py env x = pure x := by
  intro x
  cases it with
  | e a => cases a <;> rfl
  | _ => rfl
theorem lc_imp {elt : E} {tg : Tg} {it : It} {ifs : Oe} {sc : Scope} {own : List (Str × Nat)} {p : Nat} (hpr : it.pairs = true → tg.isT = true) (hL : ∀ i ∈ tg.slots, i ∈ own.map (·.2)) (σ : L2.St) (H : Hp) (Q : VK)
    (hq : tR X.mg W (ev cf (.lc elt tg it ifs sc own p)) σ H Q) : tLc (tI X.mg W it.pairs (evi cf it)) (gTg X.K tg) (tT X.mg W0 fun env st => evt cf ifs env st) (tR X.mg W0 (ev cf elt)) (own.map (·.2)) σ H Q := by
  obtain ⟨g, env, st, rel, out⟩ := hq
  refine ⟨g, env, st, rel, (Out.bind out).imp ?_⟩
  clear out
  intro xs st0 g0 H0 rel0 le0 o0 J wk D hD
  split at o0
  · exact o0.elim
  rename_i hown
  have hown' : ∀ i ∈ own.map (·.2), isOwn env i = false := fun i hm => by
    cases q : isOwn env i with
    | false => rfl
    | true => exact absurd (List.any_eq_true.mpr ⟨i, hm, q⟩) hown
  refine ⟨fun i m H1 => ∃ g1 st1 acc accV, Rel g1 env st1 σ H1 ∧ Same g0.F g1.F ∧ H1 D = some (.lst accV) ∧ RpAll g1.F accV acc ∧ Apart g1 env σ D ∧ i ≤ xs.length ∧ m = xs.length - i ∧
    Out X.mg W g1 env σ (lcLoop tg (own.map (·.2)) (fun env st => evt cf ifs env st) (fun env st => ev cf elt env st) env (xs.drop i) acc st1) fun x _ g' H' => ∀ v, RepV g' v x → Q v H', ?_, ?_⟩
  · exact ⟨_, g0, st0, [], [], rel0.poke (rel0.new hD), Same.refl _, upd_same, .nil, rel0.new hD, Nat.zero_le _, rfl, o0⟩
  · rintro i m H1 ⟨g1, st1, acc, accV, rel1, f1, hD1, ra, ap, hi1, rfl, o1⟩
    by_cases hlt : i < xs.length
    · have hx : xs[i]? = some xs[i] := List.getElem?_eq_getElem hlt
      rw [List.drop_eq_getElem_cons hlt] at o1
      obtain ⟨go, yl⟩ := wk.go i xs[i] g1.F H1 f1 rel1.c.fh hx
      refine .inr ⟨go, fun H' => ∃ g2 st2 acc2 accV2, Rel g2 env st2 σ H' ∧ Same g0.F g2.F ∧ H' D = some (.lst accV2) ∧ RpAll g2.F accV2 acc2 ∧ Apart g2 env σ D ∧ i + 1 ≤ xs.length ∧
        Out X.mg W g2 env σ (lcLoop tg (own.map (·.2)) (fun env st => evt cf ifs env st) (fun env st => ev cf elt env st) env (xs.drop (i + 1)) acc2 st2) fun x _ g' H' => ∀ v, RepV g' v x → Q v H', ?_, ?_⟩
      · rintro H' ⟨g2, st2, acc2, accV2, a1, a2, a3, a4, a5, a6, a7⟩
        exact ⟨xs.length - (i + 1), by omega, g2, st2, acc2, accV2, a1, a2, a3, a4, a5, a6, rfl, a7⟩
      intro v H' hy
      obtain ⟨y1, y2⟩ := yl v H' hy
      unfold lcLoop at o1
      split at o1
      · exact o1.elim
      rename_i env1 hst
      obtain ⟨b, st2, hb, o2⟩ := noexc_bind o1
      have relG := (rel1.guard ap hD1).wipe (own.map (·.2))
      refine tg_store (L := own.map (·.2)) relG y1 ?_ hst hL fun σ2 rel2 ol => ?_
      · cases q : it.pairs with
        | true => exact .inl (hpr q)
        | false => exact .inr (y2 q)
      obtain ⟨ol1, ol2, ol3⟩ := ol
      have ee : ∀ j, j ∉ own.map (·.2) → env1[j]? = env[j]? := fun j hj => by rw [ol1 j hj, wipeS_get, if_neg hj]
      have es : ∀ j, j ∉ own.map (·.2) → σ2[j]? = σ[j]? := fun j hj => by rw [ol2 j hj, wipe_get, if_neg hj]
      refine ⟨by rw [ol3, wipe_twice], _, env1, st1, rel2, ?_⟩
      show Out X.mg W0 _ env1 σ2 (evt cf ifs env1 st1) _
      rw [hb]
      intro H3 g3 rel3 le3
      cases b with
      | false =>
        obtain ⟨r4, l4, a4, d4⟩ := rel1.unguard ap rel3 le3 hown' ee es
        exact ⟨_, st2, acc, accV, r4, f1.trans l4.f, d4, ra.mono l4.f, a4, hlt, Out.up l4 o2⟩
      | true =>
        obtain ⟨y, st3, hy3, o3⟩ := noexc_bind o2
        refine ⟨g3, env1, st2, rel3, ?_⟩
        show Out X.mg W0 _ env1 σ2 (ev cf elt env1 st2) _
        rw [hy3]
        intro H5 g5 rel5 le5 w hw
        split at o3
        · rename_i z
          split at o3
          · rename_i hlen
            obtain ⟨r6, l6, a6, d6⟩ := rel1.unguard ap rel5 (le3.trans le5) hown' ee es
            refine ⟨accV, d6, by rw [ra.length, ← szl_eq]; exact hlen, _, st3, acc ++ [z], accV ++ [w], r6.poke a6, f1.trans l6.f, upd_same, (ra.mono l6.f).append (.cons hw .nil), a6, hlt, Out.up l6 o3⟩
          · exact o3.elim
        · exact o3.elim
    · have e : i = xs.length := by omega
      subst e
      rw [List.drop_length] at o1
      refine .inl ⟨wk.stop g1.F H1 f1 rel1.c.fh, ?_⟩
      obtain ⟨r2, l2⟩ := rel1.freeze ap hD1
      exact o1 _ _ r2 l2 _ (.lst put_at (ra.mono l2.f))
theorem se_lc {elt : E} {tg : Tg} {it : It} {ifs : Oe} {sc : Scope} {own : List (Str × Nat)} {p : Nat} (he : SE nm cf elt) (hi : SI nm cf it) (ht : ∀ a, ifs = .e a → a.isIf = false → ST nm cf a) : SE nm cf (.lc elt tg it ifs sc own p) := fun k bk W X c hw => by
  simp only [wfE, Bool.and_eq_true, Bool.not_eq_true'] at hw
  obtain ⟨⟨⟨⟨⟨⟨⟨w1, w2⟩, w3⟩, w4⟩, w5⟩, w6⟩, w7⟩, w8⟩ := hw
  have hpr : it.pairs = true → tg.isT = true := fun q => by simpa [q] using w3
  have hL : ∀ i ∈ tg.slots, i ∈ own.map (·.2) := fun i hm => by
    have := List.all_eq_true.mp w5 i hm
    simpa using this
  refine (pe_lc (g := gTg X.K tg) (tt := tT X.mg W0 fun env st => evt cf ifs env st) (te := tR X.mg W0 (ev cf elt)) c.calm c.nd (hi k bk W X tg c w2 hpr) (blkOk_by w1)
    (fun s H C cl fp => pg_tg (ctx_blk c s H sc C cl fp) tg w4)
    (fun s H C cl fp => sts ifs ht k _ W0 _ (ctx_blk c s H sc C cl fp) w6 w7)
    (fun s H C cl fp => he k _ W0 _ (ctx_blk c s H sc C cl fp) w8) (fsi X.env)).impB (lc_imp hpr hL)
/-! ### all of them -/
mutual
theorem sound (nm : Nat → Option Str) (cf : Nat → List Va → Stt → R Va) : (e : E) → SE nm cf e ∧ (e.isIf = false → ST nm cf e)
  | .k c j p => ⟨se_k c j p, fun _ => st_plain _ (se_k c j p) rfl⟩
  | .var x i p => ⟨se_var x i p, fun _ => st_plain _ (se_var x i p) rfl⟩
  | .bin op a b p => have h := se_bin (sound nm cf a).1 (sound nm cf b).1; ⟨h, fun _ => st_plain _ h rfl⟩
  | .neg a p => have h := se_neg (sound nm cf a).1; ⟨h, fun _ => st_plain _ h rfl⟩
  | .not a p => ⟨se_not (sound nm cf a).1, fun _ => st_not (sound nm cf a).2⟩
  | .bo an a es p => ⟨se_bo (sound nm cf a).1 (sounds nm cf es), fun _ => st_bo (sound nm cf a).2 (sounds nm cf es)⟩
  | .cmp op a b p => ⟨se_cmp (sound nm cf a).1 (sound nm cf b).1, fun _ => st_cmp (sound nm cf a).1 (sound nm cf b).1⟩
  | .cmp2 o1 o2 a b c p => ⟨se_cmp2 (sound nm cf a).1 (sound nm cf b).1 (sound nm cf c).1, fun _ => st_cmp2 (sound nm cf a).1 (sound nm cf b).1 (sound nm cf c).1⟩
  | .ife c a b p => ⟨se_ife (sound nm cf c).2 (sound nm cf a).1 (sound nm cf b).1, fun h => nomatch h⟩
  | .tup es j p => have h := se_tup (sounds nm cf es); ⟨h, fun _ => st_plain _ h rfl⟩
  | .lst es p => have h := se_lst (sounds nm cf es); ⟨h, fun _ => st_plain _ h rfl⟩
  | .ix a b p => have h := se_ix (sound nm cf a).1 (sound nm cf b).1; ⟨h, fun _ => st_plain _ h rfl⟩
  | .sl a lo hi p p2 => have h := se_sl (sound nm cf a).1 (fun x e => (soundo nm cf lo x e).1) (fun x e => (soundo nm cf hi x e).1); ⟨h, fun _ => st_plain _ h rfl⟩
  | .call x f es p pn => have h := se_call (sounds nm cf es); ⟨h, fun _ => st_plain _ h rfl⟩
  | .bi f es p pn => have h := se_bi (sounds nm cf es); ⟨h, fun _ => st_plain _ h rfl⟩
  | .me m o e p pa => have h := se_me (sound nm cf o).1 (sound nm cf e).1; ⟨h, fun _ => st_plain _ h rfl⟩
  | .isi a t p pn pt => have h := se_isi (sound nm cf a).1; ⟨h, fun _ => st_plain _ h rfl⟩
  | .rng tp a b p pn p2 pn2 => have h := se_rng (sound nm cf a).1 (sound nm cf b).1; ⟨h, fun _ => st_plain _ h rfl⟩
  | .lc elt tg it ifs sc own p => have h := se_lc (sound nm cf elt).1 (soundi nm cf it) (fun a e => (soundo nm cf ifs a e).2); ⟨h, fun _ => st_plain _ h rfl⟩
  | .oix x i b p px => have h := se_oix (sound nm cf b).1; ⟨h, fun _ => st_plain _ h rfl⟩
  | .sset a p pn p2 pn2 => have h := se_sset (sound nm cf a).1; ⟨h, fun _ => st_plain _ h rfl⟩
  | .sumr a b p pn p2 pn2 => have h := se_sumr (sound nm cf a).1 (sound nm cf b).1; ⟨h, fun _ => st_plain _ h rfl⟩
  | .rv a j q1 q2 q3 p => have h := se_rv (sound nm cf a).1; ⟨h, fun _ => st_plain _ h rfl⟩
  | .stp a lo hi d j q1 q3 p => have h := se_stp (sound nm cf a).1 (fun x e => (soundo nm cf lo x e).1) (fun x e => (soundo nm cf hi x e).1); ⟨h, fun _ => st_plain _ h rfl⟩
theorem soundi (nm : Nat → Option Str) (cf : Nat → List Va → Stt → R Va) : (it : It) → SI nm cf it
  | .e a => si_e (sound nm cf a).1
  | .r1 a p pn => si_r1 (sound nm cf a).1
  | .r2 a b p pn => si_r2 (sound nm cf a).1 (sound nm cf b).1
  | .en a p pn => si_en (sound nm cf a).1
  | .zp a b p pn => si_zp (sound nm cf a).1 (sound nm cf b).1
theorem soundo (nm : Nat → Option Str) (cf : Nat → List Va → Stt → R Va) : (o : Oe) → ∀ a, o = .e a → SE nm cf a ∧ (a.isIf = false → ST nm cf a)
  | .non, _, h => nomatch h
  | .e a, _, rfl => sound nm cf a
theorem sounds (nm : Nat → Option Str) (cf : Nat → List Va → Stt → R Va) : (es : Es) → SEs nm cf es
  | .nil => trivial
  | .cons a r => ⟨(sound nm cf a).1, (sound nm cf a).2, sounds nm cf r⟩
end
end
end Bz
/-! Soundness: statements. -/
namespace Bz
open PySem PySem.Spec PyProof.Rows L2
section
variable (mg : Str → Option Value) (W : WX)
def OutS (g : Gh) (r : R Fl) (D : Ends) : Prop := match r with
  | .ok (.nx env) st => ∀ σ' H' g', Rel g' env st σ' H' → g.le g' → D.nx σ' H'
  | .ok (.rt x) st => ∀ v H' g', RelC g' st H' → g.le g' → RepV g' v x → D.rt v H'
  | .exc c st => ∀ cls d σ' H' g', RelC g' st H' → g.le g' → mg c = some cls → W cls d σ' H'
  | .stuck => False
def tS (f : List Sl → Stt → R Fl) : TS := fun D σ H => ∃ g env st, Rel g env st σ H ∧ OutS mg W g (f env st) D
end
def cont (f : List Sl → Stt → R Fl) : Fl → Stt → R Fl
  | .nx env, st => f env st
  | .rt v, st => .ok (.rt v) st
section
variable {mg : Str → Option Value} {W : WX} {g : Gh} {env : List Sl} {σ : L2.St} {α : Type}
theorem OutS.up {r : R Fl} {D : Ends} {g' : Gh} (le : g.le g') (o : OutS mg W g r D) : OutS mg W g' r D := by
  match r, o with
  | .ok (.nx env) st, o => exact fun σ' H' g'' rel le' => o σ' H' g'' rel (le.trans le')
  | .ok (.rt x) st, o => exact fun v H' g'' rel le' => o v H' g'' rel (le.trans le')
  | .exc c st, o => exact fun cls d σ' H' g'' rel le' => o cls d σ' H' g'' rel (le.trans le')
theorem OutS.bind {r : R α} {k : α → Stt → R Fl} {D : Ends} (o : OutS mg W g (r.bind k) D) : Out mg W g env σ r fun x st g' _ => OutS mg W g' (k x st) D := by
  cases r with
  | ok x st => exact fun H' g' rel le => OutS.up le o
  | exc c st => exact fun cls d H' g' rel le hm => o cls d σ H' g' rel.c le hm
  | stuck => exact o
theorem OutS.seq {r : R Fl} {f : List Sl → Stt → R Fl} {D : Ends} (o : OutS mg W g (r.bind (cont f)) D) : OutS mg W g r { D with nx := tS mg W f D } := by
  match r, o with
  | .ok (.nx env) st, o => exact fun σ' H' g' rel le => ⟨g', env, st, rel, OutS.up le o⟩
  | .ok (.rt x) st, o => exact o
  | .exc c st, o => exact o
theorem OutS.nx {st : Stt} {H : Hp} {D : Ends} (rel : Rel g env st σ H) (o : OutS mg W g (.ok (.nx env) st) D) : D.nx σ H := o σ H g rel (.refl g)
theorem OutS.lift {β : Type} {e : Option Fl} {st : Stt} {D : Ends} (o : OutS mg W g (Bz.lift e st) D) : ∃ z, e = Option.some z ∧ OutS mg W g (R.ok z st) D := by
  cases e with
  | none => exact False.elim o
  | some z => exact ⟨z, rfl, o⟩
end
theorem _root_.L2.PS.impB {X : Cx} {e : Stmt} {t t' : TS} (h : PS X e t) (k : ∀ D σ H, t' D σ H → t D σ H) : PS X e t' := ⟨fun pins s σ H D I q => h.run pins s σ H D I (k D σ H q)⟩
theorem _root_.L2.PSs.impB {X : Cx} {e : List Stmt} {t t' : TS} (h : PSs X e t) (k : ∀ D σ H, t' D σ H → t D σ H) : PSs X e t' := ⟨fun pins s σ H D I q => h.run pins s σ H D I (k D σ H q)⟩
section
variable (nm : Nat → Option Str) (cf : Nat → List Va → Stt → R Va)
def SP1 (a : S) (st : Stmt) : Prop := ∀ (k : Nat) (W : WX) (X : Cx), Ctx nm cf k none W X → wfS nm X.N X.env.scope a = true → PS X st (tS X.mg W (ex cf a))
def SSt (a : S) : Prop := ∀ (k : Nat) (W : WX) (X : Cx) (rest : List Stmt) (f : List Sl → Stt → R Fl), Ctx nm cf k none W X → wfS nm X.N X.env.scope a = true → PSs X rest (tS X.mg W f) → PSs X (a.py ++ rest) (tS X.mg W fun env st => (ex cf a env st).bind (cont f))
def SSs (a : Ss) : Prop := ∀ (k : Nat) (W : WX) (X : Cx), Ctx nm cf k none W X → wfSs nm X.N X.env.scope a = true → PSs X a.py (tS X.mg W (exs cf a))
end
section
variable {nm : Nat → Option Str} {cf : Nat → List Va → Stt → R Va} {k : Nat} {W : WX} {X : Cx}
theorem ss_of {a : S} {s : Stmt} (e : a.py = [s]) (h : SP1 nm cf a s) : SSt nm cf a := fun k W X rest f c hw hr => by
  rw [e]
  refine (pss_cons (h k W X c hw) hr).impB ?_
  rintro D σ H ⟨g, env, st, rel, out⟩
  exact ⟨g, env, st, rel, out.seq⟩
theorem sw_no {e : E} (h : e.isLc = false) (t : Option Expr) (l : Nat) (env : Env) : swapsWith e.py t l env = pure false := by
  cases e <;> first | (cases h; done) | (cases t <;> rfl)
theorem bk_of (hk : X.env.scope.kind = .function) : X.env.blockKind = .function := by
  unfold Env.blockKind
  rw [hk]; rfl
theorem sw_cell {elt : Expr} {gs : List Comprehension} {scp : Scope} {pos py : Pos} {x : Str} {l : Nat} (h : locK X.env.scope x = false) : swapsWith (.ListComp elt gs scp pos) (some (.Name x py)) l X.env = pure false := by
  have hk : (X.env.kindOf x == some NameKind.local) = false := by
    unfold locK at h
    show (X.env.scope.names.lookup x == some NameKind.local) = false
    split at h
    · cases h
    · rename_i q
      cases e : X.env.scope.names.lookup x with
      | none => rfl
      | some z => cases z <;> first | rfl | exact absurd e q
  show (pure (X.env.blockKind == .function && X.env.kindOf x == some .local && py.line == pos.line && !(scp.names.any fun (n, k) => n == x && (k == .local || k == .cell))) : Sem Bool) = pure false
  rw [hk]
  simp
theorem locN (c : Ctx nm cf k none W X) {x : Str} {i : Nat} (h : wfN X.N X.env.scope none x i = true) : X.N[i]? = some x ∧ Loc X.env.scope x ∧ (X.fn x = true ∨ X.env.scope.names.lookup x = some .local) := by
  unfold wfN at h
  rw [Bool.and_eq_true, decide_eq_true_eq] at h
  have hl := h.2
  unfold locB at hl
  refine ⟨h.1, ?_, .inl (c.fnb x rfl)⟩
  split at hl
  · exact .inl (by assumption)
  · exact .inr (by assumption)
  · cases hl
theorem asg_imp {e : E} {i : Nat} (D : Ends) (σ : L2.St) (H : Hp) (h : tS X.mg W (fun env st => (ev cf e env st).bind fun x st => .ok (.nx (sto env i x)) st) D σ H) : tAsg (tR X.mg W (ev cf e)) (gName i) D σ H := by
  obtain ⟨g, env, st, rel, out⟩ := h
  refine ⟨g, env, st, rel, (OutS.bind out).imp ?_⟩
  intro x st1 g1 H1 rel1 le1 o1 v hv
  exact o1.nx (rel1.set hv)
theorem sp_set {x : Str} {i : Nat} {e : E} {p px : Nat} : SP1 nm cf (.set x i e p px) (.Assign [.Name x (ps px)] e.py (ps p)) := fun k W X c hw => by
  simp only [wfS, Bool.and_eq_true] at hw
  obtain ⟨⟨w1, w2⟩, w3⟩ := hw
  obtain ⟨l1, l2, l3⟩ := locN c w1
  have he := (sound nm cf e).1 k none W X c w2
  by_cases hl : e.isLc = true
  · cases e with
    | lc elt tg it ifs sc own p1 =>
      unfold swapW at w3
      rw [Bool.or_eq_true] at w3
      by_cases hk : locK X.env.scope x = true
      · rcases w3 with w3 | w3
        · simp only [Bool.and_eq_true] at w3
          simp only [wfE, Bool.and_eq_true, Bool.not_eq_true'] at w2
          obtain ⟨⟨⟨⟨⟨⟨⟨v1, v2⟩, v3⟩, v4⟩, v5⟩, v6⟩, v7⟩, v8⟩ := w2
          have hpr : it.pairs = true → tg.isT = true := fun q => by simpa [q] using v3
          have hL : ∀ i ∈ tg.slots, i ∈ own.map (·.2) := fun i hm => by
            have := List.all_eq_true.mp v5 i hm
            simpa using this
          have hloc : X.env.scope.names.lookup x = some .local := by
            unfold locK at hk
            split at hk
            · assumption
            · cases hk
          refine ⟨fun pins s σ H D I q => ?_⟩
          have sw : swapsWith (.ListComp elt.py [⟨tg.py, it.py, ifs.pyl, 0⟩] sc (ps p1)) (some (.Name x (ps px))) (ps p).line X.env = pure true := sw_true I.ok.kind hloc w3.1.2 (by simpa using w3.2)
          refine (ps_setLc (g := gTg X.K tg) (tt := tT X.mg W0 fun env st => evt cf ifs env st) (te := tR X.mg W0 (ev cf elt)) c.calm c.nd l1 hloc sw (soundi nm cf it k none W X tg c v2 hpr) (blkOk_by v1)
            (fun s H C cl fp => pg_tg (ctx_blk c s H sc C cl fp) tg v4) (fun s H C cl fp => sts ifs (fun a e => (soundo nm cf ifs a e).2) k _ W0 _ (ctx_blk c s H sc C cl fp) v6 v7)
            (fun s H C cl fp => (sound nm cf elt).1 k _ W0 _ (ctx_blk c s H sc C cl fp) v8) (fsi X.env)).run pins s σ H D I ?_
          exact lc_imp hpr hL σ H _ (asg_imp D σ H q)
        · rw [hk] at w3; cases w3
      · have hk' : locK X.env.scope x = false := by simpa using hk
        exact (ps_set c.nd l1 l2 he (sw_cell hk') l3).impB asg_imp
    | _ => cases hl
  · exact (ps_set c.nd l1 l2 he (sw_no (by simpa using hl) _ _ _) l3).impB asg_imp
/-! ### lists made anew -/
theorem Out.guard {mg : Str → Option Value} {g : Gh} {env : List Sl} {σ : L2.St} {st : Stt} {H : Hp} {α : Type} {r : R α} {P : α → Stt → Gh → Hp → Prop} {p : Addr} {o : HO} (q : Out mg W g env σ r P) (rel : Rel g env st σ H) (a : Apart g env σ p) :
    Out mg W (g.withC (upd g.C p o)) env σ r fun x st' g' H' => P x st' (g'.withC g.C) H' ∧ Rel (g'.withC g.C) env st' σ H' ∧ g.le (g'.withC g.C) ∧ Apart (g'.withC g.C) env σ p ∧ H' p = some o := by
  cases r with
  | ok x st1 =>
    intro H' g' rel' le'
    obtain ⟨r1, l1, a1, h1⟩ := rel.unguard (L := []) a rel' le' (fun i h => nomatch h) (fun _ _ => rfl) (fun _ _ => rfl)
    exact ⟨q H' _ r1 l1, r1, l1, a1, h1⟩
  | exc c st1 =>
    intro cls d H' g' rel' le' hm
    obtain ⟨r1, l1, a1, h1⟩ := rel.unguard (L := []) a rel' le' (fun i h => nomatch h) (fun _ _ => rfl) (fun _ _ => rfl)
    exact q cls d H' _ r1 l1 hm
  | stuck => exact q
def tF (mg : Str → Option Value) (W : WX) (f : List Sl → Stt → R (List PyData)) : TE := fun σ H Q => ∃ g env st, Rel g env st σ H ∧ Out mg W g env σ (f env st) fun xs _ g' H' => ∀ p vs, H' p = none → RpAll g'.F vs xs → Q (.ref p) (upd H' p (.lst vs))
theorem sf (fe : FE) : ∀ (k : Nat) (W : WX) (X : Cx), Ctx nm cf k none W X → wfF nm X.N X.env.scope fe = true → PE X fe.py (tF X.mg W (evf cf fe)) := by
  induction fe with
  | lst es p =>
    intro k W X c hw
    simp only [wfF, Bool.and_eq_true, decide_eq_true_eq] at hw
    refine (pe_lst (sa es (sounds nm cf es) k none W X c hw.1)).impB ?_
    rintro σ H Q ⟨g, env, st, rel, out⟩
    refine ⟨g, env, st, rel, ((Out.bind out).and (C := fun xs => xs.length = es.len) fun x st e => evs_len e).imp ?_⟩
    rintro xs st1 g1 H1 rel1 le1 ⟨hl, o1⟩ vs hvs
    obtain ⟨ds, e2, o2⟩ := o1.lift
    exact ⟨by rw [hvs.length, hl]; exact small_sz hw.2, fun p hp => o2.here rel1 p vs hp (hvs.dats e2)⟩
  | mul es pl b p =>
    intro k W X c hw
    simp only [wfF, Bool.and_eq_true, decide_eq_true_eq] at hw
    refine (pe_op op_repL (pe_lst (sa es (sounds nm cf es) k none W X c hw.1.1)) ((sound nm cf b).1 k none W X c hw.2)).impB ?_
    rintro σ H Q ⟨g, env, st, rel, out⟩
    refine ⟨g, env, st, rel, ((Out.bind out).and (C := fun xs => xs.length = es.len) fun x st e => evs_len e).imp ?_⟩
    rintro xs st1 g1 H1 rel1 le1 ⟨hl, o1⟩ vs hvs
    refine ⟨by rw [hvs.length, hl]; exact small_sz hw.1.2, fun p hp => ?_⟩
    have ap := rel1.new hp
    have rp := rel1.poke (o := .lst vs) ap
    refine ⟨_, env, st1, rp.guard ap upd_same, ((Out.bind o1).guard rp ap).imp ?_⟩
    rintro y st2 g2 H2 - - ⟨o2, rel2, le2, ap2, hp2⟩ w hw
    have hw : RepV (g2.withC g1.C) w y := RepV.same (g := g2) (g' := g2.withC g1.C) rfl rfl hw
    split at o2
    · rename_i ds kk hd _
      cases hw
      split at o2
      · rename_i hz
        have hr := (hvs.dats hd).mono le2.f
        exact ⟨p, kk, vs, rfl, rfl, hp2, by rw [hr.length]; exact hz.1, hz.2.1, hz.2.2, fun q hq => Out.here rel2 o2 q _ hq (hr.rep kk.toNat)⟩
      · exact o2.elim
    · exact o2.elim
  | list a p pn =>
    intro k W X c hw
    simp only [wfF, Bool.and_eq_true] at hw
    refine (pe_callTy call_list_of (glOf hw.1) (blt c "list" rfl) PyProof.Rows.boot_list (pa1 ((sound nm cf a).1 k none W X c hw.2)) (by decide) (by decide) (star1 a [] X.env) rfl).impB ?_
    rintro σ H Q ⟨g, env, st, rel, out⟩
    refine ⟨g, env, st, rel, (Out.bind out).imp ?_⟩
    intro x st1 g1 H1 rel1 le1 o1 v hv
    obtain ⟨z, e1, o2⟩ := o1.lift
    obtain ⟨y, e2, e3⟩ := Option.bind_eq_some_iff.mp e1
    cases x with
    | d x =>
      cases e2
      cases hv with
      | lst e r => cases e3; exact ⟨_, _, rfl, .inl (sqL rel1.c.fh e), fun l hl => o2.here rel1 l _ hl r⟩
      | tup e n r => cases e3; exact ⟨_, _, rfl, .inr (sqT rel1.c.fh e), fun l hl => o2.here rel1 l _ hl r⟩
      | _ => cases e3
    | ref n => cases e2
    | dct n => cases e2
  | ife d a b p iha ihb =>
    intro k W X c hw
    simp only [wfF, Bool.and_eq_true, Bool.not_eq_true'] at hw
    refine (pe_ifExp ((sound nm cf d).2 hw.1.1.2 k none W X c hw.1.1.1) (iha k W X c hw.1.2) (ihb k W X c hw.2)).impB ?_
    rintro σ H Q ⟨g, env, st, rel, out⟩
    refine ⟨g, env, st, rel, (Out.bind out).imp ?_⟩
    intro q st1 g1 H1 rel1 le1 o1
    cases q with
    | true => exact ⟨g1, env, st1, rel1, o1⟩
    | false => exact ⟨g1, env, st1, rel1, o1⟩
theorem EnvR.setOwn {g : Gh} {env : List Sl} {σ : L2.St} {H : Hp} (r : EnvR g env σ H) {i : Nat} {p : Addr} {vs : List V} {xs : List PyData} (hp : H p = some (.lst vs)) (rv : RpAll g.F vs xs) (a : Apart g (env.set i .non) σ p) : EnvR g (env.set i (.own xs)) (σ.set i (some (.ref p))) H := by
  refine ⟨by rw [List.length_set, List.length_set]; exact r.len, fun j y e => ?_, fun j ys e => ?_, fun j l ys zs b e1 e2 h1 h2 => ?_⟩
  · rcases getS e with ⟨rfl, hy, hl⟩ | ⟨hn, e⟩
    · cases hy
    · obtain ⟨w, q1, q2⟩ := r.val j y e
      exact ⟨w, by rw [List.getElem?_set_ne hn]; exact q1, q2⟩
  · rcases getS e with ⟨rfl, hy, hl⟩ | ⟨hn, e⟩
    · cases hy
      exact ⟨p, vs, List.getElem?_set_self (by rw [← r.len]; exact hl), hp, rv, a.f, a.c, a.m⟩
    · obtain ⟨b, ws, q1, q2⟩ := r.own j ys e
      exact ⟨b, ws, by rw [List.getElem?_set_ne hn]; exact q1, q2⟩
  · have apart : ∀ (j : Nat) (ys : List PyData), i ≠ j → env[j]? = some (.own ys) → σ[j]? ≠ some (some (V.ref p)) := fun j ys hn e => a.o j ys (by rw [List.getElem?_set_ne hn]; exact e)
    rcases getS e1 with ⟨rfl, hy, hl⟩ | ⟨hn, e1⟩
    · rcases getS e2 with ⟨e, _, _⟩ | ⟨hn2, e2⟩
      · exact e
      · rw [List.getElem?_set_self (by rw [← r.len]; exact hl)] at h1
        rw [List.getElem?_set_ne hn2] at h2
        cases h1
        exact absurd h2 (apart l zs hn2 e2)
    · rcases getS e2 with ⟨rfl, hy, hl⟩ | ⟨hn2, e2⟩
      · rw [List.getElem?_set_self (by rw [← r.len]; exact hl)] at h2
        rw [List.getElem?_set_ne hn] at h1
        cases h2
        exact absurd h1 (apart j ys hn e1)
      · rw [List.getElem?_set_ne hn] at h1
        rw [List.getElem?_set_ne hn2] at h2
        exact r.dis j l ys zs b e1 e2 h1 h2
theorem Apart.less {g : Gh} {env : List Sl} {σ : L2.St} {i : Nat} {p : Addr} (a : Apart g env σ p) : Apart g (env.set i .non) σ p := ⟨a.f, a.c, a.m, fun j xs e => by
  rcases getS e with ⟨_, hy, _⟩ | ⟨_, e⟩
  · cases hy
  · exact a.o j xs e⟩
theorem Rel.setOwn {g : Gh} {env : List Sl} {st : Stt} {σ : L2.St} {H : Hp} (r : Rel g env st σ H) {i : Nat} {p : Addr} {vs : List V} {xs : List PyData} (hp : H p = none) (rv : RpAll g.F vs xs) : Rel g (env.set i (.own xs)) st (σ.set i (some (.ref p))) (upd H p (.lst vs)) := by
  have a := r.new hp
  have rp := r.poke (o := .lst vs) a
  exact ⟨rp.c, rp.e.setOwn upd_same rv a.less⟩
theorem sw_noF (e : FE) (t : Option Expr) (l : Nat) (env : Env) : swapsWith e.py t l env = pure false := by
  cases e <;> (cases t <;> rfl)
theorem sp_own {x : Str} {i : Nat} {e : FE} {p px : Nat} : SP1 nm cf (.own x i e p px) (.Assign [.Name x (ps px)] e.py (ps p)) := fun k W X c hw => by
  simp only [wfS, Bool.and_eq_true] at hw
  obtain ⟨l1, l2, l3⟩ := locN c hw.1
  refine (ps_set c.nd l1 l2 (sf e k W X c hw.2) (sw_noF e _ _ _) l3).impB ?_
  rintro D σ H ⟨g, env, st, rel, out⟩
  refine ⟨g, env, st, rel, (OutS.bind out).imp ?_⟩
  intro xs st1 g1 H1 rel1 le1 o1 p vs hp rv
  exact o1.nx (rel1.setOwn hp rv)
/-- an owned list is frozen -/
theorem Rel.frz {g : Gh} {env : List Sl} {st : Stt} {σ : L2.St} {H : Hp} {i : Nat} {xs : List PyData} (r : Rel g env st σ H) (h : env[i]? = some (.own xs)) : ∃ g', Rel g' (sto env i (.d (.list xs))) st σ H ∧ g.le g' := by
  obtain ⟨a, vs, h1, h2, h3, h4, h5, h6⟩ := r.e.own i xs h
  have hi : i < env.length := (List.getElem?_eq_some_iff.mp h).1
  have e0 : (σ.set i none).set i (some (.ref a)) = σ := by
    rw [List.set_set]
    refine List.ext_getElem? fun j => ?_
    by_cases hj : i = j
    · subst hj
      rw [List.getElem?_set_self (by rw [← r.e.len]; exact hi)]; exact h1.symm
    · rw [List.getElem?_set_ne hj]
  have r0 : Rel g (env.set i .non) st σ H := by
    refine ⟨r.c, ⟨by rw [List.length_set]; exact r.e.len, fun j y e => ?_, fun j ys e => ?_, fun j l ys zs b e1 e2 q1 q2 => ?_⟩⟩
    · rcases getS e with ⟨_, hy, _⟩ | ⟨_, e⟩
      · cases hy
      · exact r.e.val j y e
    · rcases getS e with ⟨_, hy, _⟩ | ⟨_, e⟩
      · cases hy
      · exact r.e.own j ys e
    · rcases getS e1 with ⟨_, hy, _⟩ | ⟨_, e1⟩
      · cases hy
      · rcases getS e2 with ⟨_, hy, _⟩ | ⟨_, e2⟩
        · cases hy
        · exact r.e.dis j l ys zs b e1 e2 q1 q2
  have ap : Apart g (env.set i .non) σ a := ⟨h4, h5, h6, fun j ys e q => by
    rcases getS e with ⟨_, hy, _⟩ | ⟨hn, e⟩
    · cases hy
    · exact hn (r.e.dis i j xs ys a h e h1 q)⟩
  obtain ⟨r2, l2⟩ := r0.freeze ap h2
  refine ⟨_, ?_, l2⟩
  have r3 := r2.set (i := i) (v := .ref a) (x := .d (.list xs)) (.lst put_at (h3.mono l2.f))
  have es : σ.set i (some (V.ref a)) = σ := by
    refine List.ext_getElem? fun j => ?_
    by_cases hj : i = j
    · subst hj
      rw [List.getElem?_set_self (by rw [← r.e.len]; exact hi)]; exact h1.symm
    · rw [List.getElem?_set_ne hj]
  rw [es] at r3
  unfold sto at r3 ⊢
  rw [List.set_set] at r3
  exact r3
theorem ss_frz {i : Nat} : SSt nm cf (.frz i) := fun k W X rest f c hw hr => by
  show PSs X rest _
  refine hr.impB ?_
  rintro D σ H ⟨g, env, st, rel, out⟩
  simp only [ex] at out
  split at out
  · rename_i xs he
    obtain ⟨g', r', le⟩ := rel.frz he
    exact ⟨g', _, st, r', OutS.up le out⟩
  · exact out.elim
/-- an owned list is shared -/
theorem Rel.shr {g : Gh} {env : List Sl} {st : Stt} {σ : L2.St} {H : Hp} {i : Nat} {xs : List PyData} (r : Rel g env st σ H) (h : env[i]? = some (.own xs)) : ∃ g', Rel g' (sto env i (.ref st.length)) (st ++ [.lst xs]) σ H ∧ g.le g' := by
  obtain ⟨a, vs, h1, h2, h3, h4, h5, h6⟩ := r.e.own i xs h
  have old : ∀ n b, g.m n = some b → (if n = st.length then some a else g.m n) = some b := fun n b e => by
    have := r.c.dom n b e
    rw [if_neg (by omega)]; exact e
  have new : ∀ n b, (if n = st.length then some a else g.m n) = some b → (n = st.length ∧ b = a) ∨ g.m n = some b := fun n b e => by
    split at e
    · cases e; exact .inl ⟨‹_›, rfl⟩
    · exact .inr e
  have le : g.le { g with m := fun n => if n = st.length then some a else g.m n } := ⟨Same.refl _, old, rfl⟩
  refine ⟨{ g with m := fun n => if n = st.length then some a else g.m n }, ⟨⟨r.c.fh, r.c.ch, r.c.cf, fun n o e => ?_, fun n m b e1 e2 => ?_, fun n b e => ?_⟩, ⟨?_, fun j y e => ?_, fun j ys e => ?_, fun j l ys zs b e1 e2 q1 q2 => ?_⟩⟩, le⟩
  · by_cases hn : n < st.length
    · rw [List.getElem?_append_left hn] at e
      obtain ⟨b, g1, g2, g3, g4⟩ := r.c.ob n o e
      exact ⟨b, old n b g1, g2, g3, ObR.mono (g := g) (g' := { g with m := fun n => if n = st.length then some a else g.m n }) (Same.refl _) old (fun _ q => q) g4⟩
    · have hn2 : n = st.length := by
        have := (List.getElem?_eq_some_iff.mp e).1
        rw [List.length_append, List.length_singleton] at this; omega
      subst hn2
      rw [List.getElem?_append_right (Nat.le_refl _), Nat.sub_self] at e
      cases e
      exact ⟨a, if_pos rfl, h4, h5, vs, h2, h3⟩
  · rcases new n b e1 with ⟨p1, p2⟩ | p1
    · rcases new m b e2 with ⟨p3, p4⟩ | p3
      · rw [p1, p3]
      · rw [p2] at p3; exact (h6 _ p3).elim
    · rcases new m b e2 with ⟨p3, p4⟩ | p3
      · rw [p4] at p1; exact (h6 _ p1).elim
      · exact r.c.inj n m b p1 p3
  · rw [List.length_append, List.length_singleton]
    rcases new n b e with ⟨p1, p2⟩ | p1
    · omega
    · have := r.c.dom n b p1; omega
  · unfold sto; rw [List.length_set]; exact r.e.len
  · rcases getS e with ⟨p1, hy, _⟩ | ⟨_, e⟩
    · cases hy
      subst p1
      exact ⟨.ref a, h1, a, rfl, if_pos rfl⟩
    · obtain ⟨v, q1, q2⟩ := r.e.val j y e
      exact ⟨v, q1, q2.mono le⟩
  · rcases getS e with ⟨_, hy, _⟩ | ⟨hn, e⟩
    · cases hy
    · obtain ⟨b, us, q1, q2, q3, q4, q5, q6⟩ := r.e.own j ys e
      refine ⟨b, us, q1, q2, q3, q4, q5, fun n z => ?_⟩
      rcases new n b z with ⟨p1, p2⟩ | p1
      · subst p2; exact hn (r.e.dis i j xs ys b h e h1 q1)
      · exact q6 n p1
  · rcases getS e1 with ⟨_, hy, _⟩ | ⟨_, e1⟩
    · cases hy
    · rcases getS e2 with ⟨_, hy, _⟩ | ⟨_, e2⟩
      · cases hy
      · exact r.e.dis j l ys zs b e1 e2 q1 q2
theorem ss_shr {i : Nat} : SSt nm cf (.shr i) := fun k W X rest f c hw hr => by
  show PSs X rest _
  refine hr.impB ?_
  rintro D σ H ⟨g, env, st, rel, out⟩
  simp only [ex] at out
  split at out
  · rename_i xs he
    obtain ⟨g', r', le⟩ := rel.shr he
    exact ⟨g', _, _, r', OutS.up le out⟩
  · exact out.elim
theorem sw_tup {e : E} {tg : Tg} (h : e.isLc = false) (l : Nat) (env : Env) : swapsWithSole [tg.py] e.py l env = pure false := sw_no h _ _ _
theorem fm_lt {f : Expr → Option Str} : ∀ {l : List Expr}, (∃ a ∈ l, f a = none) → (l.filterMap f).length < l.length
  | [], ⟨_, h, _⟩ => by cases h
  | x :: l, ⟨a, h, e⟩ => by
    rcases List.mem_cons.mp h with q | q
    · subst q
      rw [List.filterMap_cons_none e, List.length_cons]
      exact Nat.lt_succ_of_le (List.length_filterMap_le ..)
    · have ih := fm_lt (f := f) (l := l) ⟨a, q, e⟩
      cases hx : f x with
      | none => rw [List.filterMap_cons_none hx, List.length_cons]; omega
      | some y => rw [List.filterMap_cons_some hx, List.length_cons, List.length_cons]; omega
theorem swst {e : E} {tg : Tg} (h : swN X.env.scope tg e = true) : swappedStores [tg.py] e.py X.env = pure none := by
  cases tg with
  | n x i p => cases e <;> rfl
  | t xs kt pt =>
    cases e with
    | tup es k2 p2 =>
      simp only [swN, Bool.or_eq_true] at h
      unfold swappedStores
      simp only [Tg.py, E.py]
      by_cases c1 : (!((xs.map fun y => Expr.Name y.1 (ps y.2.2)).length == 2 || (xs.map fun y => Expr.Name y.1 (ps y.2.2)).length == 3) || es.py.length != (xs.map fun y => Expr.Name y.1 (ps y.2.2)).length || X.env.blockKind != .function) = true
      · rw [if_pos c1]
      · rw [if_neg c1]
        split
        · rfl
        · rcases h with h | h
          · rw [if_pos ?_]
            rw [Bool.or_eq_true]
            refine .inl ?_
            obtain ⟨y, hy, hk⟩ := List.any_eq_true.mp h
            refine bne_iff_ne.mpr (Nat.ne_of_lt (fm_lt ⟨.Name y.1 (ps y.2.2), List.mem_map.mpr ⟨y, hy, rfl⟩, ?_⟩))
            have hkk : (X.env.kindOf y.1 == some NameKind.local) = false := by
              have hk : locK X.env.scope y.1 = false := by simpa using hk
              unfold locK at hk
              unfold Env.kindOf
              split at hk
              · cases hk
              · rename_i hne
                cases hl : X.env.scope.names.lookup y.1 with
                | none => rfl
                | some z => cases z <;> first | rfl | exact (hne hl).elim
            simp only [hkk, Bool.false_and]
            rfl
          · split
            · rfl
            · rfl
    | _ => rfl
theorem sp_unp {tg : Tg} {e : E} {p : Nat} : SP1 nm cf (.unp tg e p) (.Assign [tg.py] e.py (ps p)) := fun k W X c hw => by
  simp only [wfS, Bool.and_eq_true, Bool.not_eq_true'] at hw
  obtain ⟨⟨⟨⟨w1, w2⟩, w3⟩, w4⟩, w5⟩ := hw
  refine (ps_asg ((sound nm cf e).1 k none W X c w2) (pg_tg c tg w1) (sw_tup w4 _ _) (swst w5) (by cases tg <;> rfl)).impB ?_
  rintro D σ H ⟨g, env, st, rel, out⟩
  refine ⟨g, env, st, rel, (OutS.bind out).imp ?_⟩
  intro x st1 g1 H1 rel1 le1 o1 v hv
  split at o1
  · rename_i y
    obtain ⟨z, e1, o2⟩ := OutS.lift (β := Unit) o1
    obtain ⟨env', e2, rfl⟩ := Option.map_eq_some_iff.mp e1
    exact tg_store (L := tg.slots) rel1 (.inl ⟨rfl, hv⟩) (.inl w3) e2 (fun _ h => h) fun σ2 r2 _ => o2.nx r2
  · exact o1.elim
theorem sp_ex {e : E} {p : Nat} : SP1 nm cf (.ex e p) (.Expr e.py (ps p)) := fun k W X c hw => by
  simp only [wfS, Bool.and_eq_true, Bool.not_eq_true'] at hw
  refine (ps_expr ((sound nm cf e).1 k none W X c hw.1) (sw_no hw.2 _ _ _)).impB ?_
  rintro D σ H ⟨g, env, st, rel, out⟩
  refine ⟨g, env, st, rel, (OutS.bind out).imp ?_⟩
  intro x st1 g1 H1 rel1 le1 o1 v hv
  exact o1.nx rel1
theorem sp_ret {e : E} {p : Nat} : SP1 nm cf (.ret e p) (.Return (some e.py) (ps p)) := fun k W X c hw => by
  refine (ps_ret ((sound nm cf e).1 k none W X c hw)).impB ?_
  rintro D σ H ⟨g, env, st, rel, out⟩
  refine ⟨g, env, st, rel, (OutS.bind out).imp ?_⟩
  intro x st1 g1 H1 rel1 le1 o1 v hv
  exact o1 v H1 g1 rel1.c (.refl g1) hv
theorem sp_ife {e : E} {t u : Ss} {p : Nat} (ht : SSs nm cf t) (hu : SSs nm cf u) : SP1 nm cf (.ife e t u p) (.If e.py t.py u.py (ps p)) := fun k W X c hw => by
  simp only [wfS, Bool.and_eq_true, Bool.not_eq_true'] at hw
  obtain ⟨⟨⟨w1, w2⟩, w3⟩, w4⟩ := hw
  refine (ps_if ((sound nm cf e).2 w2 k none W X c w1) (ht k W X c w3) (hu k W X c w4)).impB ?_
  rintro D σ H ⟨g, env, st, rel, out⟩
  refine ⟨g, env, st, rel, (OutS.bind out).imp ?_⟩
  intro q st1 g1 H1 rel1 le1 o1
  cases q with
  | true => exact ⟨g1, env, st1, rel1, o1⟩
  | false => exact ⟨g1, env, st1, rel1, o1⟩
theorem sp_nev {s : Stmt} : SP1 nm cf (.nev s) s := fun k W X c hw => by
  refine ps_never.impB ?_
  rintro D σ H ⟨g, env, st, rel, out⟩
  exact out
end
end Bz
/-! Soundness: loops, stores into lists, pairs of names; all statements. -/
namespace Bz
open PySem PySem.Spec PyProof.Rows L2
section
variable {nm : Nat → Option Str} {cf : Nat → List Va → Stt → R Va} {k : Nat} {W : WX} {X : Cx}
theorem sp_loop {tg : Tg} {it : It} {b : Ss} {p : Nat} (hb : SSs nm cf b) : SP1 nm cf (.loop tg it b p) (.For tg.py it.py b.py [] (ps p)) := fun k W X c hw => by
  simp only [wfS, Bool.and_eq_true] at hw
  obtain ⟨⟨⟨w1, w2⟩, w3⟩, w4⟩ := hw
  have hpr : it.pairs = true → tg.isT = true := fun q => by simpa [q] using w3
  refine (ps_for c.own c.calm (soundi nm cf it k none W X tg c w2 hpr) (pg_tg c tg w1) (hb k W X c w4) (fsi X.env)).impB ?_
  rintro D σ H ⟨g, env, st, rel, out⟩
  refine ⟨g, env, st, rel, (OutS.bind out).imp ?_⟩
  clear out
  intro xs st0 g0 H0 rel0 le0 o0 J wk
  refine ⟨fun i m σ1 H1 => ∃ g1 env1 st1, Rel g1 env1 st1 σ1 H1 ∧ Same g0.F g1.F ∧ i ≤ xs.length ∧ m = xs.length - i ∧ OutS X.mg W g1 (forLoop tg (fun env st => exs cf b env st) (xs.drop i) env1 st1) D, ⟨_, g0, env, st0, rel0, Same.refl _, Nat.zero_le _, rfl, o0⟩, ?_⟩
  rintro i m σ1 H1 ⟨g1, env1, st1, rel1, f1, hi1, rfl, o1⟩
  by_cases hlt : i < xs.length
  · have hx : xs[i]? = some xs[i] := List.getElem?_eq_getElem hlt
    rw [List.drop_eq_getElem_cons hlt] at o1
    obtain ⟨go, yl⟩ := wk.go i xs[i] g1.F H1 f1 rel1.c.fh hx
    refine .inr ⟨go, fun σ' H' => ∃ g2 env2 st2, Rel g2 env2 st2 σ' H' ∧ Same g0.F g2.F ∧ OutS X.mg W g2 (forLoop tg (fun env st => exs cf b env st) (xs.drop (i + 1)) env2 st2) D, ?_, ?_⟩
    · rintro σ' H' ⟨g2, env2, st2, a1, a2, a3⟩
      exact ⟨xs.length - (i + 1), by omega, g2, env2, st2, a1, a2, hlt, rfl, a3⟩
    intro v H' hy
    obtain ⟨y1, y2⟩ := yl v H' hy
    unfold forLoop at o1
    split at o1
    · exact o1.elim
    rename_i env2 hst
    refine tg_store (L := tg.slots) rel1 y1 ?_ hst (fun _ h => h) fun σ2 rel2 _ => ?_
    · cases q : it.pairs with
      | true => exact .inl (hpr q)
      | false => exact .inr (y2 q)
    refine ⟨g1, env2, st1, rel2, ?_⟩
    generalize hr : exs cf b env2 st1 = r at o1
    match r, o1 with
    | .ok (.nx env3) st3, o1 => exact fun σ' H'' g' rel' le' => ⟨g', env3, st3, rel', f1.trans le'.f, OutS.up le' o1⟩
    | .ok (.rt x) st3, o1 => exact o1
    | .exc c st3, o1 => exact o1
  · have e : i = xs.length := by omega
    subst e
    rw [List.drop_length] at o1
    exact .inl ⟨wk.stop g1.F H1 f1 rel1.c.fh, o1.nx rel1⟩
theorem sp_whl {e : E} {b : Ss} {fuel p : Nat} (hb : SSs nm cf b) : SP1 nm cf (.whl e b fuel p) (.While e.py b.py [] (ps p)) := fun k W X c hw => by
  simp only [wfS, Bool.and_eq_true, Bool.not_eq_true'] at hw
  obtain ⟨⟨w1, w2⟩, w3⟩ := hw
  refine (ps_while c.own ((sound nm cf e).2 w2 k none W X c w1) (hb k W X c w3)).impB ?_
  rintro D σ H ⟨g, env, st, rel, out⟩
  refine ⟨fun m σ1 H1 => ∃ g1 env1 st1, Rel g1 env1 st1 σ1 H1 ∧ OutS X.mg W g1 (whlLoop (fun env st => tst (ev cf e env st)) (fun env st => exs cf b env st) m env1 st1) D, ⟨fuel, g, env, st, rel, out⟩, ?_⟩
  rintro m σ1 H1 ⟨g1, env1, st1, rel1, o1⟩
  cases m with
  | zero => exact o1.elim
  | succ m =>
    unfold whlLoop at o1
    refine ⟨g1, env1, st1, rel1, (OutS.bind o1).imp ?_⟩
    intro q st2 g2 H2 rel2 le2 o2
    cases q with
    | false => exact o2.nx rel2
    | true =>
      refine ⟨fun σ' H' => ∃ g3 env3 st3, Rel g3 env3 st3 σ' H' ∧ OutS X.mg W g3 (whlLoop (fun env st => tst (ev cf e env st)) (fun env st => exs cf b env st) m env3 st3) D, ?_, g2, env1, st2, rel2, ?_⟩
      · rintro σ' H' ⟨g3, env3, st3, a1, a2⟩
        exact ⟨m, Nat.lt_succ_self m, g3, env3, st3, a1, a2⟩
      · have o2 : OutS X.mg W g2 ((exs cf b env1 st2).bind fun fl st => match fl with
          | .nx env2 => whlLoop (fun env st => tst (ev cf e env st)) (fun env st => exs cf b env st) m env2 st
          | .rt v => .ok (.rt v) st) D := o2
        show OutS X.mg W g2 (exs cf b env1 st2) _
        generalize hr : exs cf b env1 st2 = r at o2
        match r, o2 with
        | .ok (.nx env3) st3, o2 => exact fun σ' H'' g' rel' le' => ⟨g', env3, st3, rel', OutS.up le' o2⟩
        | .ok (.rt x) st3, o2 => exact o2
        | .exc c st3, o2 => exact o2
/-! ### a, b = x, y -/
theorem locKof {x : Str} (h : locK X.env.scope x = true) : X.env.scope.names.lookup x = some .local := by
  unfold locK at h
  split at h
  · assumption
  · cases h
theorem par_sw {x y : Str} {px py pt p2 : Nat} {kt k2 : Nat} {a b : Expr} (hk : X.env.scope.kind = .function) (h : wfPar X.env.scope x px y py a b = true) (ha : ∀ v p, a ≠ .Starred v p) (hb : ∀ v p, b ≠ .Starred v p) :
    swappedStores [.Tuple [.Name x (ps px), .Name y (ps py)] kt (ps pt)] (.Tuple [a, b] k2 (ps p2)) X.env = pure (some [x, y]) := by
  unfold wfPar at h
  simp only [Bool.and_eq_true, Bool.not_eq_true'] at h
  obtain ⟨⟨⟨⟨⟨h1, h2⟩, h3⟩, h4⟩, h5⟩, h6⟩ := h
  have k1 : X.env.kindOf x = some .local := locKof h1
  have k2' : X.env.kindOf y = some .local := locKof h2
  have hbk := bk_of hk
  have h3' : ((ps py).line == (ps px).line) = true := by
    have := eq_of_beq h3
    rw [this]; exact beq_self_eq_true _
  have xy : (y == x) = false := by
    cases q : y == x with
    | false => rfl
    | true => rw [eq_of_beq q] at h4; simp at h4
  unfold swappedStores
  simp only [hbk]
  simp [List.filterMap, k1, k2', Expr.pos, h3', h4, xy, h5, h6, List.eraseDups, List.eraseDupsBy, List.eraseDupsBy.loop, List.any, List.all]
theorem noStar (e : E) : ∀ v p, e.py ≠ .Starred v p := by cases e <;> (intro v p h; cases h)
theorem noStarF (e : FE) : ∀ v p, e.py ≠ .Starred v p := by cases e <;> (intro v p h; cases h)
theorem sp_par {x : Str} {i px : Nat} {y : Str} {j py kt pt : Nat} {a b : E} {k2 p2 p : Nat} : SP1 nm cf (.par x i px y j py kt pt a b k2 p2 p) (.Assign [.Tuple [.Name x (ps px), .Name y (ps py)] kt (ps pt)] (.Tuple [a.py, b.py] k2 (ps p2)) (ps p)) := fun k W X c hw => by
  simp only [wfS, Bool.and_eq_true, decide_eq_true_eq] at hw
  obtain ⟨⟨⟨⟨⟨w1, w2⟩, w3⟩, w4⟩, w5⟩, w6⟩ := hw
  have hp := w6
  unfold wfPar at hp
  simp only [Bool.and_eq_true] at hp
  refine ⟨fun pins s σ H D I q => ?_⟩
  refine (ps_par c.calm c.nd w1 w2 w3 (locKof hp.1.1.1.1.1) (locKof hp.1.1.1.1.2) (pa2 ((sound nm cf a).1 k none W X c w4) ((sound nm cf b).1 k none W X c w5)) (par_sw I.ok.kind w6 (noStar a) (noStar b)) rfl).run pins s σ H D I ?_
  obtain ⟨g, env, st, rel, out⟩ := q
  refine ⟨g, env, st, rel, (OutS.bind out).imp ?_⟩
  intro x1 st1 g1 H1 rel1 le1 o1 v hv
  refine ⟨g1, env, st1, rel1, (OutS.bind o1).imp ?_⟩
  intro x2 st2 g2 H2 rel2 le2 o2 w hw
  exact ⟨v, w, rfl, o2.nx ((rel2.set (hv.mono le2)).set hw)⟩
theorem starF (e : FE) (es : List Expr) (env : Env) : starEach (e.py :: es) env = (false, eval e.py env) :: starEach es env := by cases e <;> rfl
theorem sp_paro {x : Str} {i px : Nat} {y : Str} {j py kt pt : Nat} {a : E} {b : FE} {k2 p2 p : Nat} : SP1 nm cf (.paro x i px y j py kt pt a b k2 p2 p) (.Assign [.Tuple [.Name x (ps px), .Name y (ps py)] kt (ps pt)] (.Tuple [a.py, b.py] k2 (ps p2)) (ps p)) := fun k W X c hw => by
  simp only [wfS, Bool.and_eq_true, decide_eq_true_eq] at hw
  obtain ⟨⟨⟨⟨⟨w1, w2⟩, w3⟩, w4⟩, w5⟩, w6⟩ := hw
  have hp := w6
  unfold wfPar at hp
  simp only [Bool.and_eq_true] at hp
  refine ⟨fun pins s σ H D I q => ?_⟩
  refine (ps_par c.calm c.nd w1 w2 w3 (locKof hp.1.1.1.1.1) (locKof hp.1.1.1.1.2) (pa_cons ((sound nm cf a).1 k none W X c w4) (pa_cons (sf b k W X c w5) pa_nil (starF b [] X.env)) (star1 a _ X.env)) (par_sw I.ok.kind w6 (noStar a) (noStarF b)) rfl).run pins s σ H D I ?_
  obtain ⟨g, env, st, rel, out⟩ := q
  refine ⟨g, env, st, rel, (OutS.bind out).imp ?_⟩
  intro x1 st1 g1 H1 rel1 le1 o1 v hv
  refine ⟨g1, env, st1, rel1, (OutS.bind o1).imp ?_⟩
  intro ys st2 g2 H2 rel2 le2 o2 q vs hq rv
  exact ⟨v, .ref q, rfl, o2.nx ((rel2.set (hv.mono le2)).setOwn hq rv)⟩
theorem sp_paroo {x : Str} {i px : Nat} {y : Str} {j py kt pt : Nat} {a b : FE} {k2 p2 p : Nat} : SP1 nm cf (.paroo x i px y j py kt pt a b k2 p2 p) (.Assign [.Tuple [.Name x (ps px), .Name y (ps py)] kt (ps pt)] (.Tuple [a.py, b.py] k2 (ps p2)) (ps p)) := fun k W X c hw => by
  simp only [wfS, Bool.and_eq_true, decide_eq_true_eq] at hw
  obtain ⟨⟨⟨⟨⟨w1, w2⟩, w3⟩, w4⟩, w5⟩, w6⟩ := hw
  have hp := w6
  unfold wfPar at hp
  simp only [Bool.and_eq_true] at hp
  refine ⟨fun pins s σ H D I q => ?_⟩
  refine (ps_par c.calm c.nd w1 w2 w3 (locKof hp.1.1.1.1.1) (locKof hp.1.1.1.1.2) (pa_cons (sf a k W X c w4) (pa_cons (sf b k W X c w5) pa_nil (starF b [] X.env)) (starF a _ X.env)) (par_sw I.ok.kind w6 (noStarF a) (noStarF b)) rfl).run pins s σ H D I ?_
  obtain ⟨g, env, st, rel, out⟩ := q
  refine ⟨g, env, st, rel, (OutS.bind out).imp ?_⟩
  intro xs st1 g1 H1 rel1 le1 o1 q vs hq rv
  have ap := rel1.new hq
  have rp := rel1.poke (o := .lst vs) ap
  refine ⟨_, env, st1, rp.guard ap upd_same, ((OutS.bind o1).guard rp ap).imp ?_⟩
  rintro ys st2 g2 H2 - - ⟨o2, rel2, le2, ap2, hp2⟩ r ws hr rw
  have e1 : Rel (g2.withC g1.C) (env.set i (.own xs)) st2 (σ.set i (some (.ref q))) H2 := ⟨rel2.c, rel2.e.setOwn hp2 (rv.mono le2.f) ap2.less⟩
  exact ⟨.ref q, .ref r, rfl, o2.nx (e1.setOwn hr rw)⟩
theorem sp_parf {x : Str} {i px : Nat} {y : Str} {j py kt pt : Nat} {a : FE} {b : E} {k2 p2 p : Nat} : SP1 nm cf (.parf x i px y j py kt pt a b k2 p2 p) (.Assign [.Tuple [.Name x (ps px), .Name y (ps py)] kt (ps pt)] (.Tuple [a.py, b.py] k2 (ps p2)) (ps p)) := fun k W X c hw => by
  simp only [wfS, Bool.and_eq_true, decide_eq_true_eq] at hw
  obtain ⟨⟨⟨⟨⟨w1, w2⟩, w3⟩, w4⟩, w5⟩, w6⟩ := hw
  have hp := w6
  unfold wfPar at hp
  simp only [Bool.and_eq_true] at hp
  refine ⟨fun pins s σ H D I q => ?_⟩
  refine (ps_par c.calm c.nd w1 w2 w3 (locKof hp.1.1.1.1.1) (locKof hp.1.1.1.1.2) (pa_cons (sf a k W X c w4) (pa_cons ((sound nm cf b).1 k none W X c w5) pa_nil (star1 b [] X.env)) (starF a _ X.env)) (par_sw I.ok.kind w6 (noStarF a) (noStar b)) rfl).run pins s σ H D I ?_
  obtain ⟨g, env, st, rel, out⟩ := q
  refine ⟨g, env, st, rel, (OutS.bind out).imp ?_⟩
  intro xs st1 g1 H1 rel1 le1 o1 q vs hq rv
  have ap := rel1.new hq
  have rp := rel1.poke (o := .lst vs) ap
  refine ⟨_, env, st1, rp.guard ap upd_same, ((OutS.bind o1).guard rp ap).imp ?_⟩
  rintro y1 st2 g2 H2 - - ⟨o2, rel2, le2, ap2, hp2⟩ v hv
  have hv : RepV (g2.withC g1.C) v y1 := RepV.same (g := g2) (g' := g2.withC g1.C) rfl rfl hv
  have e1 : Rel (g2.withC g1.C) (env.set i (.own xs)) st2 (σ.set i (some (.ref q))) H2 := ⟨rel2.c, rel2.e.setOwn hp2 (rv.mono le2.f) ap2.less⟩
  exact ⟨.ref q, v, rfl, o2.nx (e1.set hv)⟩
theorem par3_sw {x y z : Str} {px py pz pt p2 : Nat} {kt k2 : Nat} {a b c : Expr} (hk : X.env.scope.kind = .function) (h : wfPar3 X.env.scope x px y py z pz a b c = true) (ha : ∀ v p, a ≠ .Starred v p) (hb : ∀ v p, b ≠ .Starred v p) (hc : ∀ v p, c ≠ .Starred v p) :
    swappedStores [.Tuple [.Name x (ps px), .Name y (ps py), .Name z (ps pz)] kt (ps pt)] (.Tuple [a, b, c] k2 (ps p2)) X.env = pure (some [x, y, z]) := by
  unfold wfPar3 at h
  simp only [Bool.and_eq_true, Bool.not_eq_true'] at h
  obtain ⟨⟨⟨⟨⟨⟨⟨⟨⟨h1, h2⟩, h3⟩, h4⟩, h5⟩, h6⟩, h7⟩, h8⟩, h9⟩, h10⟩ := h
  have k1 : X.env.kindOf x = some .local := locKof h1
  have k2' : X.env.kindOf y = some .local := locKof h2
  have k3' : X.env.kindOf z = some .local := locKof h3
  have hbk := bk_of hk
  have sy : ∀ {u v : Str}, (u == v) = false → (v == u) = false := fun {u v} e => by
    cases q : v == u with
    | false => rfl
    | true => rw [eq_of_beq q] at e; simp at e
  have h4' : ((ps py).line == (ps px).line) = true := by
    have := eq_of_beq h4
    rw [this]; exact beq_self_eq_true _
  have h5' : ((ps pz).line == (ps px).line) = true := by
    have := eq_of_beq h5
    rw [this]; exact beq_self_eq_true _
  unfold swappedStores
  simp only [hbk]
  have f1 : (foldedForSure 8 a && (foldedForSure 8 b && foldedForSure 8 c)) = false := by rw [← Bool.and_assoc]; exact h9
  have f2 : (constantsAlone 8 a && (constantsAlone 8 b && constantsAlone 8 c)) = false := by rw [← Bool.and_assoc]; exact h10
  simp [List.filterMap, k1, k2', k3', Expr.pos, h4', h5', h6, h7, h8, sy h6, sy h7, sy h8, f1, f2, List.eraseDups, List.eraseDupsBy, List.eraseDupsBy.loop, List.any, List.all]
theorem pa3 {a b c : E} {ta tb tc : TE} (h : PE X a.py ta) (h2 : PE X b.py tb) (h3 : PE X c.py tc) : PA X [a.py, b.py, c.py] (tCons ta (tCons tb (tCons tc tNil))) := pa_cons h (pa2 h2 h3) (star1 a [b.py, c.py] X.env)
theorem sp_par3 {x : Str} {i px : Nat} {y : Str} {j py : Nat} {z : Str} {l pz kt pt : Nat} {a b d : E} {k2 p2 p : Nat} : SP1 nm cf (.par3 x i px y j py z l pz kt pt a b d k2 p2 p) (.Assign [.Tuple [.Name x (ps px), .Name y (ps py), .Name z (ps pz)] kt (ps pt)] (.Tuple [a.py, b.py, d.py] k2 (ps p2)) (ps p)) := fun k W X c hw => by
  simp only [wfS, Bool.and_eq_true, decide_eq_true_eq] at hw
  obtain ⟨⟨⟨⟨⟨⟨⟨⟨⟨w1, w2⟩, w3⟩, w4⟩, w5⟩, w6⟩, w7⟩, w8⟩, w9⟩, w10⟩ := hw
  have hp := w10
  unfold wfPar3 at hp
  simp only [Bool.and_eq_true] at hp
  refine ⟨fun pins s σ H D I q => ?_⟩
  refine (ps_par3 c.calm c.nd w1 w2 w3 w4 w5 w6 (locKof hp.1.1.1.1.1.1.1.1.1) (locKof hp.1.1.1.1.1.1.1.1.2) (locKof hp.1.1.1.1.1.1.1.2) (pa3 ((sound nm cf a).1 k none W X c w7) ((sound nm cf b).1 k none W X c w8) ((sound nm cf d).1 k none W X c w9)) (par3_sw I.ok.kind w10 (noStar a) (noStar b) (noStar d)) rfl).run pins s σ H D I ?_
  obtain ⟨g, env, st, rel, out⟩ := q
  refine ⟨g, env, st, rel, (OutS.bind out).imp ?_⟩
  intro x1 st1 g1 H1 rel1 le1 o1 v hv
  refine ⟨g1, env, st1, rel1, (OutS.bind o1).imp ?_⟩
  intro x2 st2 g2 H2 rel2 le2 o2 w hw
  refine ⟨g2, env, st2, rel2, (OutS.bind o2).imp ?_⟩
  intro x3 st3 g3 H3 rel3 le3 o3 u hu
  exact ⟨v, w, u, rfl, o3.nx (((rel3.set ((hv.mono le2).mono le3)).set (hw.mono le3)).set hu)⟩
theorem sp_par3o {x : Str} {i px : Nat} {y : Str} {j py : Nat} {z : Str} {l pz kt pt : Nat} {a : FE} {b d : E} {k2 p2 p : Nat} : SP1 nm cf (.par3o x i px y j py z l pz kt pt a b d k2 p2 p) (.Assign [.Tuple [.Name x (ps px), .Name y (ps py), .Name z (ps pz)] kt (ps pt)] (.Tuple [a.py, b.py, d.py] k2 (ps p2)) (ps p)) := fun k W X c hw => by
  simp only [wfS, Bool.and_eq_true, decide_eq_true_eq] at hw
  obtain ⟨⟨⟨⟨⟨⟨⟨⟨⟨w1, w2⟩, w3⟩, w4⟩, w5⟩, w6⟩, w7⟩, w8⟩, w9⟩, w10⟩ := hw
  have hp := w10
  unfold wfPar3 at hp
  simp only [Bool.and_eq_true] at hp
  refine ⟨fun pins s σ H D I q => ?_⟩
  refine (ps_par3 c.calm c.nd w1 w2 w3 w4 w5 w6 (locKof hp.1.1.1.1.1.1.1.1.1) (locKof hp.1.1.1.1.1.1.1.1.2) (locKof hp.1.1.1.1.1.1.1.2) (pa_cons (sf a k W X c w7) (pa2 ((sound nm cf b).1 k none W X c w8) ((sound nm cf d).1 k none W X c w9)) (starF a _ X.env)) (par3_sw I.ok.kind w10 (noStarF a) (noStar b) (noStar d)) rfl).run pins s σ H D I ?_
  obtain ⟨g, env, st, rel, out⟩ := q
  refine ⟨g, env, st, rel, (OutS.bind out).imp ?_⟩
  intro xs st1 g1 H1 rel1 le1 o1 q vs hq rv
  have ap := rel1.new hq
  have rp := rel1.poke (o := .lst vs) ap
  refine ⟨_, env, st1, rp.guard ap upd_same, ((OutS.bind o1).guard rp ap).imp ?_⟩
  rintro y1 st2 g2 H2 - - ⟨o2, rel2, le2, ap2, hp2⟩ v hv
  have hv : RepV (g2.withC g1.C) v y1 := RepV.same (g := g2) (g' := g2.withC g1.C) rfl rfl hv
  refine ⟨_, env, st2, rel2.guard ap2 hp2, ((OutS.bind o2).guard rel2 ap2).imp ?_⟩
  rintro z1 st3 g3 H3 - - ⟨o3, rel3, le3, ap3, hp3⟩ w hw
  have hw : RepV (g3.withC (g2.withC g1.C).C) w z1 := RepV.same (g := g3) (g' := g3.withC (g2.withC g1.C).C) rfl rfl hw
  have e1 : Rel (g3.withC (g2.withC g1.C).C) (env.set i (.own xs)) st3 (σ.set i (some (.ref q))) H3 := ⟨rel3.c, rel3.e.setOwn hp3 ((rv.mono le2.f).mono le3.f) ap3.less⟩
  exact ⟨.ref q, v, w, rfl, o3.nx ((e1.set (hv.mono le3)).set hw)⟩
theorem sws_any {xs : List (Str × Nat × Nat)} {vs : List Expr} {kt pt k2 p2 : Nat} (h : (xs.any fun y => !locK X.env.scope y.1) = true) : swappedStores [(Tg.t xs kt pt).py] (.Tuple vs k2 (ps p2)) X.env = pure none := by
  unfold swappedStores
  simp only [Tg.py]
  by_cases c1 : (!((xs.map fun y => Expr.Name y.1 (ps y.2.2)).length == 2 || (xs.map fun y => Expr.Name y.1 (ps y.2.2)).length == 3) || vs.length != (xs.map fun y => Expr.Name y.1 (ps y.2.2)).length || X.env.blockKind != .function) = true
  · rw [if_pos c1]
  · rw [if_neg c1]
    split
    · rfl
    · rw [if_pos ?_]
      rw [Bool.or_eq_true]
      refine .inl ?_
      obtain ⟨y, hy, hk⟩ := List.any_eq_true.mp h
      refine bne_iff_ne.mpr (Nat.ne_of_lt (fm_lt ⟨.Name y.1 (ps y.2.2), List.mem_map.mpr ⟨y, hy, rfl⟩, ?_⟩))
      have hkk : (X.env.kindOf y.1 == some NameKind.local) = false := by
        have hk : locK X.env.scope y.1 = false := by simpa using hk
        unfold locK at hk
        unfold Env.kindOf
        split at hk
        · cases hk
        · rename_i hne
          cases hl : X.env.scope.names.lookup y.1 with
          | none => rfl
          | some z => cases z <;> first | rfl | exact (hne hl).elim
      simp only [hkk, Bool.false_and]
      rfl
theorem sp_unpf {x : Str} {i px : Nat} {y : Str} {j py kt pt : Nat} {a b : FE} {k2 p2 p : Nat} : SP1 nm cf (.unpf x i px y j py kt pt a b k2 p2 p) (.Assign [(Tg.t [(x, i, px), (y, j, py)] kt pt).py] (.Tuple [a.py, b.py] k2 (ps p2)) (ps p)) := fun k W X c hw => by
  simp only [wfS, Bool.and_eq_true] at hw
  obtain ⟨⟨⟨w1, w2⟩, w3⟩, w4⟩ := hw
  refine (ps_asg (pe_tupF (pa_cons (sf a k W X c w2) (pa_cons (sf b k W X c w3) pa_nil (starF b [] X.env)) (starF a _ X.env))) (pg_tg c _ w1) rfl (sws_any (by simpa using w4)) rfl).impB ?_
  rintro D σ H ⟨g, env, st, rel, out⟩
  refine ⟨g, env, st, rel, (OutS.bind out).imp ?_⟩
  intro xs st1 g1 H1 rel1 le1 o1 q vs hq rv
  have ap := rel1.new hq
  have rp := rel1.poke (o := .lst vs) ap
  refine ⟨_, env, st1, rp.guard ap upd_same, ((OutS.bind o1).guard rp ap).imp ?_⟩
  rintro ys st2 g2 H2 - - ⟨o2, rel2, le2, ap2, hp2⟩ r ws hr rw
  have e1 : Rel (g2.withC g1.C) (env.set i (.own xs)) st2 (σ.set i (some (.ref q))) H2 := ⟨rel2.c, rel2.e.setOwn hp2 (rv.mono le2.f) ap2.less⟩
  have e2 := e1.setOwn (i := j) hr rw
  refine ⟨by show 2 ≤ sizeLine; exact small_sz (by decide), fun t ob ht hn => ?_⟩
  refine ⟨t, [.ref q, .ref r], rfl, .inl (.inr ⟨ob, upd_same⟩), rfl, ?_⟩
  exact ⟨_, _, rfl, _, _, rfl, rfl, o2.nx (e2.junk ht)⟩
/-! ### append, extend -/
theorem few1 (e : Expr) (cpos : Pos) (hs : starEach [e] X.env = [(false, eval e X.env)]) : ((backTo cpos (starEach [e] X.env)).all (fun x => !x.1) && (backToKw cpos (keywordEach [] X.env)).all (fun x => x.1.isSome) && decide ([e].length + ([] : List Keyword).length + (if ([] : List Keyword).isEmpty then 0 else 1) < 30)) = true := by rw [hs]; rfl
theorem Rel.stUpd {g : Gh} {env : List Sl} {st : Stt} {σ : L2.St} {H : Hp} (r : Rel g env st σ H) {n : Nat} {a : Addr} {xs ys : List PyData} {vs : List V} (hm : g.m n = some a) (ho : st[n]? = some (.lst xs)) (rv : RpAll g.F vs ys) : Rel g env (st.set n (.lst ys)) σ (upd H a (.lst vs)) := by
  obtain ⟨ca, fa⟩ := r.c.storeC hm
  have nf : ∀ b x, g.F b = some x → b ≠ a := fun b x e z => by subst z; rw [fa] at e; cases e
  have nc : ∀ b x, g.C b = some x → b ≠ a := fun b x e z => by subst z; rw [ca] at e; cases e
  refine ⟨⟨fun b x e => by rw [upd_ne (nf b x e)]; exact r.c.fh b x e, fun b x e => by rw [upd_ne (nc b x e)]; exact r.c.ch b x e, r.c.cf, fun l x e => ?_, r.c.inj, fun l b e => by rw [List.length_set]; exact r.c.dom l b e⟩, ⟨r.e.len, r.e.val, fun i zs e => ?_, r.e.dis⟩⟩
  · rcases getS e with ⟨rfl, hy, _⟩ | ⟨hn, e⟩
    · cases hy
      exact ⟨a, hm, fa, ca, vs, upd_same, rv⟩
    · obtain ⟨b, h1, h2, h3, h4⟩ := r.c.ob l x e
      have nb : b ≠ a := fun z => hn (r.c.inj n l a hm (z ▸ h1))
      exact ⟨b, h1, h2, h3, ObR.mono (g := g) (g' := g) (Same.refl _) (fun _ _ q => q) (fun o' e' => by rw [upd_ne nb]; exact e') h4⟩
  · obtain ⟨b, ws, h1, h2, h3, h4, h5, h6⟩ := r.e.own i zs e
    have nb : b ≠ a := fun z => h6 n (z ▸ hm)
    exact ⟨b, ws, h1, by rw [upd_ne nb]; exact h2, h3, h4, h5, h6⟩
theorem sw_call {f : Expr} {es : List Expr} {kw : List Keyword} {pos : Pos} (t : Option Expr) (l : Nat) (env : Env) : swapsWith (.Call f es kw pos) t l env = pure false := by cases t <;> rfl
theorem sp_rapp {a e : E} {p p1 pa : Nat} : SP1 nm cf (.rapp a e p p1 pa) (.Expr (.Call (.Attribute a.py "append" (ps pa)) [e.py] [] (ps p1)) (ps p)) := fun k W X c hw => by
  simp only [wfS, Bool.and_eq_true] at hw
  obtain ⟨⟨w1, w2⟩, w3⟩ := hw
  refine (ps_expr (pe_bm PySem.F.plainAttrs_list PySem.F.slot_list_append PySem.F.type_list_append mt_append ((sound nm cf a).1 k none W X c w1) (pa1 ((sound nm cf e).1 k none W X c w2)) (attrBase' a "append" w1) (few1 _ _ (star1 e [] X.env)) w3 (star1 e [] X.env) rfl) (sw_call _ _ _)).impB ?_
  rintro D σ H ⟨g, env, st, rel, out⟩
  refine ⟨g, env, st, rel, (OutS.bind out).imp ?_⟩
  intro x st1 g1 H1 rel1 le1 o1 v hv
  split at o1
  · rename_i hl
    cases x with
    | ref n =>
      obtain ⟨b, rfl, hm⟩ := hv
      unfold isL at hl
      simp only at hl
      split at hl
      · rename_i xs0 ho
        obtain ⟨b', h1, h2, h3, vs0, h4, h5⟩ := rel1.c.ob _ _ ho
        rw [hm] at h1; cases h1
        refine ⟨.inl ⟨rfl, _, SqL.of h4⟩, g1, env, st1, rel1, (OutS.bind o1).imp ?_⟩
        intro y st2 g2 H2 rel2 le2 o2 w hw
        cases y with
        | d z =>
          simp only at o2
          split at o2
          · rename_i xs ho2
            split at o2
            · rename_i hsz
              obtain ⟨b', q1, q2, q3, vs, q4, q5⟩ := rel2.c.ob _ _ ho2
              rw [le2.m _ _ hm] at q1; cases q1
              refine ⟨_, vs, w, rfl, rfl, q4, by rw [q5.length, ← szl_eq]; exact hsz, ?_⟩
              exact o2.nx (rel2.stUpd (le2.m _ _ hm) ho2 (q5.append (.cons hw .nil)))
            · exact o2.elim
          · exact o2.elim
        | ref m => exact o2.elim
        | dct m => exact o2.elim
      · cases hl
    | d x => cases hl
    | dct x => cases hl
  · exact o1.elim
theorem Rel.ownUpd {g : Gh} {env : List Sl} {st : Stt} {σ : L2.St} {H : Hp} (r : Rel g env st σ H) {i : Nat} {a : Addr} {xs ys : List PyData} {vs : List V} (h : env[i]? = some (.own xs)) (hs : σ[i]? = some (some (V.ref a))) (rv : RpAll g.F vs ys) : Rel g (env.set i (.own ys)) st σ (upd H a (.lst vs)) := by
  obtain ⟨a', vs', h1, h2, h3, h4, h5, h6⟩ := r.e.own i xs h
  rw [hs] at h1; cases h1
  have hi : i < env.length := (List.getElem?_eq_some_iff.mp h).1
  have ap : Apart g (env.set i .non) σ a := ⟨h4, h5, h6, fun j ys e q => by
    rcases getS e with ⟨_, hy, _⟩ | ⟨hn, e⟩
    · cases hy
    · exact hn (r.e.dis i j xs ys a h e hs q)⟩
  have r0 : Rel g (env.set i .non) st σ H := by
    refine ⟨r.c, ⟨by rw [List.length_set]; exact r.e.len, fun j y e => ?_, fun j ys e => ?_, fun j l ys zs b e1 e2 q1 q2 => ?_⟩⟩
    · rcases getS e with ⟨_, hy, _⟩ | ⟨_, e⟩
      · cases hy
      · exact r.e.val j y e
    · rcases getS e with ⟨_, hy, _⟩ | ⟨_, e⟩
      · cases hy
      · exact r.e.own j ys e
    · rcases getS e1 with ⟨_, hy, _⟩ | ⟨_, e1⟩
      · cases hy
      · rcases getS e2 with ⟨_, hy, _⟩ | ⟨_, e2⟩
        · cases hy
        · exact r.e.dis j l ys zs b e1 e2 q1 q2
  have r1 := r0.poke (o := .lst vs) ap
  have r2 := r1.e.setOwn (i := i) upd_same rv (Apart.less ap)
  have es : σ.set i (some (V.ref a)) = σ := by
    refine List.ext_getElem? fun j => ?_
    by_cases hj : i = j
    · subst hj
      rw [List.getElem?_set_self (by rw [← r.e.len]; exact hi)]; exact hs.symm
    · rw [List.getElem?_set_ne hj]
  rw [es, List.set_set] at r2
  exact ⟨r1.c, r2⟩
theorem sp_oapp {x : Str} {i px : Nat} {e : E} {p p1 pa : Nat} : SP1 nm cf (.oapp x i px e p p1 pa) (.Expr (.Call (.Attribute (.Name x (ps px)) "append" (ps pa)) [e.py] [] (ps p1)) (ps p)) := fun k W X c hw => by
  simp only [wfS, Bool.and_eq_true] at hw
  obtain ⟨⟨w1, w2⟩, w3⟩ := hw
  refine (ps_expr (pe_bm PySem.F.plainAttrs_list PySem.F.slot_list_append PySem.F.type_list_append mt_append (pe_name c w1) (pa1 ((sound nm cf e).1 k none W X c w2)) rfl (few1 _ _ (star1 e [] X.env)) w3 (star1 e [] X.env) rfl) (sw_call _ _ _)).impB ?_
  rintro D σ H ⟨g, env, st, rel, out⟩
  simp only [ex] at out
  split at out
  · rename_i xs he
    obtain ⟨a, vs, h1, h2, h3, -⟩ := rel.e.own i xs he
    refine ⟨_, h1, .inl ⟨rfl, _, SqL.of h2⟩, g, env, st, rel, (OutS.bind out).imp ?_⟩
    intro y st1 g1 H1 rel1 le1 o1 w hw
    split at o1
    · split at o1
      · rename_i z hsz
        obtain ⟨a', vs', q1, q2, q3, -⟩ := rel1.e.own i xs he
        rw [h1] at q1; cases q1
        exact ⟨_, vs', w, rfl, rfl, q2, by rw [q3.length, ← szl_eq]; exact hsz, o1.nx (rel1.ownUpd he h1 (q3.append (.cons hw .nil)))⟩
      · exact o1.elim
    · exact o1.elim
  · exact out.elim
theorem sp_oext {x : Str} {i px : Nat} {e : E} {p p1 pa : Nat} : SP1 nm cf (.oext x i px e p p1 pa) (.Expr (.Call (.Attribute (.Name x (ps px)) "extend" (ps pa)) [e.py] [] (ps p1)) (ps p)) := fun k W X c hw => by
  simp only [wfS, Bool.and_eq_true] at hw
  obtain ⟨⟨w1, w2⟩, w3⟩ := hw
  refine (ps_expr (pe_bm PySem.F.plainAttrs_list PySem.F.slot_list_extend PySem.F.type_list_extend mt_extB (pe_name c w1) (pa1 ((sound nm cf e).1 k none W X c w2)) rfl (few1 _ _ (star1 e [] X.env)) w3 (star1 e [] X.env) rfl) (sw_call _ _ _)).impB ?_
  rintro D σ H ⟨g, env, st, rel, out⟩
  simp only [ex] at out
  split at out
  · rename_i xs he
    obtain ⟨a, vs, h1, h2, h3, -⟩ := rel.e.own i xs he
    refine ⟨_, h1, .inl ⟨rfl, _, SqL.of h2⟩, g, env, st, rel, (OutS.bind out).imp ?_⟩
    intro y st1 g1 H1 rel1 le1 o1 w hw
    split at o1
    · split at o1
      · rename_i z hsz
        obtain ⟨a', vs', q1, q2, q3, -⟩ := rel1.e.own i xs he
        rw [h1] at q1; cases q1
        cases hw with | lst e1 r1 =>
        exact .inl ⟨_, _, vs', _, rfl, rfl, q2, rel1.c.fh _ _ e1, by rw [q3.length, r1.length, ← szl_eq]; exact hsz, o1.nx (rel1.ownUpd he h1 (q3.append r1))⟩
      · exact o1.elim
    · split at o1
      · rename_i z hsz
        obtain ⟨a', vs', q1, q2, q3, -⟩ := rel1.e.own i xs he
        rw [h1] at q1; cases q1
        cases hw with | tup e1 n1 r1 =>
        exact .inr ⟨_, _, _, vs', _, rfl, rfl, q2, rel1.c.fh _ _ e1, by rw [q3.length, r1.length, ← szl_eq]; exact hsz, o1.nx (rel1.ownUpd he h1 (q3.append r1))⟩
      · exact o1.elim
    · exact o1.elim
  · exact out.elim
/-! ### x[b] = e -/
theorem sw_sub {e : E} (h : e.isLc = false) (t : Expr) (l : Nat) (env : Env) : swapsWithSole [t] e.py l env = pure false := sw_no h _ _ _
theorem sws_sub {e : E} {o i : Expr} {q : Pos} : swappedStores [.Subscript o i q] e.py X.env = pure none := by cases e <;> rfl
theorem sp_oset {x : Str} {i px : Nat} {b e : E} {p pt : Nat} : SP1 nm cf (.oset x i px b e p pt) (.Assign [.Subscript (.Name x (ps px)) b.py (ps pt)] e.py (ps p)) := fun k W X c hw => by
  simp only [wfS, Bool.and_eq_true, Bool.not_eq_true'] at hw
  obtain ⟨⟨⟨w1, w2⟩, w3⟩, w4⟩ := hw
  refine (ps_asg ((sound nm cf e).1 k none W X c w3) (pg_sub (pe_name c w1) ((sound nm cf b).1 k none W X c w2) set_list (by intro _; cases b <;> rfl)) (sw_sub w4 _ _ _) sws_sub rfl).impB ?_
  rintro D σ H ⟨g, env, st, rel, out⟩
  refine ⟨g, env, st, rel, (OutS.bind out).imp ?_⟩
  intro v st1 g1 H1 rel1 le1 o1 w hw
  split at o1
  · rename_i xs he
    obtain ⟨a, vs, h1, h2, h3, -⟩ := rel1.e.own i xs he
    refine ⟨_, h1, g1, env, st1, rel1, (OutS.bind o1).imp ?_⟩
    intro y st2 g2 H2 rel2 le2 o2 u hu
    split at o2
    · split at o2
      · rename_i hj
        obtain ⟨a', vs', q1, q2, q3, -⟩ := rel2.e.own i xs he
        rw [h1] at q1; cases q1
        cases hu
        refine ⟨_, vs', _, _, rfl, rfl, q2, by rw [q3.length]; exact hj, ?_⟩
        exact o2.nx (rel2.ownUpd he h1 (q3.set (hw.mono le2) _))
      · exact o2.elim
    · exact o2.elim
  · exact o1.elim
theorem sp_rset {o b e : E} {p pt : Nat} : SP1 nm cf (.rset o b e p pt) (.Assign [.Subscript o.py b.py (ps pt)] e.py (ps p)) := fun k W X c hw => by
  simp only [wfS, Bool.and_eq_true, Bool.not_eq_true'] at hw
  obtain ⟨⟨⟨w1, w2⟩, w3⟩, w4⟩ := hw
  refine (ps_asg ((sound nm cf e).1 k none W X c w3) (pg_sub ((sound nm cf o).1 k none W X c w1) ((sound nm cf b).1 k none W X c w2) set_list (by intro _; cases b <;> rfl)) (sw_sub w4 _ _ _) sws_sub rfl).impB ?_
  rintro D σ H ⟨g, env, st, rel, out⟩
  refine ⟨g, env, st, rel, (OutS.bind out).imp ?_⟩
  intro v st1 g1 H1 rel1 le1 o1 w hw
  refine ⟨g1, env, st1, rel1, (OutS.bind o1).imp ?_⟩
  intro x st2 g2 H2 rel2 le2 o2 u hu
  refine ⟨g2, env, st2, rel2, (OutS.bind o2).imp ?_⟩
  intro y st3 g3 H3 rel3 le3 o3 z hz
  split at o3
  · split at o3
    · rename_i xs ho
      split at o3
      · rename_i hj
        obtain ⟨b', rfl, hm⟩ := hu
        cases hz
        obtain ⟨b2, q1, q2, q3, vs, q4, q5⟩ := rel3.c.ob _ _ ho
        rw [le3.m _ _ hm] at q1; cases q1
        refine ⟨_, vs, _, _, rfl, rfl, q4, by rw [q5.length]; exact hj, ?_⟩
        exact o3.nx (rel3.stUpd (le3.m _ _ hm) ho (q5.set ((hw.mono le2).mono le3) _))
      · exact o3.elim
    · exact o3.elim
  · exact o3.elim
/-! ### tg = x.pop() -/
theorem sp_opop {tg : Tg} {x : Str} {i px p p1 pa : Nat} : SP1 nm cf (.opop tg x i px p p1 pa) (.Assign [tg.py] (.Call (.Attribute (.Name x (ps px)) "pop" (ps pa)) [] [] (ps p1)) (ps p)) := fun k W X c hw => by
  simp only [wfS, Bool.and_eq_true] at hw
  obtain ⟨⟨⟨w1, w2⟩, w3⟩, w4⟩ := hw
  refine (ps_asg (pe_bm0 PySem.F.plainAttrs_list PySem.F.slot_list_pop PySem.F.type_list_pop mt_pop (pe_name c w1) rfl w4) (pg_tg c tg w2) (by cases tg <;> rfl) (by cases tg <;> rfl) (by cases tg <;> rfl)).impB ?_
  rintro D σ H ⟨g, env, st, rel, out⟩
  simp only [ex] at out
  split at out
  · rename_i xs he
    obtain ⟨a, vs, h1, h2, h3, -⟩ := rel.e.own i xs he
    split at out
    · rename_i z hz
      have hz' : xs[xs.length - 1]? = some z := by rw [← List.getLast?_eq_getElem?]; exact hz
      obtain ⟨v, q1, q2⟩ := h3.get hz'
      refine ⟨_, h1, .inl ⟨rfl, _, SqL.of h2⟩, _, vs, v, rfl, rfl, h2, by rw [h3.length]; exact q1, ?_⟩
      have r1 := rel.ownUpd he h1 h3.dropLast
      obtain ⟨fl, e2, o2⟩ := OutS.lift (β := Unit) out
      obtain ⟨env2, e3, rfl⟩ := Option.map_eq_some_iff.mp e2
      obtain ⟨Q, hQ⟩ : ∃ Q : L2.St → Hp → Prop, Q = D.nx := ⟨_, rfl⟩
      refine tg_store (L := tg.slots) r1 (.inl ⟨rfl, q2⟩) (.inl w3) e3 (fun i h => h) fun σ' rel' _ => o2.nx rel'
    · exact out.elim
  · exact out.elim
/-! ### a list of two lists -/
theorem Rel.push {g : Gh} {env : List Sl} {st : Stt} {σ : L2.St} {H : Hp} {p : Addr} {o : HO} {x : Ob} (r : Rel g env st σ H) (hp : H p = none) (hx : ∀ g' : Gh, g.le g' → ObR g' (upd H p o) p x) : ∃ g' : Gh, Rel g' env (st ++ [x]) σ (upd H p o) ∧ g.le g' ∧ g'.m st.length = some p := by
  have ap := r.new hp
  have r1 := r.poke (o := o) ap
  have old : ∀ n b, g.m n = some b → (if n = st.length then some p else g.m n) = some b := fun n b e => by
    have := r.c.dom n b e
    rw [if_neg (by omega)]; exact e
  have new : ∀ n b, (if n = st.length then some p else g.m n) = some b → (n = st.length ∧ b = p) ∨ g.m n = some b := fun n b e => by
    split at e
    · cases e; exact .inl ⟨‹_›, rfl⟩
    · exact .inr e
  have le : g.le { g with m := fun n => if n = st.length then some p else g.m n } := ⟨Same.refl _, old, rfl⟩
  refine ⟨{ g with m := fun n => if n = st.length then some p else g.m n }, ⟨⟨r1.c.fh, r1.c.ch, r1.c.cf, fun n o e => ?_, fun n m b e1 e2 => ?_, fun n b e => ?_⟩, ⟨r1.e.len, fun j y e => ?_, fun j ys e => ?_, r1.e.dis⟩⟩, le, if_pos rfl⟩
  · by_cases hn : n < st.length
    · rw [List.getElem?_append_left hn] at e
      obtain ⟨b, g1, g2, g3, g4⟩ := r1.c.ob n o e
      exact ⟨b, old n b g1, g2, g3, ObR.mono (g := g) (g' := { g with m := fun n => if n = st.length then some p else g.m n }) (Same.refl _) old (fun _ q => q) g4⟩
    · have hn2 : n = st.length := by
        have := (List.getElem?_eq_some_iff.mp e).1
        rw [List.length_append, List.length_singleton] at this; omega
      subst hn2
      rw [List.getElem?_append_right (Nat.le_refl _), Nat.sub_self] at e
      cases e
      exact ⟨p, if_pos rfl, ap.f, ap.c, hx _ le⟩
  · rcases new n b e1 with ⟨p1, p2⟩ | p1
    · rcases new m b e2 with ⟨p3, p4⟩ | p3
      · rw [p1, p3]
      · rw [p2] at p3; exact (ap.m _ p3).elim
    · rcases new m b e2 with ⟨p3, p4⟩ | p3
      · rw [p4] at p1; exact (ap.m _ p1).elim
      · exact r1.c.inj n m b p1 p3
  · rw [List.length_append, List.length_singleton]
    rcases new n b e with ⟨p1, p2⟩ | p1
    · omega
    · have := r1.c.dom n b p1; omega
  · obtain ⟨v, q1, q2⟩ := r1.e.val j y e
    exact ⟨v, q1, q2.mono le⟩
  · obtain ⟨b, us, q1, q2, q3, q4, q5, q6⟩ := r1.e.own j ys e
    refine ⟨b, us, q1, q2, q3, q4, q5, fun n z => ?_⟩
    rcases new n b z with ⟨p1, p2⟩ | p1
    · subst p2; exact ap.o j ys e q1
    · exact q6 n p1
theorem sp_nest {x : Str} {i : Nat} {a b c d : Int} {ja jb jc jd qa qb qc qd p1 p2 pl p px : Nat} : SP1 nm cf (.nest x i a b c d ja jb jc jd qa qb qc qd p1 p2 pl p px) (.Assign [.Name x (ps px)] (.List [.List [.Constant (.int a) ja (ps qa), .Constant (.int b) jb (ps qb)] (ps p1), .List [.Constant (.int c) jc (ps qc), .Constant (.int d) jd (ps qd)] (ps p2)] (ps pl)) (ps p)) := fun k W X C hw => by
  simp only [wfS] at hw
  obtain ⟨l1, l2, l3⟩ := locN C hw
  refine (ps_set C.nd l1 l2 (pe_lst (pa_cons (pe_lst (pa_cons pe_int (pa_cons pe_int pa_nil))) (pa_cons (pe_lst (pa_cons pe_int (pa_cons pe_int pa_nil))) pa_nil))) rfl l3).impB ?_
  rintro D σ H ⟨g, env, st, rel, out⟩
  refine ⟨by show 2 ≤ sizeLine; exact small_sz (by decide), fun A hA => ⟨by show 2 ≤ sizeLine; exact small_sz (by decide), fun B hB => ⟨by show 2 ≤ sizeLine; exact small_sz (by decide), fun P hP => ?_⟩⟩⟩
  obtain ⟨g1, r1, le1, m1⟩ := rel.push (o := .lst [.int a, .int b]) (x := .lst [.int a, .int b]) hA (fun g' _ => ⟨_, upd_same, .cons (.int a) (.cons (.int b) .nil)⟩)
  obtain ⟨g2, r2, le2, m2⟩ := r1.push (o := .lst [.int c, .int d]) (x := .lst [.int c, .int d]) hB (fun g' _ => ⟨_, upd_same, .cons (.int c) (.cons (.int d) .nil)⟩)
  rw [List.length_append, List.length_singleton] at m2
  obtain ⟨g3, r3, le3, m3⟩ := r2.push (o := .lst [.ref A, .ref B]) (x := .nest [st.length, st.length + 1]) hP (fun g' le => ⟨_, upd_same, rfl, fun kk n e => by
    match kk, e with
    | 0, e => cases e; exact ⟨A, rfl, le.m _ _ (le2.m _ _ m1)⟩
    | 1, e => cases e; exact ⟨B, rfl, le.m _ _ m2⟩⟩)
  rw [List.length_append, List.length_append, List.length_singleton, List.length_singleton, List.append_assoc, List.append_assoc] at *
  refine out _ _ g3 (r3.set (i := i) (v := .ref P) (x := .ref (st.length + 2)) ⟨P, rfl, m3⟩) ((le1.trans le2).trans le3)
/-! ### raise, try -/
theorem pmk_own0 {C : Addr} {bmB : List Value} {B newId initId : String} {x : Str} {p pos : Pos} (F : ExcBaseFacts B newId initId bmB) (q : PySem.W.excIn X.K C bmB newId = true) (gC : X.mg x = some (.ref C))
    (kC : PySem.W.keepIn X.K (.ref C) = true) (r : Raises X (.ref C)) (hg : Gl X x) (hdb : (x == ("__debug__" : Str)) = false) :
    PMk X (.Call (.Name x p) [] [] pos) (fun _ H Q => Q (.ref C) none H) := by
  intro pins s σ H Q I h
  refine wpAny_Call_Name_kw (ld_glob I hg gC ?_ hdb)
  refine PySem.W.callWith_K0 I.kIn kC ?_
  show wpAny _ _ (call (.ref C) []) _ _ _
  obtain ⟨bm, N, nm, qn, bs, hdct, sn, sub, ab, col, dd, k0, k1, k2, k3, k5, mN, hC, hN, hni, T⟩ := exc_obj I.kIn q
  refine wpAny_call_exc_subT F T hC hN hni (fun h' e hm => ?_) (Nat.zero_le _)
  exact mk_of I hm r h (I.hok.gone hm.new)
theorem xcB_of {f : Nat} {x : Str} (h : xcB nm f x = true) : 1000 ≤ f ∧ nm f = some x := by
  unfold xcB at h
  simpa using h
theorem sp_rse {f : Nat} {x : Str} {p pc pn : Nat} : SP1 nm cf (.rse f x p pc pn) (.Raise (some (.Call (.Name x (ps pn)) [] [] (ps pc))) none (ps p)) := fun k W X c hw => by
  simp only [wfS, Bool.and_eq_true] at hw
  obtain ⟨⟨w1, w2⟩, w3⟩ := hw
  obtain ⟨y1, y2⟩ := xcB_of w1
  obtain ⟨C, h1, h2, h3, h4, h5⟩ := c.xa.one f x y1 y2
  refine (ps_raise c.calm c.tk (pmk_own0 PySem.F.excBase_ValueError h3 h1 h2 (raises_own h4 h5) (glOf w2) (okDbg w3))).impB ?_
  rintro D σ H ⟨g, env, st, rel, out⟩
  exact out _ _ _ _ g rel.c (.refl g) h1
def K.V : K → V
  | .non => .non | .bl b => .bl b | .int i => .int i | .str s => .str s
theorem pe_k {X : Cx} (co : K) {j : Nat} {pos : Pos} : PE X (.Constant co.py j pos) (tC co.V) := by
  cases co with
  | non => exact pe_non
  | bl b => exact pe_bl
  | int i => exact pe_int
  | str s => exact pe_str
theorem rp_k {F : Hp} {co : K} (h : kOk co = true) : Rp F co.V co.val := by
  cases co with
  | non => exact .non
  | bl b => exact .bl b
  | int i => exact .int i
  | str s =>
    unfold kOk at h
    rw [Bool.and_eq_true, decide_eq_true_eq] at h
    exact .str s h.1 h.2
def suT : Su → TS
  | .set _ i c _ _ _ _ => tAsg (tC c.V) (gName i)
  | .rvk _ i _ c _ _ _ _ _ => tRet (tTupF (tCons (tVar i) (tCons (tC c.V) tNil)))
theorem pss_su (c : Ctx nm cf k none W X) (s : Su) (h : wfSu X.N X.env.scope s = true) (a : Addr) (pn : List (Addr × Obj)) : PSs (X.suite a pn) [s.py] (suT s) := by
  cases s with
  | set x i co j p px pc =>
    simp only [wfSu, Bool.and_eq_true] at h
    obtain ⟨l1, l2, l3⟩ := locN c h.1
    exact pss_one (ps_set (X := X.suite a pn) c.nd l1 l2 (pe_k co) (by cases co <;> rfl) l3)
  | rvk x i px co j pc k pt p =>
    simp only [wfSu, Bool.and_eq_true] at h
    exact pss_one (ps_ret (pe_tupF (pa_cons (pe_nm (X := X.suite a pn) h.1) (pa_cons (pe_k co) pa_nil rfl) rfl)))
theorem hds_ok (c : Ctx nm cf k none W X) : ∀ (hs : List Hdl), (hs.all fun h => wfHd nm X.N X.env.scope h) = true → ∃ l, HdsOk X (hs.map Hdl.py) l ∧ ∀ (f : Nat) (x : Str), 1000 ≤ f → nm f = some x → ∀ (g : Gh) (env : List Sl) (st : Stt) (σ : L2.St) (H : Hp) (cls : Value) (d : Option Addr) (D : Ends), X.mg x = some cls → Rel g env st σ H → OutS X.mg W g (exHs x env st hs) D → wMany X.K W D l cls d σ H
  | [], _ => ⟨[], .nil, fun f x _ _ g env st σ H cls d D hm rel out => out cls d σ H g rel.c (.refl g) hm⟩
  | h :: hs, hw => by
    rw [List.all_cons, Bool.and_eq_true] at hw
    obtain ⟨l, hl, ih⟩ := hds_ok c hs hw.2
    have w := hw.1
    unfold wfHd at w
    simp only [Bool.and_eq_true] at w
    obtain ⟨⟨⟨w1, w2⟩, w3⟩, w4⟩ := w
    obtain ⟨y1, y2⟩ := xcB_of w1
    obtain ⟨C, h1, h2, h3, h4, h5⟩ := c.xa.one h.f h.x y1 y2
    refine ⟨(.ref C, fun _ _ _ => suT h.s) :: l, .cons ⟨glOf w2, okDbg w3, .inl h1⟩ (fun a oe cls d pn _ _ => pss_su c h.s w4 a _) hl, ?_⟩
    intro f x f1 f2 g env st σ H cls d D hm rel out
    refine ⟨xsub x h.x, c.xa.two f x h.f h.x f1 f2 y1 y2 cls (.ref C) hm h1, fun e a ha => ?_, fun e => ?_⟩
    · unfold exHs at out
      rw [if_pos e] at out
      cases hs : h.s with
      | set z i co j p px pc =>
        rw [hs] at out w4
        simp only [wfSu, Bool.and_eq_true] at w4
        exact OutS.nx (rel.set (i := i) (v := co.V) (x := .d co.val) (rp_k w4.2)) out
      | rvk z i px co j pc k pt p =>
        rw [hs] at out w4
        simp only [wfSu, Bool.and_eq_true] at w4
        simp only [exSu] at out
        split at out
        · rename_i y hy
          obtain ⟨v, q1, q2⟩ := rel.e.val i _ hy
          refine ⟨v, q1, by show 2 ≤ sizeLine; exact small_sz (by decide), fun q ob hq hn => ?_⟩
          obtain ⟨rp, lp⟩ := rel.c.put (o := .frz ob (.tup [v, co.V])) hq
          exact out _ _ _ rp lp (.tup put_at hn (.cons (Rp.mono lp.f q2) (.cons (rp_k w4.2) .nil)))
        · exact out.elim
    · unfold exHs at out
      rw [if_neg (by rw [e]; exact Bool.false_ne_true)] at out
      exact ih f x f1 f2 g env st σ H cls d D hm rel out
def tTb (mg : Str → Option Value) (cf : Nat → List Va → Stt → R Va) (b : Tb) (W : WX) : TS := match b with
  | .set _ i e _ _ => tAsg (tR mg W (ev cf e)) (gName i)
  | .ex e _ => tDrop (tR mg W (ev cf e))
theorem ctx_tr (c : Ctx nm cf k none W X) {W' : WX} {pn : List (Addr × Obj)} {xe : Value → Shared → Prop} (tk : Takes (X.tr pn xe) W') (ow : PassesOwn (model X.prog X.w) X.A X.env xe) : Ctx nm cf k none W' (X.tr pn xe) where
  nd := c.nd
  calm := c.calm
  tk := tk
  own := ow
  room := c.room
  bl := c.bl
  fnb := c.fnb
  xa := c.xa
  stk := c.stk
  frm := c.frm
  fn := c.fn
theorem pss_tb (c : Ctx nm cf k none W X) (b : Tb) (h : wfTb nm X.N X.env.scope b = true) {W' : WX} {pn : List (Addr × Obj)} {xe : Value → Shared → Prop} (tk : Takes (X.tr pn xe) W') (ow : PassesOwn (model X.prog X.w) X.A X.env xe) : PSs (X.tr pn xe) [b.py] (tTb X.mg cf b W') := by
  have c' := ctx_tr c tk ow
  cases b with
  | set x i e p px =>
    simp only [wfTb, Bool.and_eq_true, Bool.not_eq_true'] at h
    obtain ⟨l1, l2, l3⟩ := locN c' h.1.1
    exact pss_one (ps_set c'.nd l1 l2 ((sound nm cf e).1 k none W' _ c' h.1.2) (sw_no h.2 _ _ _) l3)
  | ex e p =>
    simp only [wfTb, Bool.and_eq_true, Bool.not_eq_true'] at h
    exact pss_one (ps_expr ((sound nm cf e).1 k none W' _ c' h.1) (sw_no h.2 _ _ _))
theorem sp_tr {b : Tb} {h : Hdl} {hs : List Hdl} {kn : List (Nat × Str)} {p : Nat} : SP1 nm cf (.tr b h hs kn p) (.Try [b.py] (h.py :: hs.map Hdl.py) [] [] (ps p)) := fun k W X c hw => by
  simp only [wfS, Bool.and_eq_true] at hw
  obtain ⟨⟨⟨w1, w2⟩, w3⟩, w4⟩ := hw
  obtain ⟨l, hl, key⟩ := hds_ok c (h :: hs) (by rw [List.all_cons, w2, w3]; rfl)
  refine (ps_try_many (c.stk rfl) (c.frm rfl) c.tk (tb := tTb X.mg cf b) (fun W' pn xe tk ow => pss_tb c b w1 tk ow) hl).impB ?_
  rintro D σ H ⟨g, env, st, rel, out⟩
  have hk : ∀ (cx : Str) (st' : Stt), OutS X.mg W g (if (kn.any fun q => q.2 == cx) = true then exHs cx env st' (h :: hs) else .stuck) D → ∀ cls d H' g', Rel g' env st' σ H' → g.le g' → X.mg cx = some cls → wMany X.K W D l cls d σ H' := by
    intro cx st' o cls d H' g' rel' le' hm
    split at o
    · rename_i hk
      obtain ⟨q, hq, e⟩ := List.any_eq_true.mp hk
      have e' := eq_of_beq e
      subst e'
      obtain ⟨y1, y2⟩ := xcB_of (List.all_eq_true.mp w4 q hq)
      exact key q.1 q.2 y1 y2 g' env st' σ H' cls d D hm rel' (OutS.up le' o)
    · exact o.elim
  have out : OutS X.mg W g (exTr (exTb cf b env st) kn (h :: hs) env) D := out
  cases b with
  | set x i e q px =>
    refine ⟨g, env, st, rel, ?_⟩
    simp only [exTb] at out
    generalize ev cf e env st = r at out
    cases r with
    | ok x st' => exact fun H' g' rel' le' v hv => OutS.nx (rel'.set hv) (OutS.up le' out)
    | exc cx st' => exact fun cls d H' g' rel' le' hm => hk cx st' out cls d H' g' rel' le' hm
    | stuck => exact out
  | ex e q =>
    refine ⟨g, env, st, rel, ?_⟩
    simp only [exTb] at out
    generalize ev cf e env st = r at out
    cases r with
    | ok x st' => exact fun H' g' rel' le' v hv => OutS.nx rel' (OutS.up le' out)
    | exc cx st' => exact fun cls d H' g' rel' le' hm => hk cx st' out cls d H' g' rel' le' hm
    | stuck => exact out
/-! ### all of them -/
mutual
theorem soundS (nm : Nat → Option Str) (cf : Nat → List Va → Stt → R Va) : (a : S) → SSt nm cf a
  | .set x i e p px => ss_of rfl sp_set
  | .own x i e p px => ss_of rfl sp_own
  | .frz i => ss_frz
  | .shr i => ss_shr
  | .unp tg e p => ss_of rfl sp_unp
  | .par x i px y j py kt pt a b k2 p2 p => ss_of rfl sp_par
  | .paro x i px y j py kt pt a b k2 p2 p => ss_of rfl sp_paro
  | .rapp a e p p1 pa => ss_of rfl sp_rapp
  | .oapp x i px e p p1 pa => ss_of rfl sp_oapp
  | .oext x i px e p p1 pa => ss_of rfl sp_oext
  | .ex e p => ss_of rfl sp_ex
  | .ret e p => ss_of rfl sp_ret
  | .ife c t e p => ss_of rfl (sp_ife (soundSs nm cf t) (soundSs nm cf e))
  | .loop tg it b p => ss_of rfl (sp_loop (soundSs nm cf b))
  | .whl c b f p => ss_of rfl (sp_whl (soundSs nm cf b))
  | .nev s => ss_of rfl sp_nev
  | .oset x i px b e p pt => ss_of rfl sp_oset
  | .opop tg x i px p p1 pa => ss_of rfl sp_opop
  | .nest x i a b c d ja jb jc jd qa qb qc qd p1 p2 pl p px => ss_of rfl sp_nest
  | .rset o b e p pt => ss_of rfl sp_rset
  | .rse f x p pc pn => ss_of rfl sp_rse
  | .paroo x i px y j py kt pt a b k2 p2 p => ss_of rfl sp_paroo
  | .par3 x i px y j py z l pz kt pt a b c k2 p2 p => ss_of rfl sp_par3
  | .par3o x i px y j py z l pz kt pt a b c k2 p2 p => ss_of rfl sp_par3o
  | .unpf x i px y j py kt pt a b k2 p2 p => ss_of rfl sp_unpf
  | .parf x i px y j py kt pt a b k2 p2 p => ss_of rfl sp_parf
  | .tr b h hs kn p => ss_of rfl sp_tr
theorem soundSs (nm : Nat → Option Str) (cf : Nat → List Va → Stt → R Va) : (a : Ss) → SSs nm cf a
  | .nil => fun k W X c hw => by
    refine pss_nil.impB ?_
    rintro D σ H ⟨g, env, st, rel, out⟩
    exact out.nx rel
  | .cons a r => fun k W X c hw => by
    simp only [wfSs, Bool.and_eq_true] at hw
    refine (soundS nm cf a k W X r.py (exs cf r) c hw.1 (soundSs nm cf r k W X c hw.2)).impB ?_
    rintro D σ H ⟨g, env, st, rel, out⟩
    refine ⟨g, env, st, rel, ?_⟩
    simp only [exs] at out
    show OutS X.mg W g ((ex cf a env st).bind (cont (exs cf r))) D
    generalize ex cf a env st = q at out ⊢
    cases q with
    | ok fl st => cases fl <;> exact out
    | exc c st => exact out
    | stuck => exact out
end
end
end Bz
/-! Defs by their bodies; the law. -/
namespace Bz
open PySem PySem.Spec PyProof.Rows L2
/-- the facts of one def -/
structure DefF (K : PySem.W.Frag) (mg : Str → Option Value) (nm : Nat → Option Str) (d : Fd) (x : Str) : Prop where
  ex : ∃ (st : Stmt) (a : Addr) (fd : FuncData) (N pn : List Str), mg x = some (.ref a) ∧ Fun K x x st a fd ∧ FnScope N pn (defScope st) ∧ Binds K fd pn [] ∧ d.body.py = defBody st ∧ wfSs nm N (defScope st) d.body = true ∧ d.n = N.length ∧ d.np = pn.length
theorem rep_get {g : Gh} : ∀ {vs : List V} {xs : List Va} {i : Nat} {x : Va}, RepAll g vs xs → xs[i]? = some x → ∃ v, vs[i]? = some v ∧ RepV g v x
  | [], [], _, _, _, e => by simp at e
  | v :: vs, x :: xs, 0, _, ⟨h, _⟩, e => by simp at e; subst e; exact ⟨v, rfl, h⟩
  | v :: vs, x :: xs, i + 1, y, ⟨_, t⟩, e => by
    obtain ⟨w, h1, h2⟩ := rep_get (i := i) (x := y) t (by simpa using e)
    exact ⟨w, by simpa using h1, h2⟩
  | [], _ :: _, _, _, h, _ => h.elim
  | _ :: _, [], _, _, h, _ => h.elim
theorem env0 {g : Gh} {H : Hp} {vs : List V} {xs : List Va} {N : List Str} (h : RepAll g vs xs) (hn : xs.length ≤ N.length) : EnvR g (xs.map .v ++ List.replicate (N.length - xs.length) .non) (L2.start N vs) H := by
  have hl := h.length
  have low : ∀ (i : Nat) (s : Sl), (xs.map Sl.v ++ List.replicate (N.length - xs.length) Sl.non)[i]? = some s → (∃ x, s = .v x ∧ xs[i]? = some x) ∨ s = .non := fun i s e => by
    by_cases hi : i < xs.length
    · rw [List.getElem?_append_left (by simpa using hi), List.getElem?_map] at e
      obtain ⟨x, h1, h2⟩ := Option.map_eq_some_iff.mp e
      exact .inl ⟨x, h2.symm, h1⟩
    · rw [List.getElem?_append_right (by simpa using hi)] at e
      have := List.mem_of_getElem? e
      exact .inr (List.eq_of_mem_replicate this)
  refine ⟨?_, fun i x e => ?_, fun i ys e => ?_, fun i j ys zs a e1 e2 _ _ => ?_⟩
  · unfold L2.start
    simp only [List.length_append, List.length_map, List.length_replicate]
    omega
  · rcases low i _ e with ⟨y, h1, h2⟩ | h1
    · cases h1
      obtain ⟨v, h3, h4⟩ := rep_get h h2
      refine ⟨v, ?_, h4⟩
      unfold L2.start
      have hi : i < vs.length := (List.getElem?_eq_some_iff.mp h3).1
      rw [List.getElem?_append_left (by simpa using hi), List.getElem?_map, h3]
      rfl
    · cases h1
  · rcases low i _ e with ⟨y, h1, h2⟩ | h1
    · cases h1
    · cases h1
  · rcases low i _ e1 with ⟨y, h1, h2⟩ | h1
    · cases h1
    · cases h1
section
variable {P : Program} {w : World} {K : PySem.W.Frag} {mg : Str → Option Value} {base : Heap} {nm : Nat → Option Str} {G : Nat → Option Fd}
theorem stuck_ok {f : Addr} {fd : FuncData} {k : Nat} {pn : List Str} {h : List Va → Stt → R Va} (hs : ∀ xs st, h xs st = .stuck) : FnOk P w K mg base (L2.CX P w) k f fd pn (spF mg h) := by
  have no : ∀ vs H Q E, ¬ spF mg h vs H Q E := by
    rintro vs H Q E ⟨g, xs, st, _, _, q⟩
    rw [hs] at q
    exact q
  exact ⟨fun vs H Q E q => (no _ _ _ _ q).elim, fun A outer s H args us vs Q E _ _ _ _ q => (no _ _ _ _ q).elim⟩
theorem step_ok {n f : Nat} {x : Str} {d : Fd} {st : Stmt} {a : Addr} {fd : FuncData} {N pn : List Str} (hbl : ∀ b ∈ bltNames, mg b = none) (hxa : XcOk K mg nm) (hd : G f = some d) (h2 : Fun K x x st a fd) (h3 : FnScope N pn (defScope st)) (h5 : d.body.py = defBody st) (h6 : wfSs nm N (defScope st) d.body = true) (h7 : d.n = N.length) (h8 : d.np = pn.length)
    (ih : ∀ (f' : Nat) (x' : Str), f' < 1000 → nm f' = some x' → ∃ a fd pn, mg x' = some (.ref a) ∧ PySem.W.keepIn K (.ref a) = true ∧ Binds K fd pn [] ∧ FnOk P w K mg base (L2.CX P w) n a fd pn (spF mg (run G n f'))) : FnOk P w K mg base (L2.CX P w) (n + 1) a fd pn (spF mg (run G (n + 1) f)) := by
    have er : ∀ xs st, run G (n + 1) f xs st = runB (run G n) d xs st := fun xs st => by
      show (match G f with | some d => runB (run G n) d xs st | none => R.stuck) = _
      rw [hd]
    refine h2.okX h3 ?_ ?_
    · rintro vs H Q E ⟨g, xs, st', rc, ra, q⟩
      rw [er] at q
      unfold runB at q
      by_cases hl : xs.length = d.np
      · rw [ra.length, hl, h8]
      · rw [if_neg hl] at q; exact q.elim
    · rintro cdv A outer s H vs Q E hr ⟨g, xs, st', rc, ra, q⟩
      rw [er] at q
      unfold runB at q
      have hl : xs.length = d.np := by
        by_cases hl : xs.length = d.np
        · exact hl
        · rw [if_neg hl] at q; exact q.elim
      rw [if_pos hl] at q
      have C : Ctx nm (run G n) n none (fun cls dd _ H => E cls dd H) (cxOf (L2.CX P w) P w K mg base N x (defScope st) a cdv A outer s H E) :=
        ⟨h3.nd, rfl, takes_of rfl rfl rfl rfl, passes_of rfl, hr, hbl, fun _ _ => rfl, hxa, fun _ => rfl, fun _ => rfl, ih⟩
      refine ⟨tS mg (fun cls dd _ H => E cls dd H) (exs (run G n) d.body), h5 ▸ soundSs nm (run G n) d.body n _ _ C h6, g, _, st', ⟨rc, env0 (N := N) ra ?_⟩, ?_⟩
      · have := h3.pre
        have hp : pn.length ≤ N.length := by
          rw [← this, List.length_take]; omega
        omega
      · rw [← h7]
        show OutS mg _ g (exs (run G n) d.body (xs.map .v ++ List.replicate (d.n - xs.length) .non) st') _
        generalize exs (run G n) d.body (xs.map .v ++ List.replicate (d.n - xs.length) .non) st' = r at q
        match r, q with
        | .ok (.nx env) st2, q => exact fun σ' H' g' rel le => q .non H' g' rel.c le .non
        | .ok (.rt y) st2, q => exact q
        | .exc c st2, q => exact fun cls dd σ' H' g' rc le hm => q cls dd H' g' rc le hm
theorem all_ok (hbl : ∀ b ∈ bltNames, mg b = none) (hxa : XcOk K mg nm) (T : ∀ f x, f < 1000 → nm f = some x → ∃ d, G f = some d ∧ DefF K mg nm d x) : ∀ (n : Nat) (f : Nat) (x : Str), f < 1000 → nm f = some x → ∃ a fd pn, mg x = some (.ref a) ∧ PySem.W.keepIn K (.ref a) = true ∧ Binds K fd pn [] ∧ FnOk P w K mg base (L2.CX P w) n a fd pn (spF mg (run G n f))
  | 0, f, x, hf, hx => by
    obtain ⟨d, hd, ⟨st, a, fd, N, pn, h1, h2, h3, h4, h5, h6, h7, h8⟩⟩ := T f x hf hx
    exact ⟨a, fd, pn, h1, h2.kp, h4, stuck_ok fun _ _ => rfl⟩
  | n + 1, f, x, hf, hx => by
    obtain ⟨d, hd, ⟨st, a, fd, N, pn, h1, h2, h3, h4, h5, h6, h7, h8⟩⟩ := T f x hf hx
    exact ⟨a, fd, pn, h1, h2.kp, h4, step_ok hbl hxa hd h2 h3 h5 h6 h7 h8 fun f' x' hf' hx' => all_ok hbl hxa T n f' x' hf' hx'⟩
/-- the law's promise, for all tables of names -/
def spL (h : List Va → Stt → R Va) : Sp := fun vs H Q E => ∀ mg, spF mg h vs H Q E
theorem law_of {n f : Nat} {x : Str} {d : Fd} {st : Stmt} {a : Addr} {fd : FuncData} {N pn : List Str} (hbl : ∀ b ∈ bltNames, mg b = none) (hxa : XcOk K mg nm) (T : ∀ f x, f < 1000 → nm f = some x → ∃ d, G f = some d ∧ DefF K mg nm d x) (hd : G f = some d) (h2 : Fun K x x st a fd) (h3 : FnScope N pn (defScope st)) (h5 : d.body.py = defBody st) (h6 : wfSs nm N (defScope st) d.body = true) (h7 : d.n = N.length) (h8 : d.np = pn.length) :
    FnOk P w K mg base (L2.CX P w) (n + 1) a fd pn (spL (run G (n + 1) f)) := by
  have h := step_ok (P := P) (w := w) (base := base) (n := n) hbl hxa hd h2 h3 h5 h6 h7 h8 fun f' x' hf' hx' => all_ok hbl hxa T n f' x' hf' hx'
  exact ⟨fun vs H Q E q => h.1 vs H Q E (q mg), fun A outer s H args us vs Q E a1 a2 a3 a4 q => h.2 A outer s H args us vs Q E a1 a2 a3 a4 (q mg)⟩
/-- a def's facts, from what the top has left -/
theorem def_mk {x : Str} {st : Stmt} {a : Addr} {oc : Value} {od an : Option Addr} {osl : Array (Option Value)} {kV doc pm cdv ct : Value} {d : Fd} (N pn : List Str) (hm : mg x = some (.ref a))
    (l : K.lookup a = some ⟨oc, od, .func (PySem.W.fnOf x x (defArgs st) (defBody st) (defScope st) .none kV doc pm an cdv ct), osl⟩) (c : PySem.W.codeIn K cdv x = true) (k : PySem.W.keepIn K (.ref a) = true)
    (S : FnScope N pn (defScope st)) (hb : ∀ (kV doc pm : Value) (an : Option Addr) (cdv ct : Value) (us : List Value), us.length = pn.length → bindArgs (PySem.W.fnOf x x (defArgs st) (defBody st) (defScope st) .none kV doc pm an cdv ct) ⟨us, []⟩ = pure (pn.zip us))
    (e1 : d.body.py = defBody st) (e2 : wfSs nm N (defScope st) d.body = true) (e3 : d.n = N.length) (e4 : d.np = pn.length) : DefF K mg nm d x :=
  have F := fun_mk (st := st) l c k
  ⟨st, a, _, N, pn, hm, F, S, F.binds hb, e1, e2, e3, e4⟩
end
/-- no list among what the top has left -/
def noList (K : PySem.W.Frag) : Bool := K.all fun q => !(q.2.cls == .type "list")
theorem noList_of {K : PySem.W.Frag} (h : noList K = true) {a : Addr} {o : Obj} (e : K.lookup a = some o) : o.cls ≠ .type "list" := by
  induction K with
  | nil => cases e
  | cons q r ih =>
    obtain ⟨b, p⟩ := q
    unfold noList at h
    rw [List.all_cons, Bool.and_eq_true] at h
    rw [List.lookup_cons] at e
    split at e
    · cases e
      intro z
      have h1 := h.1
      simp only [z] at h1
      cases h1
    · exact ih h.2 e
theorem law_sp {K : PySem.W.Frag} {mg : Str → Option Value} {h : List Va → Stt → R Va} {H : Hp} {a : Addr} {ns : List Int} (nl : noList K = true) (hO : Only H) (hS : SqL K H a (ns.map V.int)) (hr : ∃ st, h [.ref 0] [.scr ns] = .ok (.d (.bool true)) st) : spF mg h [.ref a] H (fun v _ => v = .bl true) fun _ _ _ => False := by
  have ho : ∃ o, H a = some (.frz o (.lst (ns.map V.int))) := by
    rcases hS with (e | ⟨o, e⟩) | ⟨o, its, n, hk, hc, _⟩
    · rcases hO a with z | ⟨o, xs, z⟩
      · rw [e] at z; cases z
      · rw [e] at z; cases z
    · exact ⟨o, e⟩
    · exact absurd hc (noList_of nl hk)
  obtain ⟨st, hr⟩ := hr
  have one : ∀ (n : Nat) (b : Addr), (if n = 0 then some a else none) = some b → n = 0 := fun n b e => by
    by_cases q : n = 0
    · exact q
    · rw [if_neg q] at e; cases e
  refine ⟨⟨fun _ => none, fun n => if n = 0 then some a else none, fun _ => none⟩, [.ref 0], [.scr ns], ⟨fun b o e => (by cases e), fun b o e => (by cases e), fun b o e => (by cases e), fun n o e => ?_, fun n m b e1 e2 => ?_, fun n b e => ?_⟩, ⟨⟨a, rfl, rfl⟩, trivial⟩, ?_⟩
  · cases n with
    | zero => cases e; exact ⟨a, rfl, rfl, rfl, ho⟩
    | succ n => simp at e
  · rw [one n b e1, one m b e2]
  · rw [one n b e]
    exact Nat.zero_lt_one
  · rw [hr]
    intro v H' g' _ _ rv
    cases rv
    rfl
theorem cx_no {P : Program} {w : World} {H : Hp} {s : Shared} {e : Value} {s' : Shared} (h : L2.CX P w [] H s (fun _ _ _ => False) e s') : False := by
  obtain ⟨_, _, _, _, _, _, _, _, _, _, _, _, z⟩ := h
  exact z
end Bz
/-! What a run must come to: rules for going through it. -/
namespace Bz
open PySem
structure Post {α : Type} (r : R α) (P : α → Stt → Prop) : Prop where
  ex : ∃ a s, r = .ok a s ∧ P a s
theorem post_ok {α : Type} {a : α} {s : Stt} {P : α → Stt → Prop} : Post (.ok a s) P ↔ P a s := ⟨fun ⟨_, _, e, h⟩ => (by cases e; exact h), fun h => ⟨_, _, rfl, h⟩⟩
theorem post_exc {α : Type} {c : Str} {s : Stt} {P : α → Stt → Prop} : Post (.exc c s) P ↔ False := ⟨fun ⟨_, _, e, h⟩ => (by cases e), fun h => h.elim⟩
theorem post_stuck {α : Type} {P : α → Stt → Prop} : Post .stuck P ↔ False := ⟨fun ⟨_, _, e, h⟩ => (by cases e), fun h => h.elim⟩
theorem post_bind {α β : Type} {r : R α} {f : α → Stt → R β} {P : β → Stt → Prop} : Post (r.bind f) P ↔ Post r fun a s => Post (f a s) P := by
  cases r with
  | ok a s => rw [post_ok]; exact Iff.rfl
  | exc => rw [post_exc]; exact post_exc
  | stuck => rw [post_stuck]; exact post_stuck
theorem bind_ok {α β : Type} {a : α} {s : Stt} {f : α → Stt → R β} : (R.ok a s).bind f = f a s := rfl
theorem lift_some {α : Type} {a : α} {s : Stt} : lift (some a) s = .ok a s := rfl
theorem post_lift {α : Type} {o : Option α} {s : Stt} {P : α → Stt → Prop} : Post (lift o s) P ↔ ∃ a, o = some a ∧ P a s := by
  cases o with
  | none => exact ⟨fun h => (post_stuck.mp h).elim, fun ⟨_, h, _⟩ => by cases h⟩
  | some a => exact ⟨fun h => ⟨a, rfl, post_ok.mp h⟩, fun ⟨_, h, k⟩ => by cases h; exact post_ok.mpr k⟩
theorem post_noexc {α : Type} {r : R α} {P : α → Stt → Prop} : Post (noexc r) P ↔ Post r P := by
  cases r with
  | ok a s => exact Iff.rfl
  | exc => exact post_stuck.trans post_exc.symm
  | stuck => exact Iff.rfl
theorem post_ite {α : Type} {c : Prop} [Decidable c] {a b : R α} {P : α → Stt → Prop} : Post (if c then a else b) P ↔ if c then Post a P else Post b P := by
  split <;> exact Iff.rfl
theorem Post.imp {α : Type} {r : R α} {P Q : α → Stt → Prop} (h : Post r P) (k : ∀ a s, P a s → Q a s) : Post r Q := by
  obtain ⟨a, s, e, h⟩ := h
  exact ⟨a, s, e, k a s h⟩
theorem Post.of_eq {α : Type} {r : R α} {a : α} {s : Stt} {P : α → Stt → Prop} (h : r = .ok a s) (k : P a s) : Post r P := ⟨a, s, h, k⟩
theorem Post.eq {α : Type} {r : R α} {a : α} {s : Stt} (h : Post r fun b t => b = a ∧ t = s) : r = .ok a s := by
  obtain ⟨b, t, e, h1, h2⟩ := h
  subst h1; subst h2; exact e
theorem Post.eqQ {α : Type} {r : R α} {a : α} {s : Stt} (h : ∀ P : α → Stt → Prop, P a s → Post r P) : r = .ok a s := Post.eq (h _ ⟨rfl, rfl⟩)
def Fk (f : List Sl → Stt → R Fl) (P : Fl → Stt → Prop) : Fl → Stt → Prop
  | .nx e, s => Post (f e s) P
  | .rt v, s => P (.rt v) s
def Fr (P : Va → Stt → Prop) : Fl → Stt → Prop
  | .nx _, s => P (.d .none) s
  | .rt v, s => P v s
theorem fk_nx {f : List Sl → Stt → R Fl} {P : Fl → Stt → Prop} {e : List Sl} {s : Stt} : Fk f P (.nx e) s ↔ Post (f e s) P := Iff.rfl
theorem fk_rt {f : List Sl → Stt → R Fl} {P : Fl → Stt → Prop} {v : Va} {s : Stt} : Fk f P (.rt v) s ↔ P (.rt v) s := Iff.rfl
theorem fr_nx {P : Va → Stt → Prop} {e : List Sl} {s : Stt} : Fr P (.nx e) s ↔ P (.d .none) s := Iff.rfl
theorem fr_rt {P : Va → Stt → Prop} {v : Va} {s : Stt} : Fr P (.rt v) s ↔ P v s := Iff.rfl
@[irreducible] def xB (cf : Nat → List Va → Stt → R Va) (b : Ss) (env : List Sl) (st : Stt) : R Fl := exs cf b env st
theorem xB_eq (cf : Nat → List Va → Stt → R Va) (b : Ss) (env : List Sl) (st : Stt) : exs cf b env st = xB cf b env st := by unfold xB; rfl
@[irreducible] def rn (G : Nat → Option Fd) (n f : Nat) (xs : List Va) (st : Stt) : R Va := run G n f xs st
theorem rn_eq (G : Nat → Option Fd) (n f : Nat) (xs : List Va) (st : Stt) : run G n f xs st = rn G n f xs st := by unfold rn; rfl
section
variable {cf : Nat → List Va → Stt → R Va}
theorem post_nil {env : List Sl} {st : Stt} {P : Fl → Stt → Prop} : Post (xB cf .nil env st) P ↔ P (.nx env) st := by
  rw [← xB_eq]; exact post_ok
theorem post_cons {a : S} {r : Ss} {env : List Sl} {st : Stt} {P : Fl → Stt → Prop} : Post (xB cf (.cons a r) env st) P ↔ Post (ex cf a env st) (Fk (xB cf r) P) := by
  rw [← xB_eq]
  simp only [exs, post_bind, xB_eq]
  cases ex cf a env st with
  | ok fl s => rw [post_ok, post_ok]; cases fl <;> first | exact Iff.rfl | exact post_ok
  | exc => rw [post_exc, post_exc]
  | stuck => rw [post_stuck, post_stuck]
theorem post_runB {d : Fd} {xs : List Va} {st : Stt} {P : Va → Stt → Prop} : Post (runB cf d xs st) P ↔ xs.length = d.np ∧ Post (xB cf d.body (xs.map .v ++ List.replicate (d.n - xs.length) .non) st) (Fr P) := by
  rw [← xB_eq]
  unfold runB
  split
  · rw [post_bind]
    rename_i hl
    cases exs cf d.body (xs.map .v ++ List.replicate (d.n - xs.length) .non) st with
    | ok fl s =>
      cases fl
      · constructor
        · intro h
          have h1 := post_ok.mp h
          have h2 := post_ok.mp h1
          exact ⟨hl, post_ok.mpr h2⟩
        · intro h
          have h1 := post_ok.mp h.2
          refine post_ok.mpr ?_
          exact (post_ok (a := Va.d .none) (P := P)).mpr h1
      · constructor
        · intro h
          have h1 := post_ok.mp h
          have h2 := post_ok.mp h1
          exact ⟨hl, post_ok.mpr h2⟩
        · intro h
          have h1 := post_ok.mp h.2
          refine post_ok.mpr ?_
          exact (post_ok (α := Va) (P := P)).mpr h1
    | exc => rw [post_exc, post_exc]; exact ⟨fun h => h.elim, fun h => h.2⟩
    | stuck => rw [post_stuck, post_stuck]; exact ⟨fun h => h.elim, fun h => h.2⟩
  · exact ⟨fun h => (post_stuck.mp h).elim, fun h => absurd h.1 ‹_›⟩
end
theorem for_post {tg : Tg} {body : List Sl → Stt → R Fl} {P : Fl → Stt → Prop} (I : Nat → List Sl → Stt → Prop) : ∀ (xs : List PyData) {env : List Sl} {st : Stt} (n : Nat), I n env st →
    (∀ i x env st, xs[i]? = some x → I (n + i) env st → ∃ env1, stoT env tg x = some env1 ∧ Post (body env1 st) fun fl s => match fl with | .nx e2 => I (n + i + 1) e2 s | .rt v => P (.rt v) s) →
    (∀ env st, I (n + xs.length) env st → P (.nx env) st) → Post (forLoop tg body xs env st) P
  | [], env, st, n, h0, hs, he => post_ok.mpr (he env st h0)
  | x :: xs, env, st, n, h0, hs, he => by
    obtain ⟨env1, h1, h2⟩ := hs 0 x env st rfl h0
    unfold forLoop
    rw [h1]
    simp only [post_bind]
    refine h2.imp fun fl s h => ?_
    cases fl with
    | rt v => exact post_ok.mpr h
    | nx e2 =>
      refine for_post I xs (n + 1) h (fun i y e s h1 h2 => ?_) fun e s h => he e s ?_
      · have := hs (i + 1) y e s (by simpa using h1) (by rw [show n + (i + 1) = n + 1 + i by omega]; exact h2)
        rw [show n + (i + 1) = n + 1 + i by omega] at this
        exact this
      · rw [List.length_cons, show n + (xs.length + 1) = n + 1 + xs.length by omega]; exact h
theorem lc_post {tg : Tg} {own : List Nat} {test : List Sl → Stt → R Bool} {elt : List Sl → Stt → R Va} {env : List Sl} {P : Va → Stt → Prop} (I : Nat → List PyData → Stt → Prop) : ∀ (xs : List PyData) (acc : List PyData) {st : Stt} (n : Nat), I n acc st →
    (∀ i x acc st, xs[i]? = some x → I (n + i) acc st → ∃ env1, stoT (wipeS env own) tg x = some env1 ∧ Post (test env1 st) fun b s => if b = true then Post (elt env1 s) fun y s => ∃ z, y = .d z ∧ acc.length < szl ∧ I (n + i + 1) (acc ++ [z]) s else I (n + i + 1) acc s) →
    (∀ acc st, I (n + xs.length) acc st → P (.d (.list acc)) st) → Post (lcLoop tg own test elt env xs acc st) P
  | [], acc, st, n, h0, hs, he => post_ok.mpr (he acc st h0)
  | x :: xs, acc, st, n, h0, hs, he => by
    obtain ⟨env1, h1, h2⟩ := hs 0 x acc st rfl h0
    have next : ∀ a s, I (n + 1) a s → Post (lcLoop tg own test elt env xs a s) P := fun a s h => by
      refine lc_post I xs a (n + 1) h (fun i y e s h1 h2 => ?_) fun e s h => he e s ?_
      · have := hs (i + 1) y e s (by simpa using h1) (by rw [show n + (i + 1) = n + 1 + i by omega]; exact h2)
        rw [show n + (i + 1) = n + 1 + i by omega] at this
        exact this
      · rw [List.length_cons, show n + (xs.length + 1) = n + 1 + xs.length by omega]; exact h
    unfold lcLoop
    rw [h1]
    simp only [post_bind, post_noexc]
    refine h2.imp fun b s h => ?_
    rw [post_ite]
    split
    · rw [if_pos ‹_›] at h
      simp only [post_bind, post_noexc]
      refine h.imp fun y s h => ?_
      obtain ⟨z, rfl, hl, hI⟩ := h
      simp only [post_ite, if_pos hl]
      exact next _ _ hI
    · rw [if_neg ‹_›] at h
      exact next _ _ h
/-- a comprehension that only looks -/
theorem lc_pure {tg : Tg} {own : List Nat} {test : List Sl → Stt → R Bool} {elt : List Sl → Stt → R Va} {env : List Sl} {st : Stt} (p : PyData → Bool) (f : PyData → PyData) : ∀ (xs acc : List PyData), acc.length + xs.length ≤ szl →
    (∀ x ∈ xs, ∃ env1, stoT (wipeS env own) tg x = some env1 ∧ test env1 st = .ok (p x) st ∧ (p x = true → elt env1 st = .ok (.d (f x)) st)) → lcLoop tg own test elt env xs acc st = .ok (.d (.list (acc ++ (xs.filter p).map f))) st
  | [], acc, _, _ => by simp [lcLoop]
  | x :: xs, acc, hl, h => by
    obtain ⟨env1, h1, h2, h3⟩ := h x (List.mem_cons_self ..)
    rw [List.length_cons] at hl
    unfold lcLoop
    rw [h1]
    simp only [h2, noexc, bind_ok]
    cases hp : p x with
    | false =>
      rw [if_neg (by simp), lc_pure p f xs acc (by omega) fun y hy => h y (List.mem_cons_of_mem _ hy), List.filter_cons_of_neg (by simp [hp])]
    | true =>
      rw [if_pos rfl, h3 hp]
      simp only [bind_ok]
      rw [if_pos (by omega), lc_pure p f xs (acc ++ [f x]) (by rw [List.length_append, List.length_singleton]; omega) fun y hy => h y (List.mem_cons_of_mem _ hy), List.filter_cons_of_pos hp]
      simp
theorem lc_map {α : Type} {tg : Tg} {own : List Nat} {test : List Sl → Stt → R Bool} {elt : List Sl → Stt → R Va} {env : List Sl} {st : Stt} (g : α → PyData) (p : α → Bool) (f : α → PyData) : ∀ (xs : List α) (acc : List PyData), acc.length + xs.length ≤ szl →
    (∀ x ∈ xs, ∃ env1, stoT (wipeS env own) tg (g x) = some env1 ∧ test env1 st = .ok (p x) st ∧ (p x = true → elt env1 st = .ok (.d (f x)) st)) → lcLoop tg own test elt env (xs.map g) acc st = .ok (.d (.list (acc ++ (xs.filter p).map f))) st
  | [], acc, _, _ => by simp [lcLoop]
  | x :: xs, acc, hl, h => by
    obtain ⟨env1, h1, h2, h3⟩ := h x (List.mem_cons_self ..)
    rw [List.length_cons] at hl
    rw [List.map_cons]
    unfold lcLoop
    rw [h1]
    simp only [h2, noexc, bind_ok]
    cases hp : p x with
    | false =>
      rw [if_neg (by simp), lc_map g p f xs acc (by omega) fun y hy => h y (List.mem_cons_of_mem _ hy), List.filter_cons_of_neg (by simp [hp])]
    | true =>
      rw [if_pos rfl, h3 hp]
      simp only [bind_ok]
      rw [if_pos (by omega), lc_map g p f xs (acc ++ [f x]) (by rw [List.length_append, List.length_singleton]; omega) fun y hy => h y (List.mem_cons_of_mem _ hy), List.filter_cons_of_pos hp]
      simp
theorem run_at {G : Nat → Option Fd} {n f : Nat} {d : Fd} {xs : List Va} {st : Stt} (h : G f = some d) : rn G (n + 1) f xs st = runB (rn G n) d xs st := by
  have e : rn G n = run G n := by funext f xs st; exact (rn_eq ..).symm
  rw [e, ← rn_eq]
  show (match G f with | some d => runB (run G n) d xs st | none => R.stuck) = _
  rw [h]
/-! ### runs that end with an exception -/
structure Px {α : Type} (r : R α) (c : Str) (s : Stt) : Prop where
  eq : r = .exc c s
theorem px_ok {α : Type} {a : α} {t : Stt} {c : Str} {s : Stt} : Px (.ok a t) c s ↔ False := ⟨fun ⟨e⟩ => (by cases e), fun h => h.elim⟩
theorem px_exc {α : Type} {c d : Str} {s t : Stt} : Px (.exc d t : R α) c s ↔ d = c ∧ t = s := ⟨fun ⟨e⟩ => (by cases e; exact ⟨rfl, rfl⟩), fun ⟨h, k⟩ => ⟨by rw [h, k]⟩⟩
theorem px_stuck {α : Type} {c : Str} {s : Stt} : Px (.stuck : R α) c s ↔ False := ⟨fun ⟨e⟩ => (by cases e), fun h => h.elim⟩
theorem px_bind {α β : Type} {r : R α} {f : α → Stt → R β} {c : Str} {s : Stt} : Px (r.bind f) c s ↔ Px r c s ∨ Post r fun a t => Px (f a t) c s := by
  cases r with
  | ok a t => rw [post_ok, px_ok, false_or]; exact Iff.rfl
  | exc d t => rw [post_exc, or_false]; exact ⟨fun ⟨e⟩ => ⟨by cases e; rfl⟩, fun ⟨e⟩ => ⟨by cases e; rfl⟩⟩
  | stuck => rw [post_stuck, or_false]; exact ⟨fun ⟨e⟩ => (by cases e), fun ⟨e⟩ => (by cases e)⟩
theorem px_lift {α : Type} {o : Option α} {t : Stt} {c : Str} {s : Stt} : Px (lift o t) c s ↔ False := by
  cases o with
  | none => exact px_stuck
  | some a => exact px_ok
theorem px_ite {α : Type} {p : Prop} [Decidable p] {a b : R α} {c : Str} {s : Stt} : Px (if p then a else b) c s ↔ if p then Px a c s else Px b c s := by
  split <;> exact Iff.rfl
def Fx (f : List Sl → Stt → R Fl) (c : Str) (s : Stt) : Fl → Stt → Prop
  | .nx e, t => Px (f e t) c s
  | .rt _, _ => False
theorem fx_nx {f : List Sl → Stt → R Fl} {c : Str} {s : Stt} {e : List Sl} {t : Stt} : Fx f c s (.nx e) t ↔ Px (f e t) c s := Iff.rfl
theorem fx_rt {f : List Sl → Stt → R Fl} {c : Str} {s : Stt} {v : Va} {t : Stt} : Fx f c s (.rt v) t ↔ False := Iff.rfl
section
variable {cf : Nat → List Va → Stt → R Va}
theorem px_nil {env : List Sl} {st : Stt} {c : Str} {s : Stt} : Px (xB cf .nil env st) c s ↔ False := by
  rw [← xB_eq]; exact px_ok
theorem px_cons {a : S} {r : Ss} {env : List Sl} {st : Stt} {c : Str} {s : Stt} : Px (xB cf (.cons a r) env st) c s ↔ Px (ex cf a env st) c s ∨ Post (ex cf a env st) (Fx (xB cf r) c s) := by
  rw [← xB_eq]
  simp only [exs]
  rw [px_bind]
  refine or_congr_right ?_
  cases ex cf a env st with
  | ok fl s =>
    rw [post_ok, post_ok]
    cases fl
    · simp only [xB_eq]; exact Iff.rfl
    · exact px_ok
  | exc => rw [post_exc, post_exc]
  | stuck => rw [post_stuck, post_stuck]
theorem px_runB {d : Fd} {xs : List Va} {st : Stt} {c : Str} {s : Stt} : Px (runB cf d xs st) c s ↔ xs.length = d.np ∧ Px (xB cf d.body (xs.map .v ++ List.replicate (d.n - xs.length) .non) st) c s := by
  rw [← xB_eq]
  unfold runB
  split
  · rename_i hl
    constructor
    · rintro ⟨e⟩
      refine ⟨hl, ?_⟩
      cases hr : exs cf d.body (xs.map .v ++ List.replicate (d.n - xs.length) .non) st with
      | ok fl t => rw [hr] at e; cases fl <;> cases e
      | exc => rw [hr] at e; cases e; exact ⟨rfl⟩
      | stuck => rw [hr] at e; cases e
    · rintro ⟨_, ⟨e⟩⟩
      rw [e]; exact ⟨rfl⟩
  · exact ⟨fun ⟨e⟩ => (by cases e), fun h => absurd h.1 ‹_›⟩
end
/-! ### try -/
theorem post_tr {r : R Fl} {kn : List (Nat × Str)} {hs : List Hdl} {env : List Sl} {P : Fl → Stt → Prop} : Post (exTr r kn hs env) P ↔ Post r P ∨ ∃ c s, Px r c s ∧ (kn.any fun q => q.2 == c) = true ∧ Post (exHs c env s hs) P := by
  cases r with
  | ok a s => exact ⟨fun h => .inl h, fun h => h.elim id fun ⟨c, t, h, _⟩ => (px_ok.mp h).elim⟩
  | stuck => exact ⟨fun h => .inl h, fun h => h.elim id fun ⟨c, t, h, _⟩ => (px_stuck.mp h).elim⟩
  | exc d t =>
    constructor
    · intro h
      have h : Post (if (kn.any fun q => q.2 == d) = true then exHs d env t hs else .stuck) P := h
      split at h
      · exact .inr ⟨d, t, ⟨rfl⟩, ‹_›, h⟩
      · exact (post_stuck.mp h).elim
    · rintro (h | ⟨c, s, h, hk, hp⟩)
      · exact (post_exc.mp h).elim
      · obtain ⟨rfl, rfl⟩ := px_exc.mp h
        show Post (if (kn.any fun q => q.2 == d) = true then exHs d env t hs else .stuck) P
        rw [if_pos hk]; exact hp
/-- the whole of a for loop, where a turn may end it by an exception -/
theorem Px.bind {α β : Type} {r : R α} {f : α → Stt → R β} {c : Str} {s : Stt} (h : Px r c s) : Px (r.bind f) c s := px_bind.mpr (.inl h)
end Bz
/-! What is done with values, case by case. -/
namespace Bz
open PySem
section
variable {i j : Int} {s t : Str} {xs ys : List PyData} {x y : PyData} {st : Stt} {n : Nat} {b : Bool}
theorem z_add : bop .Add (.d (.int i)) (.d (.int j)) = some (.d (.int (i + j))) := rfl
theorem z_adds : bop .Add (.d (.str s)) (.d (.str t)) = if s.length + t.length ≤ szl then some (.d (.str (s ++ t))) else none := rfl
theorem z_addt : bop .Add (.d (.tuple xs)) (.d (.tuple ys)) = if xs.length + ys.length ≤ szl then some (.d (.tuple (xs ++ ys))) else none := rfl
theorem z_addl : bop .Add (.d (.list xs)) (.d (.list ys)) = if xs.length + ys.length ≤ szl then some (.d (.list (xs ++ ys))) else none := rfl
theorem z_sub : bop .Sub (.d (.int i)) (.d (.int j)) = some (.d (.int (i - j))) := rfl
theorem z_mul : bop .Mult (.d (.int i)) (.d (.int j)) = if mulOk i j then some (.d (.int (i * j))) else none := rfl
theorem z_mult : bop .Mult (.d (.tuple xs)) (.d (.int j)) = if xs.length ≤ 1000 ∧ -1000 ≤ j ∧ j ≤ 1000 then some (.d (.tuple (rep xs j))) else none := rfl
theorem z_mull : bop .Mult (.d (.list xs)) (.d (.int j)) = if xs.length ≤ 1000 ∧ -1000 ≤ j ∧ j ≤ 1000 then some (.d (.list (rep xs j))) else none := rfl
theorem z_fdiv : bop .FloorDiv (.d (.int i)) (.d (.int j)) = if 0 < j ∧ j < 1073741824 then some (.d (.int (i / j))) else none := rfl
theorem z_mod : bop .Mod (.d (.int i)) (.d (.int j)) = if 0 < j then some (.d (.int (i % j))) else none := rfl
theorem z_eq : cmp .Eq (.d x) (.d y) = eqD x y := rfl
theorem z_ne : cmp .NotEq (.d x) (.d y) = (eqD x y).map (!·) := rfl
theorem z_eqi : eqD (.int i) (.int j) = some (decide (i = j)) := rfl
theorem z_eqb {a c : Bool} : eqD (.bool a) (.bool c) = some (a == c) := by cases a <;> cases c <;> rfl
theorem z_eqs : eqD (.str s) (.str t) = some (decide (s = t)) := rfl
theorem z_eqn : eqD .none .none = some true := rfl
theorem z_lt : cmp .Lt (.d (.int i)) (.d (.int j)) = some (decide (i < j)) := rfl
theorem z_le : cmp .LtE (.d (.int i)) (.d (.int j)) = some (decide (i ≤ j)) := rfl
theorem z_gt : cmp .Gt (.d (.int i)) (.d (.int j)) = some (decide (j < i)) := rfl
theorem z_ge : cmp .GtE (.d (.int i)) (.d (.int j)) = some (decide (j ≤ i)) := rfl
theorem z_is0 : cmp .Is (.d .none) (.d .none) = some true := rfl
theorem z_is1 : cmp .Is (.d (.int i)) (.d .none) = some false := rfl
theorem z_is2 : cmp .Is (.d (.bool b)) (.d .none) = some false := rfl
theorem z_is3 : cmp .Is (.d (.str s)) (.d .none) = some false := rfl
theorem z_is4 : cmp .Is (.d (.tuple xs)) (.d .none) = some false := rfl
theorem z_is5 : cmp .Is (.d (.list xs)) (.d .none) = some false := rfl
theorem z_in0 : cmp .IsNot (.d .none) (.d .none) = some false := rfl
theorem z_in1 : cmp .IsNot (.d (.int i)) (.d .none) = some true := rfl
theorem z_in2 : cmp .IsNot (.d (.bool b)) (.d .none) = some true := rfl
theorem z_in3 : cmp .IsNot (.d (.str s)) (.d .none) = some true := rfl
theorem z_in4 : cmp .IsNot (.d (.tuple xs)) (.d .none) = some true := rfl
theorem z_in5 : cmp .IsNot (.d (.list xs)) (.d .none) = some true := rfl
theorem z_inl : cmp .In (.d x) (.d (.list ys)) = if flat x && ys.all flat then some (inD x ys) else if min (PyData.depthAll ys) x.depth ≤ 63 then some (inD x ys) else none := rfl
theorem z_int : cmp .In (.d x) (.d (.tuple ys)) = if flat x && ys.all flat then some (inD x ys) else if min (PyData.depthAll ys) x.depth ≤ 63 then some (inD x ys) else none := rfl
theorem z_nil : cmp .NotIn (.d x) (.d (.list ys)) = if flat x && ys.all flat then some (!inD x ys) else if min (PyData.depthAll ys) x.depth ≤ 63 then some (!inD x ys) else none := rfl
theorem z_nit : cmp .NotIn (.d x) (.d (.tuple ys)) = if flat x && ys.all flat then some (!inD x ys) else if min (PyData.depthAll ys) x.depth ≤ 63 then some (!inD x ys) else none := rfl
theorem z_t0 : tru st (.d .none) = some false := rfl
theorem z_t1 : tru st (.d (.bool b)) = some b := rfl
theorem z_t2 : tru st (.d (.int i)) = some (i != 0) := rfl
theorem z_t3 : tru st (.d (.str s)) = some ((s.length : Int) != 0) := rfl
theorem z_t4 : tru st (.d (.list xs)) = some (!xs.isEmpty) := rfl
theorem z_t5 : tru st (.d (.tuple xs)) = some (!xs.isEmpty) := rfl
theorem z_tr : tru st (.ref n) = match st[n]? with | some (.lst xs) => some (!xs.isEmpty) | some (.scr xs) => some (!xs.isEmpty) | _ => none := rfl
theorem z_isb {x y : Bool} : cmp .Is (.d (.bool x)) (.d (.bool y)) = some (decide (x = y)) := rfl
theorem z_isb1 {y : Bool} : cmp .Is (.d (.int i)) (.d (.bool y)) = some false := rfl
theorem z_isb2 {y : Bool} : cmp .Is (.d (.str s)) (.d (.bool y)) = some false := rfl
theorem z_isb3 {y : Bool} : cmp .Is (.d (.tuple xs)) (.d (.bool y)) = some false := rfl
theorem z_isb4 {y : Bool} : cmp .Is (.d (.list xs)) (.d (.bool y)) = some false := rfl
theorem z_isb5 {y : Bool} : cmp .Is (.d .none) (.d (.bool y)) = some false := rfl
theorem z_addb : bop .Add (.d (.bool b)) (.d (.int j)) = some (.d (.int ((if b = true then 1 else 0) + j))) := rfl
theorem z_subb : bop .Sub (.d (.bool b)) (.d (.int j)) = some (.d (.int ((if b = true then 1 else 0) - j))) := rfl
theorem z_nsb {x y : Bool} : cmp .IsNot (.d (.bool x)) (.d (.bool y)) = some (!decide (x = y)) := rfl
theorem z_rvt : revV (.d (.tuple xs)) = some (.d (.tuple xs.reverse)) := rfl
theorem z_rvl : revV (.d (.list xs)) = some (.d (.list xs.reverse)) := rfl
theorem z_stp {lo hi : Option Int} : stepV (.d (.tuple xs)) lo hi i = if (stepL xs lo hi i).length ≤ szl then some (.d (.tuple (stepL xs lo hi i))) else none := rfl
theorem z_srl : bi .srt [.d (.list xs)] st = (intsOf xs).map fun ns => .d (.list ((sortI ns).map .int)) := rfl
theorem z_srt : bi .srt [.d (.tuple xs)] st = (intsOf xs).map fun ns => .d (.list ((sortI ns).map .int)) := rfl
theorem z_sti : bi .str [.d (.int i)] st = if 0 ≤ i ∧ i < 1000000000000 then some (.d (.str (numS i))) else none := rfl
theorem z_stb : bi .str [.d (.bool b)] st = some (.d (.str (if b = true then "True" else "False"))) := rfl
theorem z_shl {i j : Int} : bop .LShift (.d (.int i)) (.d (.int j)) = if 0 ≤ j ∧ j ≤ 60 ∧ i.natAbs < 1000 then some (.d (.int (i * 2 ^ j.toNat))) else none := rfl
theorem z_ixt : item st (.d (.tuple xs)) (.d (.int i)) = (L2.atI xs i).map .d := rfl
theorem z_ixl : item st (.d (.list xs)) (.d (.int i)) = (L2.atI xs i).map .d := rfl
theorem z_ixr : item st (.ref n) (.d (.int i)) = match st[n]? with | some (.lst xs) => (L2.atI xs i).map .d | some (.scr xs) => (L2.atI xs i).map fun j => .d (.int j) | some (.nest ns) => (L2.atI ns i).map .ref | _ => none := rfl
theorem z_tur : bi .tuple [.ref n] st = match st[n]? with | some (.lst xs) => some (.d (.tuple xs)) | _ => none := rfl
theorem z_slt {lo hi : Option Int} : slice (.d (.tuple xs)) lo hi = some (.d (.tuple (cut xs lo hi))) := rfl
theorem z_sll {lo hi : Option Int} : slice (.d (.list xs)) lo hi = some (.d (.list (cut xs lo hi))) := rfl
theorem z_lent : bi .len [.d (.tuple xs)] st = some (.d (.int xs.length)) := rfl
theorem z_lenl : bi .len [.d (.list xs)] st = some (.d (.int xs.length)) := rfl
theorem z_lenr : bi .len [.ref n] st = match st[n]? with | some (.lst xs) => some (.d (.int xs.length)) | some (.scr xs) => some (.d (.int xs.length)) | _ => none := rfl
theorem z_suml : bi .sum [.d (.list xs)] st = (intsOf xs).map fun ns => .d (.int ns.sum) := rfl
theorem z_sumt : bi .sum [.d (.tuple xs)] st = (intsOf xs).map fun ns => .d (.int ns.sum) := rfl
theorem z_maxl : bi .max [.d (.list xs)] st = match intsOf xs with | some (n :: ns) => some (.d (.int (bestGt n ns))) | _ => none := rfl
theorem z_maxt : bi .max [.d (.tuple xs)] st = match intsOf xs with | some (n :: ns) => some (.d (.int (bestGt n ns))) | _ => none := rfl
theorem z_minl : bi .min [.d (.list xs)] st = match intsOf xs with | some (n :: ns) => some (.d (.int (bestLt n ns))) | _ => none := rfl
theorem z_bi : bi .int [.d (.int i)] st = some (.d (.int i)) := rfl
theorem z_bb : bi .int [.d (.bool b)] st = some (.d (.int (if b = true then 1 else 0))) := rfl
theorem z_tul : bi .tuple [.d (.list xs)] st = some (.d (.tuple xs)) := rfl
theorem z_tut : bi .tuple [.d (.tuple xs)] st = some (.d (.tuple xs)) := rfl
theorem z_lil : bi .list [.d (.list xs)] st = some (.d (.list xs)) := rfl
theorem z_lit : bi .list [.d (.tuple xs)] st = some (.d (.list xs)) := rfl
theorem z_all : bi .all [.d (.list xs)] st = (boolsOf xs).map fun bs => .d (.bool (bs.all id)) := rfl
theorem z_max2 : bi .max2 [.d (.int i), .d (.int j)] st = some (.d (.int (if j > i then j else i))) := rfl
theorem z_min2 : bi .min2 [.d (.int i), .d (.int j)] st = some (.d (.int (if j < i then j else i))) := rfl
theorem z_kt : bmOk .count (.d (.tuple xs)) = true := rfl
theorem z_kl : bmOk .count (.d (.list xs)) = true := rfl
theorem z_cot : bm .count (.d (.tuple xs)) (.d x) = if flat x && xs.all flat then some (.d (.int (xs.countP fun y => PyData.eqv y x))) else none := rfl
theorem z_col : bm .count (.d (.list xs)) (.d x) = if flat x && xs.all flat then some (.d (.int (xs.countP fun y => PyData.eqv y x))) else none := rfl
theorem z_da : dat (.d x) = some x := rfl
theorem z_ds0 : dats [] = some [] := rfl
theorem z_ds1 {r : List Va} : dats (.d x :: r) = (dats r).map (x :: ·) := rfl
theorem z_sql : seqOf (.list xs) = some xs := rfl
theorem z_sqt : seqOf (.tuple xs) = some xs := rfl
theorem z_isLr : isL st (.ref n) = match st[n]? with | some (.lst _) => true | _ => false := rfl
theorem z_fn : flat .none = true := rfl
theorem z_fb : flat (.bool b) = true := rfl
theorem z_fi : flat (.int i) = true := rfl
theorem z_fs : flat (.str s) = true := rfl
theorem sn_0 : (("give" : Str) = "free") = False := by decide
theorem sn_1 : (("give" : Str) = "pass") = False := by decide
theorem sn_2 : (("give" : Str) = "stroke") = False := by decide
theorem sn_3 : (("give" : Str) = "now") = False := by decide
theorem sn_4 : (("free" : Str) = "give") = False := by decide
theorem sn_5 : (("free" : Str) = "pass") = False := by decide
theorem sn_6 : (("free" : Str) = "stroke") = False := by decide
theorem sn_7 : (("free" : Str) = "now") = False := by decide
theorem sn_8 : (("pass" : Str) = "give") = False := by decide
theorem sn_9 : (("pass" : Str) = "free") = False := by decide
theorem sn_10 : (("pass" : Str) = "stroke") = False := by decide
theorem sn_11 : (("pass" : Str) = "now") = False := by decide
theorem sn_12 : (("stroke" : Str) = "give") = False := by decide
theorem sn_13 : (("stroke" : Str) = "free") = False := by decide
theorem sn_14 : (("stroke" : Str) = "pass") = False := by decide
theorem sn_15 : (("stroke" : Str) = "now") = False := by decide
theorem sn_16 : (("now" : Str) = "give") = False := by decide
theorem sn_17 : (("now" : Str) = "free") = False := by decide
theorem sn_18 : (("now" : Str) = "pass") = False := by decide
theorem sn_19 : (("now" : Str) = "stroke") = False := by decide
end
end Bz
namespace Bz
open PySem PySem.Spec PyProof.Rows L2
def topS (i : Nat) : Stmt := PySem.Challenge.pw_baizehall_k21_whole_runs_struck.main.body.getD i (.Pass ⟨0, 0, 0, 0⟩)
def b_top_of : Ss := (.cons (.ret (.bin .Add (.ix (.var "rules" 0 206342991888) (.k (.int 1) 0 206443655186) 206342991891) (.k (.int 1) 0 206527541271) 206342991895) 206225551383) .nil)
def b_colours_of : Ss := (.cons (.ret (.rng true (.var "low" 1 343983280154) (.bin .Add (.call "top_of" 1 (.cons (.var "rules" 0 344184606760) .nil) 344067166249 344067166242) (.k (.int 1) 0 344335601709) 344067166253) 343781953583 343781953552 343882616878 343882616854) 343664513071) .nil)
def b_full_worth : Ss := (.cons (.ret (.bin .Add (.bin .Mult (.ix (.var "rules" 0 481220915216) (.k (.int 0) 0 481321578514) 481220915219) (.bin .Add (.k (.int 1) 0 481422241816) (.call "top_of" 1 (.cons (.var "rules" 0 481606791207) .nil) 481489350696 481489350689) 481422241832) 481220915241) (.bi .sum (.cons (.call "colours_of" 2 (.cons (.var "rules" 0 482026221632) (.cons (.k (.int 2) 0 482143662147) .nil)) 481841672260 481841672250) .nil) 481774563397 481774563375) 481220915269) 481103474757) .nil)
def b_sum_of : Ss := (.cons (.ret (.bi .sum (.cons (.var "balls" 0 618726985748) .nil) 618659876885 618659876878) 618542436373) .nil)
def q_sorted_out1 : Ss := .cons (.oapp "found" 1 893487468557 (.tup (.cons (.var "ball" 2 893722349594) (.cons (.me .count (.var "balls" 0 893823012897) (.var "ball" 2 894024339500) 893823012909 893823012903) .nil)) 0 893705572398) 893487468591 893487468591 893487468564) .nil
def q_sorted_out2 : Ss := .cons (.ret (.bi .tuple (.cons (.var "found" 1 962357944342) .nil) 962257281047 962257281040) 962139840535) .nil
def q_sorted_out3 : Ss := .cons (.frz 1) q_sorted_out2
def q_sorted_out4 : Ss := .cons (.loop (.n "ball" 2 824767987724) (.e (.sset (.var "balls" 0 825086754848) 824902205474 824902205462 825019645985 825019645978)) q_sorted_out1 824700882991) q_sorted_out3
def b_sorted_out : Ss := (.cons (.own "found" 1 (.lst .nil 756115615758) 755981398030 755981398025) q_sorted_out4)
def b_is_whole : Ss := (.cons (.ret (.bo true (.isi (.var "thing" 0 1512197677083) .int 1512013127713 1512013127701 1512315117600) (.cons (.not (.isi (.var "thing" 0 1512734548027) .bool 1512549998658 1512549998645 1512851988545) 1512482889794) .nil) 1512013127747) 1511895687235) .nil)
def q_is_stroke1 : Ss := .cons (.ret (.k (.bl false) 0 1718238679060) 1718121238548) .nil
def q_is_stroke2 : Ss := .cons (.ret (.k (.bl false) 0 1924397121556) 1924279681044) .nil
def q_is_stroke3 : Ss := .cons (.ret (.k (.bl false) 0 2199342153752) 2199224713240) .nil
def q_is_stroke4 : Ss := .cons (.set "last" 4 (.var "ball" 5 2267994525715) 2267877085203 2267877085196) .nil
def q_is_stroke5 : Ss := .cons (.ife (.bo false (.not (.call "is_whole" 11 (.cons (.var "ball" 5 2130706559004) .nil) 2130555564061 2130555564055) 2130488455197) (.cons (.not (.cmp2 .LtE .LtE (.k (.int 1) 0 2130924662822) (.var "ball" 5 2131008548910) (.call "top_of" 1 (.cons (.var "rules" 0 2131260207166) .nil) 2131142766655 2131142766648) 2130924662847) 2130857553983) (.cons (.cmp .Lt (.var "ball" 5 2131427979335) (.var "last" 4 2131545419854) 2131427979342) (.cons (.bo true (.cmp .Eq (.var "ball" 5 2131696414807) (.var "last" 4 2131830632543) 2131696414815) (.cons (.cmp .Gt (.var "ball" 5 2131981627496) (.k (.int 1) 0 2132099068012) 2131981627500) .nil) 2131696414828) .nil))) 2130488455277) q_is_stroke3 .nil 2130438127640) q_is_stroke4
def q_is_stroke6 : Ss := .cons (.ret (.bo true (.cmp .LtE (.me .count (.var "pots" 3 2336646897679) (.k (.int 1) 0 2336831447063) 2336646897688 2336646897685) (.ix (.var "rules" 0 2336932110369) (.k (.int 0) 0 2337032773667) 2336932110372) 2336646897700) (.cons (.bo false (.cmp .Gt (.var "first" 2 2337166991407) (.k (.int 0) 0 2337301209139) 2337166991411) (.cons (.cmp .Eq (.var "pots" 3 2337385095227) (.tup .nil 0 2337519312961) 2337385095233) .nil) 2337166991425) .nil) 2336646897730) 2336529457218) .nil
def q_is_stroke7 : Ss := .cons (.loop (.n "ball" 5 2061718642700) (.e (.var "pots" 3 2061852860436)) q_is_stroke5 2061651546131) q_is_stroke6
def q_is_stroke8 : Ss := .cons (.set "last" 4 (.k (.int 0) 0 1993049493516) 1992932053004 1992932053000) q_is_stroke7
def q_is_stroke9 : Ss := .cons (.ife (.bo false (.not (.call "is_whole" 11 (.cons (.var "first" 2 1855761526809) .nil) 1855610531866 1855610531859) 1855543423002) (.cons (.not (.cmp2 .LtE .LtE (.k (.int 0) 0 1855996407843) (.var "first" 2 1856080293932) (.call "top_of" 1 (.cons (.var "rules" 0 1856348729404) .nil) 1856231288893 1856231288886) 1855996407869) 1855929299005) (.cons (.not (.isi (.var "pots" 3 1856784937045) .tuple 1856600387677 1856600387664 1856885600348) 1856533278813) .nil)) 1855543423070) q_is_stroke2 .nil 1855493095444) q_is_stroke8
def q_is_stroke10 : Ss := .cons (.par "first" 2 1786773610505 "pots" 3 1786891051023 0 1786773610511 (.ix (.var "thing" 1 1787025268760) (.k (.int 0) 0 1787125932058) 1787025268763) (.ix (.var "thing" 1 1787193040930) (.k (.int 1) 0 1787293704228) 1787193040933) 0 1787008491558 1786773610534) q_is_stroke9
def b_is_stroke : Ss := (.cons (.ife (.bo false (.not (.isi (.var "thing" 1 1649636638747) .tuple 1649452089379 1649452089365 1649754079266) 1649384980515) (.cons (.cmp .NotEq (.bi .len (.cons (.var "thing" 1 1649988960304) .nil) 1649921851441 1649921851434) (.k (.int 3) 0 1650156732470) 1649921851446) (.cons (.not (.isi (.ix (.var "thing" 1 1650509054031) (.k (.int 2) 0 1650609717329) 1650509054034) .bool 1650324504665 1650324504649 1650676826200) 1650257395801) .nil)) 1649384980570) q_is_stroke1 .nil 1649334652948) q_is_stroke10)
def q_is_there1 : Ss := .cons (.set "balls" 9 (.bin .Add (.var "balls" 9 2680328187925) (.sl (.var "stroke" 2 2680462405662) .non (.e (.k (.int 1) 0 2680596623393)) 2680462405666 2680579846177) 2680328187938) 2680193970210 2680193970189) .nil
def q_is_there2 : Ss := .cons (.ret (.bo true (.cmp .LtE (.me .count (.ix (.var "stroke" 2 2748963782673) (.k (.int 1) 0 2749081223187) 2748963782676) (.k (.int 1) 0 2749232218140) 2748963782685 2748963782682) (.var "reds" 5 2749332881445) 2748963782693) (.cons (.bi .all (.cons (.lc (.bo false (.cmp .GtE (.var "ball" 11 2749567762483) (.var "low" 6 2749701980218) 2749567762490) (.cons (.bo true (.cmp .Eq (.var "ball" 11 2749836197955) (.k (.int 1) 0 2749970415688) 2749836197960) (.cons (.cmp .Gt (.var "reds" 5 2750071078993) (.k (.int 0) 0 2750188519509) 2750071078997) .nil) 2749836197973) .nil) 2749567762518) (.n "ball" 11 2750305960031) (.e (.var "balls" 9 2750440177768)) .non ⟨.function, [(".0", .local), ("ball", .local), ("low", .free), ("reds", .free)], false, false, []⟩ [(".0", 10), ("ball", 11)] 2749550985321) .nil) 2749483876458 2749483876397) .nil) 2748963782762) 2748846342250) .nil
def q_is_there3 : Ss := .cons (.ife (.cmp .Gt (.ix (.var "stroke" 2 2611457712141) (.k (.int 0) 0 2611575152655) 2611457712144) (.k (.int 0) 0 2611659038740) 2611457712148) q_is_there1 .nil 2611407384610) q_is_there2
def q_is_there4 : Ss := .cons (.set "balls" 9 (.ix (.var "stroke" 2 2542822117394) (.k (.int 1) 0 2542939557908) 2542822117397) 2542687899669 2542687899657) q_is_there3
def b_is_there : Ss := (.cons (.unp (.t [("up", 3, 2473968418822), ("on", 4, 2474035527690), ("reds", 5, 2474102636560), ("low", 6, 2474203299861), ("points", 7, 2474287185949), ("free", 8, 2474421403683)] 0 2473968418851) (.var "place" 1 2474538844203) 2473968418859) q_is_there4)
def q_may_fall1 : Ss := .cons (.ret (.ife (.cmp .Gt (.var "first" 1 3024110141472) (.k (.int 1) 0 3024244359204) 3024110141476) (.tup (.cons (.var "first" 1 3023925592085) .nil) 0 3023908814871) (.tup .nil 0 3024361799724) 3023908814892) 3023791374380) .nil
def q_may_fall2 : Ss := .cons (.ret (.tup (.cons (.var "on" 3 3161364553746) (.cons (.var "first" 1 3161431662617) .nil)) 0 3161347776538) 3161230336026) .nil
def q_may_fall3 : Ss := .cons (.ret (.tup (.cons (.var "on" 3 3230016925710) .nil) 0 3230000148496) 3229882707984) .nil
def q_may_fall4 : Ss := .cons (.ife (.bo true (.cmp .Eq (.var "free" 7 3092494077963) (.k (.int 2) 0 3092628295696) 3092494077968) (.cons (.cmp .Gt (.var "first" 1 3092728959002) (.var "on" 3 3092863176735) 3092728959007) .nil) 3092494077983) q_may_fall2 .nil 3092443750426) q_may_fall3
def q_may_fall5 : Ss := .cons (.ife (.cmp .Eq (.var "on" 3 2955055116297) (.k (.int 0) 0 2955155779598) 2955055116302) q_may_fall1 .nil 2955004788780) q_may_fall4
def b_may_fall : Ss := (.cons (.unp (.t [("up", 2, 2886285303814), ("on", 3, 2886352412682), ("reds", 4, 2886419521552), ("low", 5, 2886520184853), ("points", 6, 2886604070941), ("free", 7, 2886738288675)] 0 2886285303843) (.var "place" 0 2886855729195) 2886285303851) q_may_fall5)
def q_is_fair1 : Ss := .cons (.ret (.bo true (.not (.ix (.var "stroke" 1 3436225699861) (.k (.int 2) 0 3436343140375) 3436225699864) 3436158591000) (.cons (.cmp .In (.ix (.var "stroke" 1 3436460580899) (.k (.int 0) 0 3436578021413) 3436460580902) (.var "balls" 2 3436678684719) 3436460580911) (.cons (.bi .all (.cons (.lc (.cmp .In (.var "ball" 4 3436930342973) (.var "balls" 2 3437064560710) 3436930342982) (.n "ball" 4 3437232332879) (.e (.ix (.var "stroke" 1 3437366550617) (.k (.int 1) 0 3437483991131) 3437366550620)) .non ⟨.function, [(".0", .local), ("ball", .local), ("balls", .free)], false, false, []⟩ [(".0", 3), ("ball", 4)] 3436913565789) .nil) 3436846456926 3436846456887) .nil)) 3436158591070) 3436041150558) .nil
def b_is_fair : Ss := (.cons (.set "balls" 2 (.call "may_fall" 16 (.cons (.var "place" 0 3367606882330) (.cons (.ix (.var "stroke" 1 3367724322850) (.k (.int 0) 0 3367841763364) 3367724322853) .nil)) 3367455887398 3367455887380) 3367321669670 3367321669641) q_is_fair1)
def q_points_of1 : Ss := .cons (.ret (.k (.int 0) 0 3642384142352) 3642266701840) .nil
def q_points_of2 : Ss := .cons (.ret (.bi .len (.cons (.ix (.var "stroke" 1 3779890212889) (.k (.int 1) 0 3780007653403) 3779890212892) .nil) 3779823104029 3779823104018) 3779705663517) .nil
def q_points_of3 : Ss := .cons (.ret (.bi .sum (.cons (.ix (.var "stroke" 1 3917329174553) (.k (.int 1) 0 3917446615067) 3917329174556) .nil) 3917262065693 3917262065682) 3917144625181) .nil
def q_points_of4 : Ss := .cons (.ret (.bin .Mult (.ix (.var "place" 0 3985914437648) (.k (.int 1) 0 3986015100946) 3985914437651) (.bi .int (.cons (.cmp .NotEq (.ix (.var "stroke" 1 3986166095904) (.k (.int 1) 0 3986283536418) 3986166095907) (.tup .nil 0 3986384199721) 3986166095913) .nil) 3986098987050 3986098987033) 3985914437674) 3985796997162) .nil
def q_points_of5 : Ss := .cons (.ife (.cmp .Eq (.ix (.var "place" 0 3848408367116) (.k (.int 1) 0 3848509030414) 3848408367119) (.k (.int 0) 0 3848609693716) 3848408367124) q_points_of3 .nil 3848358039581) q_points_of4
def q_points_of6 : Ss := .cons (.ife (.cmp .Eq (.ix (.var "place" 0 3710969405452) (.k (.int 1) 0 3711070068750) 3710969405455) (.k (.int 1) 0 3711170732052) 3710969405460) q_points_of2 .nil 3710919077917) q_points_of5
def b_points_of : Ss := (.cons (.ife (.not (.call "is_fair" 27 (.cons (.var "place" 0 3573731770392) (.cons (.var "stroke" 1 3573849210912) .nil)) 3573597552673 3573597552658) 3573530443809) q_points_of1 .nil 3573480116240) q_points_of6)
def q_foul_of1 : Ss := .cons (.ret (.k (.int 0) 0 4192139989008) 4192022548496) .nil
def q_foul_of2 : Ss := .cons (.ret (.bi .max (.cons (.bin .Add (.tup (.cons (.k (.int 4) 0 4260876247057) (.cons (.ix (.var "place" 0 4260926578712) (.k (.int 1) 0 4261027242010) 4260926578715) (.cons (.ix (.var "stroke" 1 4261094350883) (.k (.int 0) 0 4261211791397) 4261094350886) .nil))) 0 4260859469863) (.ix (.var "stroke" 1 4261312454704) (.k (.int 1) 0 4261429895218) 4261312454707) 4260859469875) .nil) 4260792361012 4260792360974) 4260674920500) .nil
def b_foul_of : Ss := (.cons (.ife (.call "is_fair" 27 (.cons (.var "place" 0 4123420508180) (.cons (.var "stroke" 1 4123537948700) .nil)) 4123286290461 4123286290446) q_foul_of1 .nil 4123235962896) q_foul_of2)
def b_is_clear : Ss := (.cons (.ret (.bo true (.cmp .Eq (.bi .len (.cons (.var "run" 1 4467017912338) .nil) 4466950803475 4466950803470) (.bin .Add (.bin .Mult (.k (.int 2) 0 4467152130072) (.ix (.var "rules" 0 4467219238944) (.k (.int 0) 0 4467319902242) 4467219238947) 4467152130083) (.ix (.var "rules" 0 4467403788331) (.k (.int 1) 0 4467504451629) 4467403788334) 4467152130094) 4466950803502) (.cons (.cmp .Eq (.call "top_of" 1 (.cons (.var "rules" 0 4467739332671) .nil) 4467621892160 4467621892153) (.ix (.var "run" 1 4467907104839) (.neg (.k (.int 1) 0 4467990990922) 4467974213706) 4467907104843) 4467621892171) .nil) 4466950803531) 4466833363019) .nil)
def b_rows_of : Ss := (.cons (.ret (.bi .tuple (.cons (.lc (.tup (.cons (.var "ball" 2 4604523982871) (.cons (.tup (.cons (.var "ball" 2 4604641423390) .nil) 0 4604624646176) (.cons (.k (.bl false) 0 4604775641127) .nil))) 0 4604507205672) (.n "ball" 2 4604960190513) (.e (.var "run" 0 4605094408248)) .non ⟨.function, [(".0", .local), ("ball", .local)], false, false, []⟩ [(".0", 1), ("ball", 2)] 4604490428473) .nil) 4604389765178 4604389765136) 4604272324666) .nil)
def b_first_place : Ss := (.cons (.ret (.tup (.cons (.var "player" 1 4810564984850) (.cons (.k (.int 1) 0 4810699202581) (.cons (.ix (.var "rules" 0 4810749534236) (.k (.int 0) 0 4810850197534) 4810749534239) (.cons (.k (.int 2) 0 4810917306402) (.cons (.tup (.cons (.k (.int 0) 0 4810984415270) (.cons (.k (.int 0) 0 4811034746921) .nil)) 0 4810967638058) (.cons (.k (.int 0) 0 4811101855789) .nil)))))) 0 4810548207662) 4810430767150) .nil)
def q_is_deed1 : Ss := .cons (.ret (.k (.bl false) 0 5016773758996) 5016656318484) .nil
def q_is_deed2 : Ss := .cons (.ret (.call "is_stroke" 12 (.cons (.var "rules" 0 5154380492830) (.cons (.sl (.var "thing" 1 5154497933349) (.e (.k (.int 1) 0 5154598596647)) .non 5154497933353 5154598596648) .nil)) 5154212720682 5154212720664) 5154095280170) .nil
def q_is_deed3 : Ss := .cons (.ret (.bo true (.cmp .Eq (.bi .len (.cons (.var "thing" 1 5222932201492) .nil) 5222865092629 5222865092622) (.k (.int 1) 0 5223099973658) 5222865092634) (.cons (.cmp .In (.ix (.var "thing" 1 5223200636964) (.k (.int 0) 0 5223301300262) 5223200636967) (.tup (.cons (.k (.str "free") 0 5223418740786) (.cons (.k (.str "pass") 0 5223552958522) (.cons (.k (.str "give") 0 5223687176258) .nil))) 0 5223401963587) 5223200636995) .nil) 5222865092675) 5222747652163) .nil
def q_is_deed4 : Ss := .cons (.ife (.cmp .Eq (.ix (.var "thing" 1 5085359022092) (.k (.int 0) 0 5085459685390) 5085359022095) (.k (.str "stroke") 0 5085560348699) 5085359022107) q_is_deed2 .nil 5085308694570) q_is_deed3
def b_is_deed : Ss := (.cons (.ife (.bo false (.not (.isi (.var "thing" 1 4948171718683) .tuple 4947987169315 4947987169301 4948289159202) 4947920060451) (.cons (.not (.var "thing" 1 4948524040240) 4948456931376) (.cons (.not (.isi (.ix (.var "thing" 1 4948943470665) (.k (.int 0) 0 4949044133963) 4948943470668) .str 4948758921298 4948758921283 4949111242833) 4948691812434) .nil)) 4947920060499) q_is_deed1 .nil 4947869732884) q_is_deed4)
def b_added : Ss := (.cons (.ret (.tup (.cons (.bin .Add (.ix (.var "points" 0 5360320831506) (.k (.int 0) 0 5360438272020) 5360320831509) (.bin .Mult (.var "more" 2 5360522158108) (.bi .int (.cons (.cmp .Eq (.var "player" 1 5360706707497) (.k (.int 0) 0 5360874479662) 5360706707502) .nil) 5360639598639 5360639598626) 5360522158127) 5360320831535) (.cons (.bin .Add (.ix (.var "points" 0 5360941588535) (.k (.int 1) 0 5361059029049) 5360941588538) (.bin .Mult (.var "more" 2 5361142915137) (.bi .int (.cons (.cmp .Eq (.var "player" 1 5361327464526) (.k (.int 1) 0 5361495236691) 5361327464531) .nil) 5361260355668 5361260355655) 5361142915156) 5360941588564) .nil)) 0 5360304054357) 5360186613845) .nil)
def q_struck1 : Ss := .cons (.ret (.tup (.cons (.k .non 0 5978863267860) (.cons (.bi .int (.cons (.cmp .Gt (.ix (.var "points" 7 5979031040032) (.k (.int 1) 0 5979148480546) 5979031040035) (.ix (.var "points" 7 5979232366636) (.k (.int 0) 0 5979349807150) 5979232366639) 5979031040047) .nil) 5978963931184 5978963931161) (.cons (.var "points" 7 5979433693240) .nil))) 0 5978846490681) 5978729050169) .nil
def q_struck2 : Ss := .cons (.ret (.tup (.cons (.tup (.cons (.bin .Sub (.k (.int 1) 0 6116319006738) (.var "up" 3 6116386115607) 6116319006743) (.cons (.var "top" 9 6116453224476) (.cons (.k (.int 0) 0 6116537110559) (.cons (.var "top" 9 6116587442212) (.cons (.var "points" 7 6116671328300) (.cons (.k (.int 0) 0 6116805546031) .nil)))))) 0 6116302229552) (.cons (.k .non 0 6116872654902) (.cons (.var "points" 7 6116973318206) .nil))) 0 6116285452351) 6116168011839) .nil
def q_struck3 : Ss := .cons (.set "low" 6 (.bin .Add (.var "low" 6 6253707636753) (.k (.int 1) 0 6253808300053) 6253707636757) 6253606973461 6253606973451) .nil
def q_struck4 : Ss := .cons (.ret (.tup (.cons (.tup (.cons (.var "up" 3 6459916410899) (.cons (.ife (.cmp .Eq (.var "on" 4 6460067405852) (.k (.int 1) 0 6460168069153) 6460067405857) (.k (.int 0) 0 6459983519766) (.var "start" 13 6460285509676) 6459983519788) (.cons (.var "reds" 5 6460402950194) (.cons (.var "low" 6 6460503613495) (.cons (.var "points" 7 6460587499583) (.cons (.k (.int 0) 0 6460721717314) .nil)))))) 0 6459899633731) (.cons (.k .non 0 6460788826185) (.cons (.var "points" 7 6460889489489) .nil))) 0 6459882856530) 6459765416018) .nil
def q_struck5 : Ss := .cons (.ret (.tup (.cons (.tup (.cons (.bin .Sub (.k (.int 1) 0 6528568782862) (.var "up" 3 6528635891731) 6528568782867) (.cons (.var "start" 13 6528703000602) (.cons (.var "reds" 5 6528820441120) (.cons (.var "low" 6 6528921104421) (.cons (.var "points" 7 6529004990509) (.cons (.bi .int (.cons (.cmp .Gt (.var "loss" 11 6529206317111) (.k (.int 0) 0 6529323757627) 6529206317115) .nil) 6529139208252 6529139208242) .nil)))))) 0 6528552005693) (.cons (.k .non 0 6529407643715) (.cons (.var "points" 7 6529508307019) .nil))) 0 6528535228492) 6528417787980) .nil
def q_struck6 : Ss := .cons (.ife (.cmp .Gt (.var "gain" 10 6391029157899) (.k (.int 0) 0 6391146598415) 6391029157903) q_struck4 .nil 6390978830418) q_struck5
def q_struck7 : Ss := .cons (.set "start" 13 (.ife (.cmp .Gt (.var "reds" 5 6322477449237) (.k (.int 0) 0 6322594889753) 6322477449241) (.k (.int 1) 0 6322393563149) (.var "low" 6 6322712330274) 6322393563170) 6322259345442 6322259345417) q_struck6
def q_struck8 : Ss := .cons (.ife (.bo true (.cmp .Eq (.var "loss" 11 6184870715403) (.k (.int 0) 0 6185004933136) 6184870715408) (.cons (.cmp .Gt (.var "on" 4 6185105596439) (.k (.int 1) 0 6185189482523) 6185105596443) (.cons (.cmp .In (.var "on" 4 6185306923043) (.ix (.var "stroke" 2 6185407586349) (.k (.int 1) 0 6185525026863) 6185407586352) 6185306923056) .nil)) 6184870715441) q_struck3 .nil 6184820387861) q_struck7
def q_struck9 : Ss := .cons (.ife (.var "ends" 12 6047431753739) q_struck2 .nil 6047381426239) q_struck8
def q_struck10 : Ss := .cons (.ife (.bo true (.var "ends" 12 5909992792075) (.cons (.cmp .NotEq (.ix (.var "points" 7 5910143787030) (.k (.int 0) 0 5910261227544) 5910143787033) (.ix (.var "points" 7 5910361890851) (.k (.int 1) 0 5910479331365) 5910361890854) 5910143787046) .nil) 5909992792102) q_struck1 .nil 5909942464569) q_struck9
def q_struck11 : Ss := .cons (.set "ends" 12 (.bo true (.cmp .Eq (.var "on" 4 5841340420109) (.var "top" 9 5841441083412) 5841340420116) (.cons (.bo false (.cmp .Gt (.var "loss" 11 5841592078366) (.k (.int 0) 0 5841709518882) 5841592078370) (.cons (.cmp .In (.var "top" 9 5841793404969) (.ix (.var "stroke" 2 5841910845491) (.k (.int 1) 0 5842028286005) 5841910845494) 5841793404982) .nil) 5841592078390) .nil) 5841340420151) 5841222979639 5841222979592) q_struck10
def q_struck12 : Ss := .cons (.set "points" 7 (.call "added" 32 (.cons (.call "added" 32 (.cons (.var "points" 7 5772855820319) (.cons (.var "up" 3 5772990038051) (.cons (.var "gain" 10 5773057146921) .nil))) 5772755157034 5772755157016) (.cons (.bin .Sub (.k (.int 1) 0 5773174587437) (.var "up" 3 5773241696306) 5773174587442) (.cons (.var "loss" 11 5773308805176) .nil))) 5772654493753 5772654493714) 5772503498809 5772503498762) q_struck11
def q_struck13 : Ss := .cons (.par "gain" 10 5703784017928 "loss" 11 5703884681230 0 5703784017934 (.call "points_of" 28 (.cons (.var "place" 1 5704186671137) (.cons (.var "stroke" 2 5704304111657) .nil)) 5704018898986 5704018898971) (.call "foul_of" 29 (.cons (.var "place" 1 5704589324345) (.cons (.var "stroke" 2 5704706764865) .nil)) 5704455106626 5704455106611) 0 5704002121795 5703784017987) q_struck12
def q_struck14 : Ss := .cons (.set "reds" 5 (.bin .Sub (.var "reds" 5 5635181977615) (.me .count (.ix (.var "stroke" 2 5635299418136) (.k (.int 1) 0 5635416858650) 5635299418139) (.k (.int 1) 0 5635567853603) 5635299418148 5635299418145) 5635181977636) 5635064537124 5635064537096) q_struck13
def q_struck15 : Ss := .cons (.set "top" 9 (.call "top_of" 1 (.cons (.var "rules" 0 5566563160086) .nil) 5566445719575 5566445719568) 5566345056279 5566345056263) q_struck14
def b_struck : Ss := (.cons (.unp (.t [("up", 3, 5497625575430), ("on", 4, 5497692684298), ("reds", 5, 5497759793168), ("low", 6, 5497860456469), ("points", 7, 5497944342557), ("free", 8, 5498078560291)] 0 5497625575459) (.var "place" 1 5498196000811) 5497625575467) q_struck15)
def q_behind1 : Ss := .cons (.ret (.tup (.cons (.k .non 0 6803497037844) (.cons (.bin .Sub (.k (.int 1) 0 6803597701143) (.var "up" 3 6803664810012) 6803597701148) (.cons (.var "points" 7 6803731918884) .nil))) 0 6803480260645) 6803362820133) .nil
def q_behind2 : Ss := .cons (.rse 1005 "NotNow" 7009588371482 7009689034778 7009689034776) .nil
def q_behind3 : Ss := .cons (.ret (.call "struck" 33 (.cons (.var "rules" 0 7078475624475) (.cons (.var "place" 1 7078593064994) (.cons (.sl (.var "deed" 2 7078710505512) (.e (.k (.int 1) 0 7078794391594)) .non 7078710505516 7078794391595) .nil))) 7078358183981 7078358183957) 7078240743469) .nil
def q_behind4 : Ss := .cons (.ife (.not (.call "is_there" 15 (.cons (.var "rules" 0 6941070217245) (.cons (.var "place" 1 6941187657764) (.cons (.sl (.var "deed" 2 6941305098282) (.e (.k (.int 1) 0 6941388984364)) .non 6941305098286 6941388984365) .nil))) 6940919222319 6940919222295) 6940852113455) q_behind2 .nil 6940801785882) q_behind3
def q_behind5 : Ss := .cons (.rse 1005 "NotNow" 7215679705110 7215780368406 7215780368404) .nil
def q_behind6 : Ss := .cons (.ret (.tup (.cons (.tup (.cons (.var "up" 3 7353269661715) (.cons (.var "on" 4 7353336770583) (.cons (.var "reds" 5 7353403879453) (.cons (.var "low" 6 7353504542754) (.cons (.var "points" 7 7353588428842) (.cons (.k (.int 2) 0 7353722646573) .nil)))))) 0 7353252884526) (.cons (.k .non 0 7353789755444) (.cons (.var "points" 7 7353890418748) .nil))) 0 7353236107325) 7353118666813) .nil
def q_behind7 : Ss := .cons (.ret (.tup (.cons (.tup (.cons (.bin .Sub (.k (.int 1) 0 7421922033678) (.var "up" 3 7421989142547) 7421922033683) (.cons (.var "on" 4 7422056251415) (.cons (.var "reds" 5 7422123360285) (.cons (.var "low" 6 7422224023586) (.cons (.var "points" 7 7422307909674) (.cons (.k (.int 0) 0 7422442127405) .nil)))))) 0 7421905256494) (.cons (.k .non 0 7422509236276) (.cons (.var "points" 7 7422609899580) .nil))) 0 7421888479293) 7421771038781) .nil
def q_behind8 : Ss := .cons (.ife (.cmp .Eq (.ix (.var "deed" 2 7284382408715) (.k (.int 0) 0 7284466294797) 7284382408718) (.k (.str "free") 0 7284566958104) 7284382408728) q_behind6 .nil 7284332081213) q_behind7
def q_behind9 : Ss := .cons (.ife (.bo false (.cmp .NotEq (.var "free" 8 7146943447051) (.k (.int 1) 0 7147077664784) 7146943447056) (.cons (.bo true (.cmp .Eq (.ix (.var "deed" 2 7147178328089) (.k (.int 0) 0 7147262214171) 7147178328092) (.k (.str "free") 0 7147362877478) 7147178328102) (.cons (.cmp .Eq (.var "on" 4 7147547426861) (.call "top_of" 1 (.cons (.var "rules" 0 7147765530685) .nil) 7147648090174 7147648090167) 7147547426878) .nil) 7147178328126) .nil) 7146943447103) q_behind5 .nil 7146893119510) q_behind8
def q_behind10 : Ss := .cons (.ife (.cmp .Eq (.ix (.var "deed" 2 6872065523723) (.k (.int 0) 0 6872149409805) 6872065523726) (.k (.str "stroke") 0 6872250073114) 6872065523738) q_behind4 .nil 6872015204397) q_behind9
def q_behind11 : Ss := .cons (.ife (.cmp .Eq (.ix (.var "deed" 2 6734626562059) (.k (.int 0) 0 6734710448141) 6734626562062) (.k (.str "give") 0 6734811111448) 6734626562072) q_behind1 .nil 6734576234533) q_behind10
def b_behind : Ss := (.cons (.unp (.t [("up", 3, 6665856749574), ("on", 4, 6665923858442), ("reds", 5, 6665990967312), ("low", 6, 6666091630613), ("points", 7, 6666175516701), ("free", 8, 6666309734435)] 0 6665856749603) (.var "place" 1 6666427174955) 6665856749611) q_behind11)
def q_walked1 : Ss := .cons (.set "state" 2 (.call "behind" 34 (.cons (.var "rules" 0 7696967729180) (.cons (.ix (.var "state" 2 7697085169699) (.k (.int 0) 0 7697185832997) 7697085169702) (.cons (.var "deed" 3 7697252941868) .nil))) 7696850288685 7696850288662) 7696716070957 7696716070925) .nil
def q_walked2 : Ss := .cons (.ret (.var "state" 2 7765485883408) 7765368442896) .nil
def q_walked3 : Ss := .cons (.loop (.n "deed" 3 7627996590092) (.e (.ix (.var "frame" 1 7628130807829) (.k (.int 1) 0 7628231471127) 7628130807832)) q_walked1 7627929485357) q_walked2
def b_walked : Ss := (.cons (.set "state" 2 (.tup (.cons (.call "first_place" 31 (.cons (.var "rules" 0 7559562321950) (.cons (.ix (.var "frame" 1 7559679762469) (.k (.int 0) 0 7559780425767) 7559679762472) .nil)) 7559360995369 7559360995352) (.cons (.k .non 0 7559864311855) (.cons (.tup (.cons (.k (.int 0) 0 7559981752371) (.cons (.k (.int 0) 0 7560032084022) .nil)) 0 7559964975159) .nil))) 0 7559344218168) 7559210000440 7559210000393) q_walked3)
def q_frame_fault1 : Ss := .cons (.ret (.tup (.cons (.var "number" 3 8109234282522) (.cons (.k (.str "deed") 0 8109368500258) .nil)) 0 8109217505315) 8109100064803) .nil
def q_frame_fault2 : Ss := .cons (.ret (.tup (.cons (.var "number" 3 8246673244186) (.cons (.k (.str "over") 0 8246807461922) .nil)) 0 8246656466979) 8246539026467) .nil
def q_frame_fault3 : Ss := .cons (.tr (.set "state" 2 (.call "behind" 34 (.cons (.var "rules" 0 8384229646368) (.cons (.ix (.var "state" 2 8384347086887) (.k (.int 0) 0 8384447750185) 8384347086890) (.cons (.var "deed" 4 8384514859056) .nil))) 8384112205873 8384112205850) 8383977988145 8383977988113) ⟨1005, "NotNow", 8452747800597, (.rvk "number" 3 8521551167514 (.str "now") 0 8521685385249 0 8521534390306 8521416949794), 8452630364194⟩ [] [(1005, "NotNow")] 8315191410722) .nil
def q_frame_fault4 : Ss := .cons (.ife (.cmp .Is (.ix (.var "state" 2 8177802768400) (.k (.int 0) 0 8177903431698) 8177802768403) (.k .non 0 8178004095003) 8177802768411) q_frame_fault2 .nil 8177752440867) q_frame_fault3
def q_frame_fault5 : Ss := .cons (.ife (.not (.call "is_deed" 62 (.cons (.var "rules" 0 8040565133340) (.cons (.var "deed" 4 8040682573858) .nil)) 8040430915619 8040430915606) 8040363806755) q_frame_fault1 .nil 8040313479203) q_frame_fault4
def q_frame_fault6 : Ss := .cons (.ret (.k .non 0 8590119653391) 8590002212879) .nil
def q_frame_fault7 : Ss := .cons (.loop (.t [("number", 3, 7971593994254), ("deed", 4, 7971728211988)] 0 7971593994260) (.en (.ix (.var "frame" 1 7972030201895) (.k (.int 1) 0 7972130865193) 7972030201898) 7971862429739 7971862429729) q_frame_fault5 7971526918178) q_frame_fault6
def b_frame_fault : Ss := (.cons (.set "state" 2 (.tup (.cons (.call "first_place" 31 (.cons (.var "rules" 0 7903159726110) (.cons (.ix (.var "frame" 1 7903277166629) (.k (.int 0) 0 7903377829927) 7903277166632) .nil)) 7902958399529 7902958399512) (.cons (.k .non 0 7903461716015) (.cons (.tup (.cons (.k (.int 0) 0 7903579156531) (.cons (.k (.int 0) 0 7903629488182) .nil)) 0 7903562379319) .nil))) 0 7902941622328) 7902807404600 7902807404553) q_frame_fault7)
def q_is_frame1 : Ss := .cons (.ret (.k (.bl false) 0 8796345204756) 8796227764244) .nil
def q_is_frame2 : Ss := .cons (.ret (.bo true (.isi (.ix (.var "thing" 1 8865182126107) (.k (.int 1) 0 8865282789405) 8865182126110) .tuple 8864997576742 8864997576725 8865349898277) (.cons (.cmp .Is (.call "frame_fault" 63 (.cons (.var "rules" 0 8865735774268) (.cons (.var "thing" 1 8865853214787) .nil)) 8865534447684 8865534447670) (.k .non 0 8866020986956) 8865534447692) .nil) 8864997576780) 8864880136268) .nil
def b_is_frame : Ss := (.cons (.ife (.bo false (.not (.isi (.var "thing" 1 8727743164443) .tuple 8727558615075 8727558615061 8727860604962) 8727491506211) (.cons (.cmp .NotEq (.bi .len (.cons (.var "thing" 1 8728095486000) .nil) 8728028377137 8728028377130) (.k (.int 2) 0 8728263258166) 8728028377142) (.cons (.not (.call "is_whole" 11 (.cons (.ix (.var "thing" 1 8728582025293) (.k (.int 0) 0 8728682688591) 8728582025296) .nil) 8728431030353 8728431030343) 8728363921489) (.cons (.cmp .NotIn (.ix (.var "thing" 1 8728833683548) (.k (.int 0) 0 8728934346846) 8728833683551) (.tup (.cons (.k (.int 0) 0 8729118896233) (.cons (.k (.int 1) 0 8729169227884) .nil)) 0 8729102119021) 8728833683565) .nil))) 8727491506286) q_is_frame1 .nil 8727441178644) q_is_frame2)
def b_place_of : Ss := (.cons (.ret (.ix (.call "walked" 35 (.cons (.var "rules" 0 9002553978903) (.cons (.var "frame" 1 9002671419422) .nil)) 9002436538399 9002436538385) (.k (.int 0) 0 9002788859937) 9002436538402) 9002319097890) .nil)
def b_points_in : Ss := (.cons (.ret (.ix (.call "walked" 35 (.cons (.var "rules" 0 9139992940567) (.cons (.var "frame" 1 9140110381086) .nil)) 9139875500063 9139875500049) (.k (.int 2) 0 9140227821601) 9139875500066) 9139758059554) .nil)
def b_winner_of : Ss := (.cons (.ret (.ix (.call "walked" 35 (.cons (.var "rules" 0 9277431902231) (.cons (.var "frame" 1 9277549342750) .nil)) 9277314461727 9277314461713) (.k (.int 1) 0 9277666783265) 9277314461730) 9277197021218) .nil)
def b_rest_of : Ss := (.cons (.ret (.bin .Add (.bin .Mult (.var "reds" 1 9483472904207) (.bin .Add (.k (.int 1) 0 9483607121940) (.call "top_of" 1 (.cons (.var "rules" 0 9483791671331) .nil) 9483674230820 9483674230813) 9483607121956) 9483472904229) (.bi .sum (.cons (.call "colours_of" 2 (.cons (.var "rules" 0 9484211101756) (.cons (.var "low" 2 9484328542273) .nil)) 9484026552386 9484026552374) .nil) 9483959443523 9483959443499) 9483472904259) 9483355463747) .nil)
def q_still1 : Ss := .cons (.ret (.bin .Add (.var "rest" 8 9827137417235) (.call "top_of" 1 (.cons (.var "rules" 0 9827372298274) .nil) 9827254857763 9827254857756) 9827137417251) 9827019976739) .nil
def q_still2 : Ss := .cons (.ret (.var "rest" 8 9964576378899) 9964458938387) .nil
def q_still3 : Ss := .cons (.ret (.bin .Add (.var "rest" 8 10033228750863) (.ife (.cmp .Eq (.var "on" 3 10033715290154) (.k (.int 1) 0 10033815953455) 10033715290159) (.bin .Add (.k (.int 1) 0 10033362968596) (.call "top_of" 1 (.cons (.var "rules" 0 10033547517987) .nil) 10033430077476 10033430077469) 10033362968612) (.var "on" 3 10033933393975) 10033362968631) 10033228750904) 10033111310392) .nil
def q_still4 : Ss := .cons (.ife (.cmp .Lt (.var "free" 7 9895722680331) (.k (.int 2) 0 9895840120847) 9895722680335) q_still2 .nil 9895672352787) q_still3
def q_still5 : Ss := .cons (.ife (.cmp .Eq (.var "on" 3 9758283718665) (.k (.int 0) 0 9758384381966) 9758283718670) q_still1 .nil 9758233391139) q_still4
def q_still6 : Ss := .cons (.set "rest" 8 (.call "rest_of" 46 (.cons (.var "rules" 0 9689765564440) (.cons (.var "reds" 4 9689883004958) (.cons (.var "low" 5 9689983668259) .nil))) 9689631346724 9689631346706) 9689513906212 9689513906184) q_still5
def b_still : Ss := (.cons (.unp (.t [("up", 2, 9620794425350), ("on", 3, 9620861534218), ("reds", 4, 9620928643088), ("low", 5, 9621029306389), ("points", 6, 9621113192477), ("free", 7, 9621247410211)] 0 9620794425379) (.var "place" 1 9621364850731) 9620794425387) q_still6)
def q_visits1 : Ss := .cons (.oapp "found" 2 10789226926101 (.tup (.cons (.ix (.var "place" 3 10789461807139) (.k (.int 0) 0 10789562470437) 10789461807142) (.cons (.k (.int 0) 0 10789629579305) (.cons (.k (.int 0) 0 10789679910956) .nil))) 0 10789445029933) 10789226926126 10789226926126 10789226926108) .nil
def q_visits2 : Ss := .cons (.set "is_fresh" 4 (.bo true (.cmp .IsNot (.var "new" 6 10995502809114) (.k .non 0 10995687358502) 10995502809126) (.cons (.cmp .NotEq (.ix (.var "new" 6 10995838353454) (.k (.int 0) 0 10995905462320) 10995838353457) (.ix (.var "place" 3 10996006125626) (.k (.int 0) 0 10996106788924) 10996006125629) 10995838353469) .nil) 10995502809149) 10995318259773 10995318259732) .nil
def q_visits3 : Ss := .cons (.oapp "found" 2 10926598778897 (.tup (.cons (.var "player" 8 10926833659936) (.cons (.bin .Add (.var "points" 9 10926967877672) (.var "gain" 7 10927118872623) 10926967877679) (.cons (.bin .Add (.var "many" 10 10927219535925) (.k (.int 1) 0 10927336976441) 10927219535929) .nil))) 0 10926816882746) 10926598778939 10926598778939 10926598778904) q_visits2
def q_visits4 : Ss := .cons (.opop (.t [("player", 8, 10857879298066), ("points", 9, 10858013515802), ("many", 10, 10858147733536)] 0 10857879298080) "found" 2 10858265174056 10857879298094 10858265174062 10858265174060) q_visits3
def q_visits5 : Ss := .cons (.ife (.var "is_fresh" 4 10720490668055) q_visits1 .nil 10720440340526) q_visits4
def q_visits6 : Ss := .cons (.set "gain" 7 (.call "points_of" 28 (.cons (.var "place" 3 10652006068258) (.cons (.sl (.var "deed" 5 10652123508776) (.e (.k (.int 1) 0 10652207394858)) .non 10652123508780 10652207394859) .nil)) 10651838296109 10651838296092) 10651720855597 10651720855568) q_visits5
def q_visits7 : Ss := .cons (.set "is_fresh" 4 (.k (.bl true) 0 11132941770779) 11132757221403 11132757221396) .nil
def q_visits8 : Ss := .cons (.ife (.cmp .Eq (.ix (.var "deed" 5 11064054517777) (.k (.int 0) 0 11064138403859) 11064054517780) (.k (.str "pass") 0 11064239067166) 11064054517790) q_visits7 .nil 11063970635803) .nil
def q_visits9 : Ss := .cons (.set "place" 3 (.var "new" 6 11201543811091) 11201409593363 11201409593357) .nil
def q_visits10 : Ss := .cons (.ife (.cmp .Eq (.ix (.var "deed" 5 10582984597519) (.k (.int 0) 0 10583068483601) 10582984597522) (.k (.str "stroke") 0 10583169146910) 10582984597534) q_visits6 q_visits8 10582934298651) q_visits9
def q_visits11 : Ss := .cons (.set "new" 6 (.ix (.call "behind" 34 (.cons (.var "rules" 0 10514432888858) (.cons (.var "place" 3 10514550329377) (.cons (.var "deed" 5 10514667769895) .nil))) 10514315448360 10514315448340) (.k (.int 0) 0 10514768433194) 10514315448363) 10514214785067 10514214785035) q_visits10
def q_visits12 : Ss := .cons (.ret (.bi .tuple (.cons (.var "found" 2 11270280069142) .nil) 11270179405847 11270179405840) 11270061965335) .nil
def q_visits13 : Ss := .cons (.frz 2) q_visits12
def q_visits14 : Ss := .cons (.loop (.n "deed" 5 10445495304204) (.e (.ix (.var "frame" 1 10445629521941) (.k (.int 1) 0 10445730185239) 10445629521944)) q_visits11 10445428240403) q_visits13
def q_visits15 : Ss := .cons (.set "is_fresh" 4 (.k (.bl true) 0 10376893263891) 10376708714515 10376708714508) q_visits14
def q_visits16 : Ss := .cons (.set "place" 3 (.call "first_place" 31 (.cons (.var "rules" 0 10308324778013) (.cons (.ix (.var "frame" 1 10308442218532) (.k (.int 0) 0 10308542881830) 10308442218535) .nil)) 10308123451432 10308123451415) 10307989233704 10307989233673) q_visits15
def b_visits : Ss := (.cons (.own "found" 2 (.lst .nil 10239403970574) 10239269752846 10239269752841) q_visits16)
def q_best_breaks1 : Ss := .cons (.ret (.bi .tuple (.cons (.lc (.bi .max (.cons (.bin .Add (.lst (.cons (.k (.int 0) 0 11476539174936) .nil) 11476522397721) (.lc (.var "points" 6 11476639838243) (.t [("who", 5, 11476824387627), ("points", 6, 11476908273715), ("many", 7, 11477042491449)] 0 11476824387641) (.e (.var "rows" 2 11477176709185)) (.e (.cmp .Eq (.var "who" 5 11477310926920) (.var "player" 4 11477428367442) 11477310926930)) ⟨.function, [(".0", .local), ("who", .local), ("points", .local), ("many", .local), ("player", .free)], false, false, []⟩ [(".0", 3), ("who", 5), ("points", 6), ("many", 7)] 11476623061075) 11476522397779) .nil) 11476455288916 11476455288853) (.n "player" 4 11477646471263) (.e (.tup (.cons (.k (.int 0) 0 11477831020645) (.cons (.k (.int 1) 0 11477881352296) .nil)) 0 11477814243433)) .non ⟨.function, [(".0", .local), ("player", .cell), ("max", .globalImplicit), ("rows", .free)], false, false, []⟩ [(".0", 3), ("player", 4)] 11476438511722) .nil) 11476337848427 11476337848336) 11476220407915) .nil
def b_best_breaks : Ss := (.cons (.set "rows" 2 (.call "visits" 39 (.cons (.var "rules" 0 11407735808023) (.cons (.var "frame" 1 11407853248542) .nil)) 11407618367519 11407618367505) 11407500927007 11407500926984) q_best_breaks1)
def q_fouls1 : Ss := .cons (.rset (.ix (.var "found" 2 11957390991377) (.ix (.var "place" 3 11957491654679) (.k (.int 0) 0 11957592317977) 11957491654682) 11957390991387) (.k (.int 1) 0 11957659426845) (.bin .Add (.ix (.ix (.var "found" 2 11957743312934) (.ix (.var "place" 3 11957843976236) (.k (.int 0) 0 11957944639534) 11957843976239) 11957743312944) (.k (.int 1) 0 11958011748402) 11957743312947) (.call "foul_of" 29 (.cons (.var "place" 3 11958229852227) (.cons (.sl (.var "deed" 4 11958347292745) (.e (.k (.int 1) 0 11958431178827)) .non 11958347292749 11958431178828) .nil)) 11958095634510 11958095634493) 11957743312974) 11957390991438 11957390991390) .nil
def q_fouls2 : Ss := .cons (.rset (.ix (.var "found" 2 11888671510545) (.ix (.var "place" 3 11888772173847) (.k (.int 0) 0 11888872837145) 11888772173850) 11888671510555) (.k (.int 0) 0 11888939946013) (.bin .Add (.ix (.ix (.var "found" 2 11889023832102) (.ix (.var "place" 3 11889124495404) (.k (.int 0) 0 11889225158702) 11889124495407) 11889023832112) (.k (.int 0) 0 11889292267570) 11889023832115) (.k (.int 1) 0 11889376153655) 11889023832119) 11888671510583 11888671510558) q_fouls1
def q_fouls3 : Ss := .cons (.set "place" 3 (.ix (.call "behind" 34 (.cons (.var "rules" 0 12026295021596) (.cons (.var "place" 3 12026412462115) (.cons (.var "deed" 4 12026529902633) .nil))) 12026177581098 12026177581078) (.k (.int 0) 0 12026630565932) 12026177581101) 12026043363373 12026043363341) .nil
def q_fouls4 : Ss := .cons (.ife (.bo true (.cmp .Eq (.ix (.var "deed" 4 11819935252495) (.k (.int 0) 0 11820019138577) 11819935252498) (.k (.str "stroke") 0 11820119801886) 11819935252510) (.cons (.not (.call "is_fair" 27 (.cons (.var "place" 3 11820556009525) (.cons (.sl (.var "deed" 4 11820673450043) (.e (.k (.int 1) 0 11820757336125)) .non 11820673450047 11820757336126) .nil)) 11820421791808 11820421791791) 11820354682944) .nil) 11819935252545) q_fouls2 .nil 11819884929102) q_fouls3
def q_fouls5 : Ss := .cons (.ret (.tup (.cons (.bi .tuple (.cons (.ix (.var "found" 2 12094930616343) (.k (.int 0) 0 12095031279641) 12094930616346) .nil) 12094829953051 12094829953041) (.cons (.bi .tuple (.cons (.ix (.var "found" 2 12095215829032) (.k (.int 1) 0 12095316492330) 12095215829035) .nil) 12095115165740 12095115165730) .nil)) 0 12094813175853) 12094695735341) .nil
def q_fouls6 : Ss := .cons (.loop (.n "deed" 4 11751165440012) (.e (.ix (.var "frame" 1 11751299657749) (.k (.int 1) 0 11751400321047) 11751299657752)) q_fouls4 11751098347565) q_fouls5
def q_fouls7 : Ss := .cons (.set "place" 3 (.call "first_place" 31 (.cons (.var "rules" 0 11682714394653) (.cons (.ix (.var "frame" 1 11682831835172) (.k (.int 0) 0 11682932498470) 11682831835175) .nil)) 11682513068072 11682513068055) 11682378850344 11682378850313) q_fouls6
def b_fouls : Ss := (.cons (.nest "found" 2 0 0 0 0 0 0 0 0 11613827141647 11613877473298 11613961359383 11614011691034 11613810364435 11613944582171 11613793587228 11613659369500 11613659369481) q_fouls7)
def q_fallen1 : Ss := .cons (.oset "found" 2 12575933427733 (.bin .Sub (.var "ball" 5 12576034091034) (.k (.int 1) 0 12576151531550) 12576034091038) (.bin .Add (.oix "found" 2 (.bin .Sub (.var "ball" 5 12576336080940) (.k (.int 1) 0 12576453521456) 12576336080944) 12576235417649 12576235417639) (.k (.int 1) 0 12576537407541) 12576235417653) 12575933427765 12575933427743) .nil
def q_fallen2 : Ss := .cons (.loop (.n "ball" 5 12507213946900) (.e (.ix (.var "deed" 4 12507348164636) (.k (.int 2) 0 12507432050718) 12507348164639)) q_fallen1 12507146842165) .nil
def q_fallen3 : Ss := .cons (.set "place" 3 (.ix (.call "behind" 34 (.cons (.var "rules" 0 12644770349084) (.cons (.var "place" 3 12644887789603) (.cons (.var "deed" 4 12645005230121) .nil))) 12644652908586 12644652908566) (.k (.int 0) 0 12645105893420) 12644652908589) 12644518690861 12644518690829) .nil
def q_fallen4 : Ss := .cons (.ife (.bo true (.cmp .Eq (.ix (.var "deed" 4 12438410579983) (.k (.int 0) 0 12438494466065) 12438410579986) (.k (.str "stroke") 0 12438595129374) 12438410579998) (.cons (.call "is_fair" 27 (.cons (.var "place" 3 12438947450928) (.cons (.sl (.var "deed" 4 12439064891446) (.e (.k (.int 1) 0 12439148777528)) .non 12439064891450 12439148777529) .nil)) 12438813233211 12438813233194) .nil) 12438410580027) q_fallen2 .nil 12438360256565) q_fallen3
def q_fallen5 : Ss := .cons (.ret (.bi .tuple (.cons (.var "found" 2 12713389166614) .nil) 12713288503319 12713288503312) 12713171062807) .nil
def q_fallen6 : Ss := .cons (.frz 2) q_fallen5
def q_fallen7 : Ss := .cons (.loop (.n "deed" 4 12369640767500) (.e (.ix (.var "frame" 1 12369774985237) (.k (.int 1) 0 12369875648535) 12369774985240)) q_fallen4 12369573675053) q_fallen6
def q_fallen8 : Ss := .cons (.set "place" 3 (.call "first_place" 31 (.cons (.var "rules" 0 12301189722141) (.cons (.ix (.var "frame" 1 12301307162660) (.k (.int 0) 0 12301407825958) 12301307162663) .nil)) 12300988395560 12300988395543) 12300854177832 12300854177801) q_fallen7
def b_fallen : Ss := (.cons (.own "found" 2 (.mul (.cons (.k (.int 0) 0 12232285691918) .nil) 12232268914703 (.call "top_of" 1 (.cons (.var "rules" 0 12232487018526) .nil) 12232369578015 12232369578008) 12232268914719) 12232134696991 12232134696969) q_fallen8)
def q_law_same1 : Ss := .cons (.ret (.cmp .Is (.var "got" 0 12988233535506) (.k .non 0 12988350976026) 12988233535514) 12988116095002) .nil
def q_law_same2 : Ss := .cons (.ret (.bo true (.isi (.var "got" 0 13125857046557) .bool 13125672497188 13125672497177 13125940932643) (.cons (.cmp .Eq (.var "got" 0 13126108704812) (.var "due" 1 13126226145331) 13126108704819) .nil) 13125672497203) 13125555056691) .nil
def q_law_same3 : Ss := .cons (.ret (.k (.bl false) 0 13331898048536) 13331780608024) .nil
def q_law_same4 : Ss := .cons (.ret (.bi .all (.cons (.lc (.call "_law_same" 7 (.cons (.var "one" 3 13400802078753) (.cons (.var "other" 4 13400885964840) .nil)) 13400634306601 13400634306589) (.t [("one", 3, 13401070514225), ("other", 4, 13401154400312)] 0 13401070514232) (.zp (.var "got" 0 13401372504131) (.var "due" 1 13401456390216) 13401305395273 13401305395263) .non ⟨.function, [(".0", .local), ("one", .local), ("other", .local), ("_law_same", .globalImplicit)], false, false, []⟩ [(".0", 2), ("one", 3), ("other", 4)] 13400617529418) .nil) 13400550420555 13400550420498) 13400432980043) .nil
def q_law_same5 : Ss := .cons (.ife (.bo false (.not (.isi (.var "got" 0 13263296008221) .tuple 13263111458853 13263111458841 13263379894308) 13263044349989) (.cons (.cmp .NotEq (.bi .len (.cons (.var "got" 0 13263614775344) .nil) 13263547666481 13263547666476) (.bi .len (.cons (.var "due" 1 13263816101948) .nil) 13263748993085 13263748993080) 13263547666493) .nil) 13263044350013) q_law_same3 .nil 13262994022424) q_law_same4
def q_law_same6 : Ss := .cons (.ret (.bo true (.isi (.var "got" 0 13538173931549) .str 13537989382179 13537989382169 13538257817634) (.cons (.cmp .Eq (.var "got" 0 13538408812587) (.var "due" 1 13538526253106) 13538408812594) .nil) 13537989382194) 13537871941682) .nil
def q_law_same7 : Ss := .cons (.ret (.bo true (.isi (.var "got" 0 13606826303513) .int 13606641754143 13606641754133 13606910189598) (.cons (.not (.isi (.var "got" 0 13607329620023) .bool 13607145070654 13607145070643 13607413506109) 13607077961790) (.cons (.cmp .Eq (.var "got" 0 13607614832712) (.var "due" 1 13607732273231) 13607614832719) .nil)) 13606641754192) 13606524313680) .nil
def q_law_same8 : Ss := .cons (.ife (.isi (.var "due" 1 13469320232981) .str 13469135683611 13469135683601 13469404119066) q_law_same6 .nil 13469085356082) q_law_same7
def q_law_same9 : Ss := .cons (.ife (.isi (.var "due" 1 13194442309653) .tuple 13194257760285 13194257760273 13194526195740) q_law_same5 .nil 13194207440971) q_law_same8
def q_law_same10 : Ss := .cons (.ife (.isi (.var "due" 1 13057003347989) .bool 13056818798620 13056818798609 13057087234075) q_law_same2 .nil 13056768471091) q_law_same9
def b_law_same : Ss := (.cons (.ife (.cmp .Is (.var "due" 1 12919379836938) (.k .non 0 12919497277458) 12919379836946) q_law_same1 .nil 12919329509402) q_law_same10)
def q_law_draw1 : Ss := .cons (.set "cell" 4 (.ix (.var "script" 0 14019025747989) (.bin .Mod (.var "k" 3 14019143188503) (.bi .len (.cons (.var "script" 0 14019277406244) .nil) 14019210297381 14019210297373) 14019143188517) 14019025748006) 14018908307494 14018908307468) .nil
def q_law_draw2 : Ss := .cons (.ret (.bin .Mod (.bin .Add (.bin .Mult (.bin .FloorDiv (.var "number" 5 14293853339666) (.k (.int 64) 0 14294021111832) 14293853339672) (.k (.int 67108864) 0 14294104997923) 14293853339683) (.bin .FloorDiv (.var "more" 6 14294289547306) (.k (.int 64) 0 14294423765040) 14294289547312) 14293853339696) (.var "many" 2 14294524428344) 14293836562488) 14293719121976) .nil
def q_law_draw3 : Ss := .cons (.set "more" 6 (.bin .Mod (.bin .Mult (.bin .Mod (.bin .Mult (.var "number" 5 14225117081617) (.var "number" 5 14225268076570) 14225117081626) (.k (.int 4294967279) 0 14225419071527) 14225117081639) (.k (.int 69621) 0 14225637175343) 14225117081647) (.k (.int 4294967291) 0 14225771393084) 14225117081660) 14224999641148 14224999641096) q_law_draw2
def q_law_draw4 : Ss := .cons (.set "number" 5 (.bin .Mod (.bin .Mult (.bin .Mod (.bin .Mult (.var "number" 5 14156431155219) (.var "number" 5 14156582150172) 14156431155228) (.k (.int 4294967279) 0 14156733145129) 14156431155241) (.k (.int 48271) 0 14156951248945) 14156431155249) (.k (.int 4294967291) 0 14157085466686) 14156431155262) 14156280160318 14156280160266) q_law_draw3
def q_law_draw5 : Ss := .cons (.set "number" 5 (.bin .Mod (.bin .Add (.var "cell" 4 14087728451602) (.bin .Mult (.k (.int 104729) 0 14087845892123) (.var "k" 3 14087996887071) 14087845892127) 14087728451615) (.k (.int 4294967291) 0 14088080773165) 14087711674413) 14087560679469 14087560679434) q_law_draw4
def q_law_draw6 : Ss := .cons (.ife (.var "script" 0 13950172049421) q_law_draw1 .nil 13950121721894) q_law_draw5
def q_law_draw7 : Ss := .cons (.set "cell" 4 (.k (.int 0) 0 13881519677452) 13881402236940 13881402236936) q_law_draw6
def q_law_draw8 : Ss := .cons (.set "k" 3 (.bi .len (.cons (.var "town" 1 13812816973840) .nil) 13812749864977 13812749864971) 13812682756113 13812682756101) q_law_draw7
def b_law_draw : Ss := (.cons (.rapp (.var "town" 1 13743963275272) (.k (.int 0) 0 13744164601873) 13743963275282 13743963275282 13743963275279) q_law_draw8)
def b_law_pick : Ss := (.cons (.ret (.ix (.var "some" 2 14431275524111) (.call "_law_draw" 8 (.cons (.var "script" 0 14431527182368) (.cons (.var "town" 1 14431661400102) (.cons (.bi .len (.cons (.var "some" 2 14431829172272) .nil) 14431762063409 14431762063403) .nil))) 14431359410226 14431359410201) 14431275524147) 14431158083635) .nil)
def b_law_drawn_rules : Ss := (.cons (.ret (.tup (.cons (.call "_law_pick" 9 (.cons (.var "script" 0 14568899035164) (.cons (.var "town" 1 14569033252898) (.cons (.lst (.cons (.k (.int 1) 0 14569150693414) (.cons (.k (.int 1) 0 14569201025065) (.cons (.k (.int 2) 0 14569251356716) (.cons (.k (.int 3) 0 14569301688367) (.cons (.k (.int 4) 0 14569352020018) (.cons (.k (.int 6) 0 14569402351669) .nil)))))) 14569133916214) .nil))) 14568731263031 14568731262997) (.cons (.call "_law_pick" 9 (.cons (.var "script" 0 14569654009929) (.cons (.var "town" 1 14569788227663) (.cons (.lst (.cons (.k (.int 2) 0 14569905668179) (.cons (.k (.int 2) 0 14569955999830) (.cons (.k (.int 3) 0 14570006331481) (.cons (.k (.int 4) 0 14570056663132) (.cons (.k (.int 6) 0 14570106994783) .nil))))) 14569888890976) .nil))) 14569486237793 14569486237762) .nil)) 0 14568714485858) 14568597045346) .nil)
def q_law_drawn_run1 : Ss := .cons (.set "whole" 3 (.bin .Add (.var "whole" 3 14843676295189) (.tup (.cons (.k (.int 1) 0 14843827290138) (.cons (.call "_law_pick" 9 (.cons (.var "script" 0 14844045393964) (.cons (.var "town" 1 14844179611698) (.cons (.rng false (.k (.int 2) 0 14844464824384) (.bin .Add (.ix (.var "rules" 2 14844515156039) (.k (.int 1) 0 14844615819337) 14844515156042) (.k (.int 2) 0 14844699705422) 14844515156046) 14844280275024 14844280275000 14844364161103 14844364161086) .nil))) 14843877621841 14843877621797) .nil)) 0 14843810512978) 14843676295250) 14843542077522 14843542077453) .nil
def q_law_drawn_run2 : Ss := .cons (.ret (.sl (.var "whole" 3 14981031370768) .non (.e (.call "_law_pick" 9 (.cons (.var "script" 0 14981316583458) (.cons (.var "town" 1 14981450801192) (.cons (.lst (.cons (.bi .len (.cons (.var "whole" 3 14981635350580) .nil) 14981568241717 14981568241710) (.cons (.call "_law_draw" 8 (.cons (.var "script" 0 14981937340487) (.cons (.var "town" 1 14982071558221) (.cons (.bin .Add (.bi .len (.cons (.var "whole" 3 14982239330392) .nil) 14982172221529 14982172221522) (.k (.int 1) 0 14982390325341) 14982172221533) .nil))) 14981769568350 14981769568320) .nil)) 14981551464543) .nil))) 14981148811360 14981148811291)) 14981031370849 14981132034144) 14980913930337) .nil
def q_law_drawn_run3 : Ss := .cons (.set "whole" 3 (.bin .Add (.var "whole" 3 14912328667153) (.rng true (.k (.int 2) 0 14912664211489) (.bin .Add (.ix (.var "rules" 2 14912714543144) (.k (.int 1) 0 14912815206442) 14912714543147) (.k (.int 2) 0 14912899092527) 14912714543151) 14912462884913 14912462884889 14912563548208 14912563548191) 14912328667185) 14912194449457 14912194449417) q_law_drawn_run2
def q_law_drawn_run4 : Ss := .cons (.loop (.n "k" 4 14774822596617) (.r1 (.ix (.var "rules" 2 14775007146008) (.k (.int 0) 0 14775107809306) 14775007146011) 14774906482716 14774906482706) q_law_drawn_run1 14774755491922) q_law_drawn_run3
def b_law_drawn_run : Ss := (.cons (.set "whole" 3 (.tup .nil 0 14706170224654) 14706036006926 14706036006921) q_law_drawn_run4)
def q_law1 : Ss := .cons (.ret (.k (.bl false) 0 15599640915992) 15599523475480) .nil
def q_law2 : Ss := .cons (.ret (.k (.bl false) 0 15737079877656) 15736962437144) .nil
def q_law3 : Ss := .cons (.ret (.k (.bl false) 0 15874518839320) 15874401398808) .nil
def q_law4 : Ss := .cons (.ret (.k (.bl false) 0 16149396762648) 16149279322136) .nil
def q_law5 : Ss := .cons (.ret (.k (.bl false) 0 16355555205144) 16355437764632) .nil
def q_law6 : Ss := .cons (.ret (.k (.bl false) 0 16492994166808) 16492876726296) .nil
def q_law7 : Ss := .cons (.ret (.k (.bl false) 0 16767939199004) 16767821758492) .nil
def q_law8 : Ss := .cons (.ret (.k (.bl false) 0 17042817122332) 17042699681820) .nil
def q_law9 : Ss := .cons (.ife (.bo false (.bo true (.cmp .NotEq (.ix (.var "place" 11 16973963423764) (.k (.int 1) 0 16974064087062) 16973963423767) (.bin .Add (.ix (.var "rules" 3 16974164750368) (.k (.int 1) 0 16974265413666) 16974164750371) (.k (.int 1) 0 16974349299751) 16974164750375) 16973963423783) (.cons (.cmp .Eq (.ix (.var "later" 14 16974449963057) (.k (.int 0) 0 16974550626355) 16974449963060) (.var "player" 5 16974651289662) 16974449963070) .nil) 16973963423806) (.cons (.cmp .NotEq (.sl (.ix (.call "visits" 39 (.cons (.var "rules" 3 16974936502350) (.cons (.var "miss" 13 16975053942868) .nil)) 16974819061845 16974819061832) (.neg (.k (.int 1) 0 16975171383384) 16975154606168) 16974819061849) .non (.e (.k (.int 2) 0 16975238492252)) 16974819061853 16975221715036) (.tup (.cons (.var "player" 5 16975355932776) (.cons (.var "total" 8 16975490150511) .nil)) 0 16975339155568) 16974819061872) .nil) 16973963423856) q_law8 .nil 16973913096220) .nil
def q_law10 : Ss := .cons (.set "later" 14 (.call "place_of" 36 (.cons (.var "rules" 3 16905478823970) (.cons (.var "miss" 13 16905596264488) .nil)) 16905327829033 16905327829020) 16905193611305 16905193611281) q_law9
def q_law11 : Ss := .cons (.set "miss" 13 (.tup (.cons (.var "player" 5 16836608348186) (.cons (.bin .Add (.var "deeds" 6 16836742565921) (.tup (.cons (.tup (.cons (.k (.str "stroke") 0 16836910338094) (.cons (.k (.int 0) 0 16837078110257) (.cons (.tup .nil 0 16837128441909) (.cons (.k (.bl false) 0 16837195550780) .nil)))) 0 16836893560893) .nil) 0 16836876783679) 16836742565951) .nil)) 0 16836591571008) 16836474130496 16836474130448) q_law10
def q_law12 : Ss := .cons (.ife (.cmp .NotEq (.bin .Add (.bin .Add (.call "still" 47 (.cons (.var "rules" 3 16699186163738) (.cons (.var "place" 11 16699303604257) .nil)) 16699085500450 16699085500436) (.var "total" 8 16699454599210) 16699085500458) (.var "least" 12 16699588816946) 16699085500466) (.call "full_worth" 4 (.cons (.var "rules" 3 16699924361286) .nil) 16699739811911 16699739811904) 16699085500487) q_law7 .nil 16699035172892) q_law11
def q_law13 : Ss := .cons (.set "least" 12 (.bi .sum (.cons (.lc (.bin .Sub (.bin .Add (.ix (.var "rules" 3 16630533791774) (.k (.int 1) 0 16630634455072) 16630533791777) (.k (.int 1) 0 16630718341157) 16630533791781) (.var "ball" 17 16630785450028) 16630533791788) (.n "ball" 17 16630936444981) (.e (.stp (.var "run" 4 16631070662716) (.e (.k (.int 1) 0 16631137771582)) (.e (.bin .Mult (.k (.int 2) 0 16631171326016) (.ix (.var "rules" 3 16631238434888) (.k (.int 0) 0 16631339098186) 16631238434891) 16631171326027)) 2 0 16631389429837 16631137771597 16631070662734)) .non ⟨.function, [(".0", .local), ("ball", .local), ("rules", .free)], false, false, []⟩ [(".0", 15), ("ball", 17)] 16630517014607) .nil) 16630449905744 16630449905687) 16630315688016 16630315687953) q_law12
def q_law14 : Ss := .cons (.ife (.cmp .IsNot (.var "place" 11 16561579429904) (.k .non 0 16561797533724) 16561579429916) q_law13 .nil 16561529126940) .nil
def q_law15 : Ss := .cons (.ife (.bo true (.cmp .Is (.var "place" 11 16424140468240) (.k .non 0 16424291463192) 16424140468248) (.cons (.cmp .NotEq (.call "winner_of" 38 (.cons (.var "rules" 3 16424610230316) (.cons (.var "frame" 7 16424727670835) .nil)) 16424442458164 16424442458150) (.var "player" 5 16424895443006) 16424442458174) .nil) 16424140468286) q_law6 .nil 16424090140696) q_law14
def q_law16 : Ss := .cons (.ife (.not (.call "_law_same" 7 (.cons (.call "is_clear" 58 (.cons (.var "rules" 3 16287087382567) (.cons (.var "run" 4 16287204823084) .nil)) 16286936387629 16286936387617) (.cons (.cmp .Is (.var "place" 11 16287305486388) (.k .non 0 16287456481340) 16287305486396) .nil)) 16286768615485 16286768615448) 16286701506621) q_law5 .nil 16286651179032) q_law15
def q_law17 : Ss := .cons (.set "place" 11 (.call "place_of" 36 (.cons (.var "rules" 3 16218216906782) (.cons (.var "frame" 7 16218334347301) .nil)) 16218065911846 16218065911832) 16217931694118 16217931694093) q_law16
def q_law18 : Ss := .cons (.ife (.bo false (.not (.call "_law_same" 7 (.cons (.call "fallen" 44 (.cons (.var "rules" 3 16080895385637) (.cons (.var "frame" 7 16081012826156) .nil)) 16080777945133 16080777945119) (.cons (.var "due" 9 16081147043890) .nil)) 16080610172979 16080610172952) 16080543064115) (.cons (.not (.call "_law_same" 7 (.cons (.call "sorted_out" 6 (.cons (.var "run" 4 16081700692051) .nil) 16081516142676 16081516142671) (.cons (.var "told" 10 16081801355354) .nil)) 16081348370523 16081348370500) 16081281261659) .nil) 16080543064155) q_law4 .nil 16080492736536) q_law17
def q_law19 : Ss := .cons (.set "told" 10 (.bi .tuple (.cons (.lc (.tup (.cons (.bin .Add (.var "ball" 17 16012024909851) (.k (.int 1) 0 16012142350367) 16012024909855) (.cons (.var "many" 18 16012192682021) .nil)) 0 16012008132646) (.t [("ball", 17, 16012360454191), ("many", 18, 16012461117493)] 0 16012360454197) (.en (.var "due" 9 16012763107398) 16012595335239 16012595335234) (.e (.cmp .Gt (.var "many" 18 16012897325135) (.k (.int 0) 0 16013014765651) 16012897325139)) ⟨.function, [(".0", .local), ("ball", .local), ("many", .local)], false, false, []⟩ [(".0", 15), ("ball", 17), ("many", 18)] 16011991355476) .nil) 16011890692181 16011890692116) 16011773251669 16011773251596) q_law18
def q_law20 : Ss := .cons (.set "due" 9 (.bi .tuple (.cons (.lc (.me .count (.var "run" 4 15943271874584) (.var "ball" 17 15943439646755) 15943271874596 15943271874590) (.n "ball" 17 15943607418925) (.r2 (.k (.int 1) 0 15943842299960) (.bin .Add (.ix (.var "rules" 3 15943892631615) (.k (.int 1) 0 15943993294913) 15943892631618) (.k (.int 2) 0 15944077180998) 15943892631622) 15943741636679 15943741636662) .non ⟨.function, [(".0", .local), ("ball", .local), ("run", .free)], false, false, []⟩ [(".0", 15), ("ball", 17)] 15943255097416) .nil) 15943154434121 15943154434067) 15943053770825 15943053770763) q_law19
def q_law21 : Ss := .cons (.ife (.bo false (.cmp .NotEq (.ix (.call "best_breaks" 41 (.cons (.var "rules" 3 15805866467356) (.cons (.var "frame" 7 15805983907875) .nil)) 15805665140772 15805665140758) (.var "player" 5 15806101348395) 15805665140780) (.var "total" 8 15806285897781) 15805665140789) (.cons (.cmp .NotEq (.call "fouls" 43 (.cons (.var "rules" 3 15806537556036) (.cons (.var "frame" 7 15806654996555) .nil)) 15806436892748 15806436892734) (.tup (.cons (.tup (.cons (.k (.int 0) 0 15806856323155) (.cons (.k (.int 0) 0 15806906654806) .nil)) 0 15806839545943) (.cons (.tup (.cons (.k (.int 0) 0 15806990540891) (.cons (.k (.int 0) 0 15807040872542) .nil)) 0 15806973763679) .nil)) 0 15806822768736) 15806436892768) .nil) 15805665140832) q_law3 .nil 15805614813208) q_law20
def q_law22 : Ss := .cons (.ife (.cmp .NotEq (.call "visits" 39 (.cons (.var "rules" 3 15668343619607) (.cons (.var "frame" 7 15668461060126) .nil)) 15668226179103 15668226179089) (.bin .Mult (.tup (.cons (.tup (.cons (.var "player" 5 15668662386731) (.cons (.var "total" 8 15668796604466) (.cons (.bi .len (.cons (.var "run" 4 15668981153851) .nil) 15668914044988 15668914044983) .nil))) 0 15668645609533) .nil) 0 15668628832319) (.bi .int (.cons (.cmp .NotEq (.var "run" 4 15669216034889) (.tup .nil 0 15669333475407) 15669216034895) .nil) 15669148926032 15669148926021) 15668628832336) 15668226179152) q_law2 .nil 15668175851544) q_law21
def q_law23 : Ss := .cons (.ife (.bo false (.cmp .IsNot (.call "is_frame" 64 (.cons (.var "rules" 3 15530938212377) (.cons (.var "frame" 7 15531055652896) .nil)) 15530787217441 15530787217427) (.k (.bl true) 0 15531290533933) 15530787217453) (.cons (.cmp .NotEq (.bi .sum (.cons (.call "points_in" 37 (.cons (.var "rules" 3 15531659632708) (.cons (.var "frame" 7 15531777073227) .nil)) 15531491860556 15531491860542) .nil) 15531424751693 15531424751668) (.var "total" 8 15531961622614) 15531424751702) .nil) 15530787217494) q_law1 .nil 15530736889880) q_law22
def q_law24 : Ss := .cons (.par "frame" 7 15462017404941 "total" 8 15462134845460 0 15462017404948 (.tup (.cons (.var "player" 5 15462302617631) (.cons (.var "deeds" 6 15462436835366) .nil)) 0 15462285840423) (.call "sum_of" 5 (.cons (.var "run" 4 15462688493619) .nil) 15462571053108 15462571053103) 0 15462269063221 15462017404981) q_law23
def q_law25 : Ss := .cons (.set "deeds" 6 (.bi .tuple (.cons (.lc (.bin .Add (.tup (.cons (.k (.str "stroke") 0 15393566359584) .nil) 0 15393549582370) (.var "stroke" 16 15393784463403) 15393549582379) (.n "stroke" 16 15393969012790) (.e (.call "rows_of" 59 (.cons (.var "run" 4 15394271002693) .nil) 15394136784966 15394136784961)) .non ⟨.function, [(".0", .local), ("stroke", .local)], false, false, []⟩ [(".0", 15), ("stroke", 16)] 15393532805191) .nil) 15393432141896 15393432141845) 15393297924168 15393297924109) q_law24
def q_law26 : Ss := .cons (.unp (.t [("run", 4, 15324578443275), ("player", 5, 15324662329363)] 0 15324578443283) (.tup (.cons (.call "_law_drawn_run" 60 (.cons (.var "script" 0 15325081759788) (.cons (.var "town" 1 15325215977522) (.cons (.var "rules" 3 15325316640825) .nil))) 15324830101562 15324830101541) (.cons (.call "_law_draw" 8 (.cons (.var "script" 0 15325618630732) (.cons (.var "town" 1 15325752848466) (.cons (.k (.int 2) 0 15325853511765) .nil))) 15325450858582 15325450858565) .nil)) 0 15324813324375) 15324578443351) q_law25
def q_law27 : Ss := .cons (.set "rules" 3 (.call "_law_drawn_rules" 10 (.cons (.var "script" 0 15256278392871) (.cons (.var "town" 1 15256412610605) .nil)) 15255993180206 15255993180192) 15255858962478 15255858962445) q_law26
def q_law28 : Ss := .cons (.ret (.k (.bl true) 0 17111335276559) 17111217836047) .nil
def q_law29 : Ss := .cons (.loop (.n "k" 2 15187139481609) (.r1 (.k (.int 8) 0 15187324030996) 15187223367701 15187223367698) q_law27 15187072483356) q_law28
def q_law30 : Ss := .cons (.shr 1) q_law29
def b_law : Ss := (.cons (.own "town" 1 (.lst .nil 15118470332429) 15118352891917 15118352891912) q_law30)
def Gm : Nat → Option Fd
  | 1 => some ⟨1, 1, b_top_of⟩
  | 2 => some ⟨2, 2, b_colours_of⟩
  | 4 => some ⟨1, 1, b_full_worth⟩
  | 5 => some ⟨1, 1, b_sum_of⟩
  | 6 => some ⟨3, 1, b_sorted_out⟩
  | 11 => some ⟨1, 1, b_is_whole⟩
  | 12 => some ⟨6, 2, b_is_stroke⟩
  | 15 => some ⟨12, 3, b_is_there⟩
  | 16 => some ⟨8, 2, b_may_fall⟩
  | 27 => some ⟨5, 2, b_is_fair⟩
  | 28 => some ⟨2, 2, b_points_of⟩
  | 29 => some ⟨2, 2, b_foul_of⟩
  | 58 => some ⟨2, 2, b_is_clear⟩
  | 59 => some ⟨3, 1, b_rows_of⟩
  | 31 => some ⟨2, 2, b_first_place⟩
  | 62 => some ⟨2, 2, b_is_deed⟩
  | 32 => some ⟨3, 3, b_added⟩
  | 33 => some ⟨14, 3, b_struck⟩
  | 34 => some ⟨9, 3, b_behind⟩
  | 35 => some ⟨4, 2, b_walked⟩
  | 63 => some ⟨5, 2, b_frame_fault⟩
  | 64 => some ⟨2, 2, b_is_frame⟩
  | 36 => some ⟨2, 2, b_place_of⟩
  | 37 => some ⟨2, 2, b_points_in⟩
  | 38 => some ⟨2, 2, b_winner_of⟩
  | 46 => some ⟨3, 3, b_rest_of⟩
  | 47 => some ⟨9, 2, b_still⟩
  | 39 => some ⟨11, 2, b_visits⟩
  | 41 => some ⟨8, 2, b_best_breaks⟩
  | 43 => some ⟨5, 2, b_fouls⟩
  | 44 => some ⟨6, 2, b_fallen⟩
  | 7 => some ⟨5, 2, b_law_same⟩
  | 8 => some ⟨7, 3, b_law_draw⟩
  | 9 => some ⟨3, 3, b_law_pick⟩
  | 10 => some ⟨2, 2, b_law_drawn_rules⟩
  | 60 => some ⟨5, 3, b_law_drawn_run⟩
  | 0 => some ⟨19, 1, b_law⟩
  | _ => none
def nms : Nat → Option Str
  | 1 => some "top_of"
  | 2 => some "colours_of"
  | 4 => some "full_worth"
  | 5 => some "sum_of"
  | 6 => some "sorted_out"
  | 11 => some "is_whole"
  | 12 => some "is_stroke"
  | 15 => some "is_there"
  | 16 => some "may_fall"
  | 27 => some "is_fair"
  | 28 => some "points_of"
  | 29 => some "foul_of"
  | 58 => some "is_clear"
  | 59 => some "rows_of"
  | 31 => some "first_place"
  | 62 => some "is_deed"
  | 32 => some "added"
  | 33 => some "struck"
  | 34 => some "behind"
  | 35 => some "walked"
  | 63 => some "frame_fault"
  | 64 => some "is_frame"
  | 36 => some "place_of"
  | 37 => some "points_in"
  | 38 => some "winner_of"
  | 46 => some "rest_of"
  | 47 => some "still"
  | 39 => some "visits"
  | 41 => some "best_breaks"
  | 43 => some "fouls"
  | 44 => some "fallen"
  | 7 => some "_law_same"
  | 8 => some "_law_draw"
  | 9 => some "_law_pick"
  | 10 => some "_law_drawn_rules"
  | 60 => some "_law_drawn_run"
  | 0 => some "law"
  | 1005 => some "NotNow"
  | _ => none
end Bz
namespace Bz
open PySem
/-- the script, and objects that nothing speaks of any more -/
structure Sc where
  ns : List Int
  jk : Stt
def Tw (ns : Sc) (n : Nat) : Stt := .scr ns.ns :: .lst (List.replicate n (.int 0)) :: ns.jk
theorem mulOk_r {i j : Int} (h : -(2 ^ 64) < j) (k : j < 2 ^ 64) : mulOk i j = true := by
  unfold mulOk; exact decide_eq_true (by omega)
theorem mulOk_l {i j : Int} (h : -(2 ^ 64) < i) (k : i < 2 ^ 64) : mulOk i j = true := by
  unfold mulOk; exact decide_eq_true (by omega)
theorem atI_some {α : Type} {xs : List α} {i : Int} (h0 : 0 ≤ i) (h1 : i < xs.length) : ∃ v, L2.atI xs i = some v ∧ v ∈ xs := by
  have hl : i.toNat < xs.length := by omega
  refine ⟨xs[i.toNat], ?_, List.getElem_mem hl⟩
  have := L2.atI_nat (xs := xs) (j := i.toNat) (List.getElem?_eq_getElem hl)
  rwa [Int.toNat_of_nonneg h0] at this
theorem draw_ok {k : Nat} {ns : Sc} {n : Nat} {m : Int} (hm : 0 < m) (hn : n < 1000000) : Post (rn Gm (k + 1) 8 [.ref 0, .ref 1, .d (.int m)] (Tw ns n)) fun v s => ∃ i : Int, v = .d (.int i) ∧ 0 ≤ i ∧ i < m ∧ s = Tw ns (n + 1) := by
  rw [run_at (d := ⟨7, 3, b_law_draw⟩) rfl]
  have hz : n < szl := by unfold szl; omega
  have rp : List.replicate n (PyData.int 0) ++ [.int 0] = List.replicate (n + 1) (.int 0) := List.replicate_succ'.symm
  have key : ∀ cell : Int, Post (xB (rn Gm k) q_law_draw5 [.v (.ref 0), .v (.ref 1), .v (.d (.int m)), .v (.d (.int (n + 1))), .v (.d (.int cell)), .non, .non] (Tw ns (n + 1))) (Fr fun v s => ∃ i : Int, v = .d (.int i) ∧ 0 ≤ i ∧ i < m ∧ s = Tw ns (n + 1)) := by
    intro cell
    simp only [q_law_draw5, post_cons]
    simp [ex, xB_eq, ev, evs, evb, evt, evo, evi, evf, tst, K.val, Bz.isi, isOwn, post_bind, post_ok, post_lift, post_ite, post_noexc, post_nil, bind_ok, fk_nx, fk_rt, fr_nx, fr_rt, lift_some, sto, stoT, wipeS, z_add, z_adds, z_addt, z_addl, z_sub, z_mul, z_mult, z_mull, z_fdiv, z_mod, z_eq, z_ne, z_eqi, z_eqb, z_eqs, z_eqn, z_lt, z_le, z_gt, z_ge, z_is0, z_is1, z_is2, z_is3, z_is4, z_is5, z_in0, z_in1, z_in2, z_in3, z_in4, z_in5, z_inl, z_int, z_nil, z_nit, z_t0, z_t1, z_t2, z_t3, z_t4, z_t5, z_tr, z_isb, z_isb1, z_isb2, z_isb3, z_isb4, z_isb5, z_addb, z_subb, z_nsb, z_rvt, z_rvl, z_stp, z_srl, z_srt, z_sti, z_stb, z_shl, z_ixt, z_ixl, z_ixr, z_slt, z_sll, z_lent, z_lenl, z_lenr, z_suml, z_sumt, z_maxl, z_maxt, z_minl, z_bi, z_bb, z_tul, z_tut, z_tur, z_lil, z_lit, z_all, z_max2, z_min2, z_kt, z_kl, z_cot, z_col, z_da, z_ds0, z_ds1, z_sql, z_sqt, z_isLr, z_fn, z_fb, z_fi, z_fs, sn_0, sn_1, sn_2, sn_3, sn_4, sn_5, sn_6, sn_7, sn_8, sn_9, sn_10, sn_11, sn_12, sn_13, sn_14, sn_15, sn_16, sn_17, sn_18, sn_19, mulOk_l]
    generalize hy : (cell + 104729 * ((n : Int) + 1)) % 4294967291 = y
    have y0 : 0 ≤ y := by omega
    have y1 : y < 4294967291 := by omega
    have my : mulOk y y = true := mulOk_l (by omega) (by omega)
    clear hy
    simp only [q_law_draw4, post_cons]
    simp [ex, xB_eq, ev, evs, evb, evt, evo, evi, evf, tst, K.val, Bz.isi, isOwn, post_bind, post_ok, post_lift, post_ite, post_noexc, post_nil, bind_ok, fk_nx, fk_rt, fr_nx, fr_rt, lift_some, sto, stoT, wipeS, z_add, z_adds, z_addt, z_addl, z_sub, z_mul, z_mult, z_mull, z_fdiv, z_mod, z_eq, z_ne, z_eqi, z_eqb, z_eqs, z_eqn, z_lt, z_le, z_gt, z_ge, z_is0, z_is1, z_is2, z_is3, z_is4, z_is5, z_in0, z_in1, z_in2, z_in3, z_in4, z_in5, z_inl, z_int, z_nil, z_nit, z_t0, z_t1, z_t2, z_t3, z_t4, z_t5, z_tr, z_isb, z_isb1, z_isb2, z_isb3, z_isb4, z_isb5, z_addb, z_subb, z_nsb, z_rvt, z_rvl, z_stp, z_srl, z_srt, z_sti, z_stb, z_shl, z_ixt, z_ixl, z_ixr, z_slt, z_sll, z_lent, z_lenl, z_lenr, z_suml, z_sumt, z_maxl, z_maxt, z_minl, z_bi, z_bb, z_tul, z_tut, z_tur, z_lil, z_lit, z_all, z_max2, z_min2, z_kt, z_kl, z_cot, z_col, z_da, z_ds0, z_ds1, z_sql, z_sqt, z_isLr, z_fn, z_fb, z_fi, z_fs, sn_0, sn_1, sn_2, sn_3, sn_4, sn_5, sn_6, sn_7, sn_8, sn_9, sn_10, sn_11, sn_12, sn_13, sn_14, sn_15, sn_16, sn_17, sn_18, sn_19, mulOk_r, my]
    generalize hz : (y * y % 4294967279 * 48271) % 4294967291 = z
    have y0 : 0 ≤ z := by omega
    have y1 : z < 4294967291 := by omega
    have my : mulOk z z = true := mulOk_l (by omega) (by omega)
    clear hz
    simp only [q_law_draw3, post_cons]
    simp [ex, xB_eq, ev, evs, evb, evt, evo, evi, evf, tst, K.val, Bz.isi, isOwn, post_bind, post_ok, post_lift, post_ite, post_noexc, post_nil, bind_ok, fk_nx, fk_rt, fr_nx, fr_rt, lift_some, sto, stoT, wipeS, z_add, z_adds, z_addt, z_addl, z_sub, z_mul, z_mult, z_mull, z_fdiv, z_mod, z_eq, z_ne, z_eqi, z_eqb, z_eqs, z_eqn, z_lt, z_le, z_gt, z_ge, z_is0, z_is1, z_is2, z_is3, z_is4, z_is5, z_in0, z_in1, z_in2, z_in3, z_in4, z_in5, z_inl, z_int, z_nil, z_nit, z_t0, z_t1, z_t2, z_t3, z_t4, z_t5, z_tr, z_isb, z_isb1, z_isb2, z_isb3, z_isb4, z_isb5, z_addb, z_subb, z_nsb, z_rvt, z_rvl, z_stp, z_srl, z_srt, z_sti, z_stb, z_shl, z_ixt, z_ixl, z_ixr, z_slt, z_sll, z_lent, z_lenl, z_lenr, z_suml, z_sumt, z_maxl, z_maxt, z_minl, z_bi, z_bb, z_tul, z_tut, z_tur, z_lil, z_lit, z_all, z_max2, z_min2, z_kt, z_kl, z_cot, z_col, z_da, z_ds0, z_ds1, z_sql, z_sqt, z_isLr, z_fn, z_fb, z_fi, z_fs, sn_0, sn_1, sn_2, sn_3, sn_4, sn_5, sn_6, sn_7, sn_8, sn_9, sn_10, sn_11, sn_12, sn_13, sn_14, sn_15, sn_16, sn_17, sn_18, sn_19, mulOk_r, my]
    simp only [q_law_draw2, post_cons]
    simp [ex, xB_eq, ev, evs, evb, evt, evo, evi, evf, tst, K.val, Bz.isi, isOwn, post_bind, post_ok, post_lift, post_ite, post_noexc, post_nil, bind_ok, fk_nx, fk_rt, fr_nx, fr_rt, lift_some, sto, stoT, wipeS, z_add, z_adds, z_addt, z_addl, z_sub, z_mul, z_mult, z_mull, z_fdiv, z_mod, z_eq, z_ne, z_eqi, z_eqb, z_eqs, z_eqn, z_lt, z_le, z_gt, z_ge, z_is0, z_is1, z_is2, z_is3, z_is4, z_is5, z_in0, z_in1, z_in2, z_in3, z_in4, z_in5, z_inl, z_int, z_nil, z_nit, z_t0, z_t1, z_t2, z_t3, z_t4, z_t5, z_tr, z_isb, z_isb1, z_isb2, z_isb3, z_isb4, z_isb5, z_addb, z_subb, z_nsb, z_rvt, z_rvl, z_stp, z_srl, z_srt, z_sti, z_stb, z_shl, z_ixt, z_ixl, z_ixr, z_slt, z_sll, z_lent, z_lenl, z_lenr, z_suml, z_sumt, z_maxl, z_maxt, z_minl, z_bi, z_bb, z_tul, z_tut, z_tur, z_lil, z_lit, z_all, z_max2, z_min2, z_kt, z_kl, z_cot, z_col, z_da, z_ds0, z_ds1, z_sql, z_sqt, z_isLr, z_fn, z_fb, z_fi, z_fs, sn_0, sn_1, sn_2, sn_3, sn_4, sn_5, sn_6, sn_7, sn_8, sn_9, sn_10, sn_11, sn_12, sn_13, sn_14, sn_15, sn_16, sn_17, sn_18, sn_19, mulOk_r, hm]
    exact ⟨Int.emod_nonneg _ (by omega), Int.emod_lt_of_pos _ hm⟩
  rw [post_runB]
  refine ⟨rfl, ?_⟩
  simp only [b_law_draw, post_cons]
  simp [ex, xB_eq, ev, evs, evb, evt, evo, evi, evf, tst, K.val, Bz.isi, isOwn, post_bind, post_ok, post_lift, post_ite, post_noexc, post_nil, bind_ok, fk_nx, fk_rt, fr_nx, fr_rt, lift_some, sto, stoT, wipeS, z_add, z_adds, z_addt, z_addl, z_sub, z_mul, z_mult, z_mull, z_fdiv, z_mod, z_eq, z_ne, z_eqi, z_eqb, z_eqs, z_eqn, z_lt, z_le, z_gt, z_ge, z_is0, z_is1, z_is2, z_is3, z_is4, z_is5, z_in0, z_in1, z_in2, z_in3, z_in4, z_in5, z_inl, z_int, z_nil, z_nit, z_t0, z_t1, z_t2, z_t3, z_t4, z_t5, z_tr, z_isb, z_isb1, z_isb2, z_isb3, z_isb4, z_isb5, z_addb, z_subb, z_nsb, z_rvt, z_rvl, z_stp, z_srl, z_srt, z_sti, z_stb, z_shl, z_ixt, z_ixl, z_ixr, z_slt, z_sll, z_lent, z_lenl, z_lenr, z_suml, z_sumt, z_maxl, z_maxt, z_minl, z_bi, z_bb, z_tul, z_tut, z_tur, z_lil, z_lit, z_all, z_max2, z_min2, z_kt, z_kl, z_cot, z_col, z_da, z_ds0, z_ds1, z_sql, z_sqt, z_isLr, z_fn, z_fb, z_fi, z_fs, sn_0, sn_1, sn_2, sn_3, sn_4, sn_5, sn_6, sn_7, sn_8, sn_9, sn_10, sn_11, sn_12, sn_13, sn_14, sn_15, sn_16, sn_17, sn_18, sn_19, Tw, hz, rp]
  simp only [q_law_draw8, post_cons]
  simp [ex, xB_eq, ev, evs, evb, evt, evo, evi, evf, tst, K.val, Bz.isi, isOwn, post_bind, post_ok, post_lift, post_ite, post_noexc, post_nil, bind_ok, fk_nx, fk_rt, fr_nx, fr_rt, lift_some, sto, stoT, wipeS, z_add, z_adds, z_addt, z_addl, z_sub, z_mul, z_mult, z_mull, z_fdiv, z_mod, z_eq, z_ne, z_eqi, z_eqb, z_eqs, z_eqn, z_lt, z_le, z_gt, z_ge, z_is0, z_is1, z_is2, z_is3, z_is4, z_is5, z_in0, z_in1, z_in2, z_in3, z_in4, z_in5, z_inl, z_int, z_nil, z_nit, z_t0, z_t1, z_t2, z_t3, z_t4, z_t5, z_tr, z_isb, z_isb1, z_isb2, z_isb3, z_isb4, z_isb5, z_addb, z_subb, z_nsb, z_rvt, z_rvl, z_stp, z_srl, z_srt, z_sti, z_stb, z_shl, z_ixt, z_ixl, z_ixr, z_slt, z_sll, z_lent, z_lenl, z_lenr, z_suml, z_sumt, z_maxl, z_maxt, z_minl, z_bi, z_bb, z_tul, z_tut, z_tur, z_lil, z_lit, z_all, z_max2, z_min2, z_kt, z_kl, z_cot, z_col, z_da, z_ds0, z_ds1, z_sql, z_sqt, z_isLr, z_fn, z_fb, z_fi, z_fs, sn_0, sn_1, sn_2, sn_3, sn_4, sn_5, sn_6, sn_7, sn_8, sn_9, sn_10, sn_11, sn_12, sn_13, sn_14, sn_15, sn_16, sn_17, sn_18, sn_19]
  simp only [q_law_draw7, post_cons]
  simp [ex, xB_eq, ev, evs, evb, evt, evo, evi, evf, tst, K.val, Bz.isi, isOwn, post_bind, post_ok, post_lift, post_ite, post_noexc, post_nil, bind_ok, fk_nx, fk_rt, fr_nx, fr_rt, lift_some, sto, stoT, wipeS, z_add, z_adds, z_addt, z_addl, z_sub, z_mul, z_mult, z_mull, z_fdiv, z_mod, z_eq, z_ne, z_eqi, z_eqb, z_eqs, z_eqn, z_lt, z_le, z_gt, z_ge, z_is0, z_is1, z_is2, z_is3, z_is4, z_is5, z_in0, z_in1, z_in2, z_in3, z_in4, z_in5, z_inl, z_int, z_nil, z_nit, z_t0, z_t1, z_t2, z_t3, z_t4, z_t5, z_tr, z_isb, z_isb1, z_isb2, z_isb3, z_isb4, z_isb5, z_addb, z_subb, z_nsb, z_rvt, z_rvl, z_stp, z_srl, z_srt, z_sti, z_stb, z_shl, z_ixt, z_ixl, z_ixr, z_slt, z_sll, z_lent, z_lenl, z_lenr, z_suml, z_sumt, z_maxl, z_maxt, z_minl, z_bi, z_bb, z_tul, z_tut, z_tur, z_lil, z_lit, z_all, z_max2, z_min2, z_kt, z_kl, z_cot, z_col, z_da, z_ds0, z_ds1, z_sql, z_sqt, z_isLr, z_fn, z_fb, z_fi, z_fs, sn_0, sn_1, sn_2, sn_3, sn_4, sn_5, sn_6, sn_7, sn_8, sn_9, sn_10, sn_11, sn_12, sn_13, sn_14, sn_15, sn_16, sn_17, sn_18, sn_19]
  simp only [q_law_draw6, post_cons]
  simp [ex, xB_eq, ev, evs, evb, evt, evo, evi, evf, tst, K.val, Bz.isi, isOwn, post_bind, post_ok, post_lift, post_ite, post_noexc, post_nil, bind_ok, fk_nx, fk_rt, fr_nx, fr_rt, lift_some, sto, stoT, wipeS, z_add, z_adds, z_addt, z_addl, z_sub, z_mul, z_mult, z_mull, z_fdiv, z_mod, z_eq, z_ne, z_eqi, z_eqb, z_eqs, z_eqn, z_lt, z_le, z_gt, z_ge, z_is0, z_is1, z_is2, z_is3, z_is4, z_is5, z_in0, z_in1, z_in2, z_in3, z_in4, z_in5, z_inl, z_int, z_nil, z_nit, z_t0, z_t1, z_t2, z_t3, z_t4, z_t5, z_tr, z_isb, z_isb1, z_isb2, z_isb3, z_isb4, z_isb5, z_addb, z_subb, z_nsb, z_rvt, z_rvl, z_stp, z_srl, z_srt, z_sti, z_stb, z_shl, z_ixt, z_ixl, z_ixr, z_slt, z_sll, z_lent, z_lenl, z_lenr, z_suml, z_sumt, z_maxl, z_maxt, z_minl, z_bi, z_bb, z_tul, z_tut, z_tur, z_lil, z_lit, z_all, z_max2, z_min2, z_kt, z_kl, z_cot, z_col, z_da, z_ds0, z_ds1, z_sql, z_sqt, z_isLr, z_fn, z_fb, z_fi, z_fs, sn_0, sn_1, sn_2, sn_3, sn_4, sn_5, sn_6, sn_7, sn_8, sn_9, sn_10, sn_11, sn_12, sn_13, sn_14, sn_15, sn_16, sn_17, sn_18, sn_19]
  split
  · exact key 0
  · rename_i hns
    have hp : 0 < ns.ns.length := List.length_pos_iff.mpr hns
    obtain ⟨v, hv, _⟩ := atI_some (xs := ns.ns) (i := ((n : Int) + 1) % (ns.ns.length : Int)) (Int.emod_nonneg _ (by omega)) (Int.emod_lt_of_pos _ (by omega))
    simp only [q_law_draw1, post_cons]
    simp [ex, xB_eq, ev, evs, evb, evt, evo, evi, evf, tst, K.val, Bz.isi, isOwn, post_bind, post_ok, post_lift, post_ite, post_noexc, post_nil, bind_ok, fk_nx, fk_rt, fr_nx, fr_rt, lift_some, sto, stoT, wipeS, z_add, z_adds, z_addt, z_addl, z_sub, z_mul, z_mult, z_mull, z_fdiv, z_mod, z_eq, z_ne, z_eqi, z_eqb, z_eqs, z_eqn, z_lt, z_le, z_gt, z_ge, z_is0, z_is1, z_is2, z_is3, z_is4, z_is5, z_in0, z_in1, z_in2, z_in3, z_in4, z_in5, z_inl, z_int, z_nil, z_nit, z_t0, z_t1, z_t2, z_t3, z_t4, z_t5, z_tr, z_isb, z_isb1, z_isb2, z_isb3, z_isb4, z_isb5, z_addb, z_subb, z_nsb, z_rvt, z_rvl, z_stp, z_srl, z_srt, z_sti, z_stb, z_shl, z_ixt, z_ixl, z_ixr, z_slt, z_sll, z_lent, z_lenl, z_lenr, z_suml, z_sumt, z_maxl, z_maxt, z_minl, z_bi, z_bb, z_tul, z_tut, z_tur, z_lil, z_lit, z_all, z_max2, z_min2, z_kt, z_kl, z_cot, z_col, z_da, z_ds0, z_ds1, z_sql, z_sqt, z_isLr, z_fn, z_fb, z_fi, z_fs, sn_0, sn_1, sn_2, sn_3, sn_4, sn_5, sn_6, sn_7, sn_8, sn_9, sn_10, sn_11, sn_12, sn_13, sn_14, sn_15, sn_16, sn_17, sn_18, sn_19, hp, hv]
    exact key v
theorem pick_ok {k : Nat} {ns : Sc} {n : Nat} {xs : List PyData} (hm : xs ≠ []) (hn : n < 1000000) : Post (rn Gm (k + 2) 9 [.ref 0, .ref 1, .d (.list xs)] (Tw ns n)) fun v s => ∃ x, v = .d x ∧ x ∈ xs ∧ s = Tw ns (n + 1) := by
  rw [run_at (d := ⟨3, 3, b_law_pick⟩) rfl]
  have hp : 0 < xs.length := List.length_pos_iff.mpr hm
  rw [post_runB]
  refine ⟨rfl, ?_⟩
  simp only [b_law_pick, post_cons]
  simp [ex, xB_eq, ev, evs, evb, evt, evo, evi, evf, tst, K.val, Bz.isi, isOwn, post_bind, post_ok, post_lift, post_ite, post_noexc, post_nil, bind_ok, fk_nx, fk_rt, fr_nx, fr_rt, lift_some, sto, stoT, wipeS, z_add, z_adds, z_addt, z_addl, z_sub, z_mul, z_mult, z_mull, z_fdiv, z_mod, z_eq, z_ne, z_eqi, z_eqb, z_eqs, z_eqn, z_lt, z_le, z_gt, z_ge, z_is0, z_is1, z_is2, z_is3, z_is4, z_is5, z_in0, z_in1, z_in2, z_in3, z_in4, z_in5, z_inl, z_int, z_nil, z_nit, z_t0, z_t1, z_t2, z_t3, z_t4, z_t5, z_tr, z_isb, z_isb1, z_isb2, z_isb3, z_isb4, z_isb5, z_addb, z_subb, z_nsb, z_rvt, z_rvl, z_stp, z_srl, z_srt, z_sti, z_stb, z_shl, z_ixt, z_ixl, z_ixr, z_slt, z_sll, z_lent, z_lenl, z_lenr, z_suml, z_sumt, z_maxl, z_maxt, z_minl, z_bi, z_bb, z_tul, z_tut, z_tur, z_lil, z_lit, z_all, z_max2, z_min2, z_kt, z_kl, z_cot, z_col, z_da, z_ds0, z_ds1, z_sql, z_sqt, z_isLr, z_fn, z_fb, z_fi, z_fs, sn_0, sn_1, sn_2, sn_3, sn_4, sn_5, sn_6, sn_7, sn_8, sn_9, sn_10, sn_11, sn_12, sn_13, sn_14, sn_15, sn_16, sn_17, sn_18, sn_19]
  refine (draw_ok (by omega) hn).imp ?_
  rintro _ _ ⟨i, rfl, h0, h1, rfl⟩
  obtain ⟨v, hv, hm⟩ := atI_some h0 h1
  simp [ex, xB_eq, ev, evs, evb, evt, evo, evi, evf, tst, K.val, Bz.isi, isOwn, post_bind, post_ok, post_lift, post_ite, post_noexc, post_nil, bind_ok, fk_nx, fk_rt, fr_nx, fr_rt, lift_some, sto, stoT, wipeS, z_add, z_adds, z_addt, z_addl, z_sub, z_mul, z_mult, z_mull, z_fdiv, z_mod, z_eq, z_ne, z_eqi, z_eqb, z_eqs, z_eqn, z_lt, z_le, z_gt, z_ge, z_is0, z_is1, z_is2, z_is3, z_is4, z_is5, z_in0, z_in1, z_in2, z_in3, z_in4, z_in5, z_inl, z_int, z_nil, z_nit, z_t0, z_t1, z_t2, z_t3, z_t4, z_t5, z_tr, z_isb, z_isb1, z_isb2, z_isb3, z_isb4, z_isb5, z_addb, z_subb, z_nsb, z_rvt, z_rvl, z_stp, z_srl, z_srt, z_sti, z_stb, z_shl, z_ixt, z_ixl, z_ixr, z_slt, z_sll, z_lent, z_lenl, z_lenr, z_suml, z_sumt, z_maxl, z_maxt, z_minl, z_bi, z_bb, z_tul, z_tut, z_tur, z_lil, z_lit, z_all, z_max2, z_min2, z_kt, z_kl, z_cot, z_col, z_da, z_ds0, z_ds1, z_sql, z_sqt, z_isLr, z_fn, z_fb, z_fi, z_fs, sn_0, sn_1, sn_2, sn_3, sn_4, sn_5, sn_6, sn_7, sn_8, sn_9, sn_10, sn_11, sn_12, sn_13, sn_14, sn_15, sn_16, sn_17, sn_18, sn_19, hv, hm]
def okD : Nat → PyData → Bool
  | _, .none => true
  | _, .bool _ => true
  | _, .int _ => true
  | _, .str _ => true
  | 0, .tuple xs => xs.isEmpty
  | k + 1, .tuple xs => decide (xs.length ≤ szl) && xs.all (okD k)
  | _, _ => false
theorem zip_self {p : PyData} : ∀ {xs : List PyData}, p ∈ zipD xs xs → ∃ x ∈ xs, p = .tuple [x, x]
  | [], h => by cases h
  | x :: xs, h => by
    rcases List.mem_cons.mp h with h | h
    · exact ⟨x, List.mem_cons_self .., h⟩
    · obtain ⟨y, h1, h2⟩ := zip_self h
      exact ⟨y, List.mem_cons_of_mem _ h1, h2⟩
theorem zip_len : ∀ {xs : List PyData}, (zipD xs xs).length = xs.length
  | [] => rfl
  | x :: xs => by simp [zipD, zip_len]
theorem bools_true : ∀ {xs : List PyData}, (∀ x ∈ xs, x = .bool true) → ∃ bs, boolsOf xs = some bs ∧ bs.all id = true
  | [], _ => ⟨[], rfl, rfl⟩
  | x :: xs, h => by
    obtain ⟨bs, h1, h2⟩ := bools_true fun y hy => h y (List.mem_cons_of_mem _ hy)
    have := h x (List.mem_cons_self ..)
    subst this
    exact ⟨true :: bs, by simp [boolsOf, h1], by simpa using h2⟩
theorem same_ok : ∀ {k : Nat} {d : PyData} {st : Stt}, okD k d = true → rn Gm (k + 1) 7 [.d d, .d d] st = .ok (.d (.bool true)) st
  | k, d, st, h => by
    refine Post.eq ?_
    rw [run_at (d := ⟨5, 2, b_law_same⟩) rfl]
    rw [post_runB]
    refine ⟨rfl, ?_⟩
    cases d with
    | none =>
      simp only [b_law_same, post_cons]
      simp [ex, xB_eq, ev, evs, evb, evt, evo, evi, evf, tst, K.val, Bz.isi, isOwn, post_bind, post_ok, post_lift, post_ite, post_noexc, post_nil, bind_ok, fk_nx, fk_rt, fr_nx, fr_rt, lift_some, sto, stoT, wipeS, z_add, z_adds, z_addt, z_addl, z_sub, z_mul, z_mult, z_mull, z_fdiv, z_mod, z_eq, z_ne, z_eqi, z_eqb, z_eqs, z_eqn, z_lt, z_le, z_gt, z_ge, z_is0, z_is1, z_is2, z_is3, z_is4, z_is5, z_in0, z_in1, z_in2, z_in3, z_in4, z_in5, z_inl, z_int, z_nil, z_nit, z_t0, z_t1, z_t2, z_t3, z_t4, z_t5, z_tr, z_isb, z_isb1, z_isb2, z_isb3, z_isb4, z_isb5, z_addb, z_subb, z_nsb, z_rvt, z_rvl, z_stp, z_srl, z_srt, z_sti, z_stb, z_shl, z_ixt, z_ixl, z_ixr, z_slt, z_sll, z_lent, z_lenl, z_lenr, z_suml, z_sumt, z_maxl, z_maxt, z_minl, z_bi, z_bb, z_tul, z_tut, z_tur, z_lil, z_lit, z_all, z_max2, z_min2, z_kt, z_kl, z_cot, z_col, z_da, z_ds0, z_ds1, z_sql, z_sqt, z_isLr, z_fn, z_fb, z_fi, z_fs, sn_0, sn_1, sn_2, sn_3, sn_4, sn_5, sn_6, sn_7, sn_8, sn_9, sn_10, sn_11, sn_12, sn_13, sn_14, sn_15, sn_16, sn_17, sn_18, sn_19]
      simp only [q_law_same1, post_cons]
      simp [ex, xB_eq, ev, evs, evb, evt, evo, evi, evf, tst, K.val, Bz.isi, isOwn, post_bind, post_ok, post_lift, post_ite, post_noexc, post_nil, bind_ok, fk_nx, fk_rt, fr_nx, fr_rt, lift_some, sto, stoT, wipeS, z_add, z_adds, z_addt, z_addl, z_sub, z_mul, z_mult, z_mull, z_fdiv, z_mod, z_eq, z_ne, z_eqi, z_eqb, z_eqs, z_eqn, z_lt, z_le, z_gt, z_ge, z_is0, z_is1, z_is2, z_is3, z_is4, z_is5, z_in0, z_in1, z_in2, z_in3, z_in4, z_in5, z_inl, z_int, z_nil, z_nit, z_t0, z_t1, z_t2, z_t3, z_t4, z_t5, z_tr, z_isb, z_isb1, z_isb2, z_isb3, z_isb4, z_isb5, z_addb, z_subb, z_nsb, z_rvt, z_rvl, z_stp, z_srl, z_srt, z_sti, z_stb, z_shl, z_ixt, z_ixl, z_ixr, z_slt, z_sll, z_lent, z_lenl, z_lenr, z_suml, z_sumt, z_maxl, z_maxt, z_minl, z_bi, z_bb, z_tul, z_tut, z_tur, z_lil, z_lit, z_all, z_max2, z_min2, z_kt, z_kl, z_cot, z_col, z_da, z_ds0, z_ds1, z_sql, z_sqt, z_isLr, z_fn, z_fb, z_fi, z_fs, sn_0, sn_1, sn_2, sn_3, sn_4, sn_5, sn_6, sn_7, sn_8, sn_9, sn_10, sn_11, sn_12, sn_13, sn_14, sn_15, sn_16, sn_17, sn_18, sn_19]
    | bool b =>
      simp only [b_law_same, post_cons]
      simp [ex, xB_eq, ev, evs, evb, evt, evo, evi, evf, tst, K.val, Bz.isi, isOwn, post_bind, post_ok, post_lift, post_ite, post_noexc, post_nil, bind_ok, fk_nx, fk_rt, fr_nx, fr_rt, lift_some, sto, stoT, wipeS, z_add, z_adds, z_addt, z_addl, z_sub, z_mul, z_mult, z_mull, z_fdiv, z_mod, z_eq, z_ne, z_eqi, z_eqb, z_eqs, z_eqn, z_lt, z_le, z_gt, z_ge, z_is0, z_is1, z_is2, z_is3, z_is4, z_is5, z_in0, z_in1, z_in2, z_in3, z_in4, z_in5, z_inl, z_int, z_nil, z_nit, z_t0, z_t1, z_t2, z_t3, z_t4, z_t5, z_tr, z_isb, z_isb1, z_isb2, z_isb3, z_isb4, z_isb5, z_addb, z_subb, z_nsb, z_rvt, z_rvl, z_stp, z_srl, z_srt, z_sti, z_stb, z_shl, z_ixt, z_ixl, z_ixr, z_slt, z_sll, z_lent, z_lenl, z_lenr, z_suml, z_sumt, z_maxl, z_maxt, z_minl, z_bi, z_bb, z_tul, z_tut, z_tur, z_lil, z_lit, z_all, z_max2, z_min2, z_kt, z_kl, z_cot, z_col, z_da, z_ds0, z_ds1, z_sql, z_sqt, z_isLr, z_fn, z_fb, z_fi, z_fs, sn_0, sn_1, sn_2, sn_3, sn_4, sn_5, sn_6, sn_7, sn_8, sn_9, sn_10, sn_11, sn_12, sn_13, sn_14, sn_15, sn_16, sn_17, sn_18, sn_19]
      simp only [q_law_same10, post_cons]
      simp [ex, xB_eq, ev, evs, evb, evt, evo, evi, evf, tst, K.val, Bz.isi, isOwn, post_bind, post_ok, post_lift, post_ite, post_noexc, post_nil, bind_ok, fk_nx, fk_rt, fr_nx, fr_rt, lift_some, sto, stoT, wipeS, z_add, z_adds, z_addt, z_addl, z_sub, z_mul, z_mult, z_mull, z_fdiv, z_mod, z_eq, z_ne, z_eqi, z_eqb, z_eqs, z_eqn, z_lt, z_le, z_gt, z_ge, z_is0, z_is1, z_is2, z_is3, z_is4, z_is5, z_in0, z_in1, z_in2, z_in3, z_in4, z_in5, z_inl, z_int, z_nil, z_nit, z_t0, z_t1, z_t2, z_t3, z_t4, z_t5, z_tr, z_isb, z_isb1, z_isb2, z_isb3, z_isb4, z_isb5, z_addb, z_subb, z_nsb, z_rvt, z_rvl, z_stp, z_srl, z_srt, z_sti, z_stb, z_shl, z_ixt, z_ixl, z_ixr, z_slt, z_sll, z_lent, z_lenl, z_lenr, z_suml, z_sumt, z_maxl, z_maxt, z_minl, z_bi, z_bb, z_tul, z_tut, z_tur, z_lil, z_lit, z_all, z_max2, z_min2, z_kt, z_kl, z_cot, z_col, z_da, z_ds0, z_ds1, z_sql, z_sqt, z_isLr, z_fn, z_fb, z_fi, z_fs, sn_0, sn_1, sn_2, sn_3, sn_4, sn_5, sn_6, sn_7, sn_8, sn_9, sn_10, sn_11, sn_12, sn_13, sn_14, sn_15, sn_16, sn_17, sn_18, sn_19]
      simp only [q_law_same2, post_cons]
      simp [ex, xB_eq, ev, evs, evb, evt, evo, evi, evf, tst, K.val, Bz.isi, isOwn, post_bind, post_ok, post_lift, post_ite, post_noexc, post_nil, bind_ok, fk_nx, fk_rt, fr_nx, fr_rt, lift_some, sto, stoT, wipeS, z_add, z_adds, z_addt, z_addl, z_sub, z_mul, z_mult, z_mull, z_fdiv, z_mod, z_eq, z_ne, z_eqi, z_eqb, z_eqs, z_eqn, z_lt, z_le, z_gt, z_ge, z_is0, z_is1, z_is2, z_is3, z_is4, z_is5, z_in0, z_in1, z_in2, z_in3, z_in4, z_in5, z_inl, z_int, z_nil, z_nit, z_t0, z_t1, z_t2, z_t3, z_t4, z_t5, z_tr, z_isb, z_isb1, z_isb2, z_isb3, z_isb4, z_isb5, z_addb, z_subb, z_nsb, z_rvt, z_rvl, z_stp, z_srl, z_srt, z_sti, z_stb, z_shl, z_ixt, z_ixl, z_ixr, z_slt, z_sll, z_lent, z_lenl, z_lenr, z_suml, z_sumt, z_maxl, z_maxt, z_minl, z_bi, z_bb, z_tul, z_tut, z_tur, z_lil, z_lit, z_all, z_max2, z_min2, z_kt, z_kl, z_cot, z_col, z_da, z_ds0, z_ds1, z_sql, z_sqt, z_isLr, z_fn, z_fb, z_fi, z_fs, sn_0, sn_1, sn_2, sn_3, sn_4, sn_5, sn_6, sn_7, sn_8, sn_9, sn_10, sn_11, sn_12, sn_13, sn_14, sn_15, sn_16, sn_17, sn_18, sn_19, eqD, PyData.depth, PyData.eqv]
    | int i =>
      simp only [b_law_same, post_cons]
      simp [ex, xB_eq, ev, evs, evb, evt, evo, evi, evf, tst, K.val, Bz.isi, isOwn, post_bind, post_ok, post_lift, post_ite, post_noexc, post_nil, bind_ok, fk_nx, fk_rt, fr_nx, fr_rt, lift_some, sto, stoT, wipeS, z_add, z_adds, z_addt, z_addl, z_sub, z_mul, z_mult, z_mull, z_fdiv, z_mod, z_eq, z_ne, z_eqi, z_eqb, z_eqs, z_eqn, z_lt, z_le, z_gt, z_ge, z_is0, z_is1, z_is2, z_is3, z_is4, z_is5, z_in0, z_in1, z_in2, z_in3, z_in4, z_in5, z_inl, z_int, z_nil, z_nit, z_t0, z_t1, z_t2, z_t3, z_t4, z_t5, z_tr, z_isb, z_isb1, z_isb2, z_isb3, z_isb4, z_isb5, z_addb, z_subb, z_nsb, z_rvt, z_rvl, z_stp, z_srl, z_srt, z_sti, z_stb, z_shl, z_ixt, z_ixl, z_ixr, z_slt, z_sll, z_lent, z_lenl, z_lenr, z_suml, z_sumt, z_maxl, z_maxt, z_minl, z_bi, z_bb, z_tul, z_tut, z_tur, z_lil, z_lit, z_all, z_max2, z_min2, z_kt, z_kl, z_cot, z_col, z_da, z_ds0, z_ds1, z_sql, z_sqt, z_isLr, z_fn, z_fb, z_fi, z_fs, sn_0, sn_1, sn_2, sn_3, sn_4, sn_5, sn_6, sn_7, sn_8, sn_9, sn_10, sn_11, sn_12, sn_13, sn_14, sn_15, sn_16, sn_17, sn_18, sn_19]
      simp only [q_law_same10, post_cons]
      simp [ex, xB_eq, ev, evs, evb, evt, evo, evi, evf, tst, K.val, Bz.isi, isOwn, post_bind, post_ok, post_lift, post_ite, post_noexc, post_nil, bind_ok, fk_nx, fk_rt, fr_nx, fr_rt, lift_some, sto, stoT, wipeS, z_add, z_adds, z_addt, z_addl, z_sub, z_mul, z_mult, z_mull, z_fdiv, z_mod, z_eq, z_ne, z_eqi, z_eqb, z_eqs, z_eqn, z_lt, z_le, z_gt, z_ge, z_is0, z_is1, z_is2, z_is3, z_is4, z_is5, z_in0, z_in1, z_in2, z_in3, z_in4, z_in5, z_inl, z_int, z_nil, z_nit, z_t0, z_t1, z_t2, z_t3, z_t4, z_t5, z_tr, z_isb, z_isb1, z_isb2, z_isb3, z_isb4, z_isb5, z_addb, z_subb, z_nsb, z_rvt, z_rvl, z_stp, z_srl, z_srt, z_sti, z_stb, z_shl, z_ixt, z_ixl, z_ixr, z_slt, z_sll, z_lent, z_lenl, z_lenr, z_suml, z_sumt, z_maxl, z_maxt, z_minl, z_bi, z_bb, z_tul, z_tut, z_tur, z_lil, z_lit, z_all, z_max2, z_min2, z_kt, z_kl, z_cot, z_col, z_da, z_ds0, z_ds1, z_sql, z_sqt, z_isLr, z_fn, z_fb, z_fi, z_fs, sn_0, sn_1, sn_2, sn_3, sn_4, sn_5, sn_6, sn_7, sn_8, sn_9, sn_10, sn_11, sn_12, sn_13, sn_14, sn_15, sn_16, sn_17, sn_18, sn_19]
      simp only [q_law_same9, post_cons]
      simp [ex, xB_eq, ev, evs, evb, evt, evo, evi, evf, tst, K.val, Bz.isi, isOwn, post_bind, post_ok, post_lift, post_ite, post_noexc, post_nil, bind_ok, fk_nx, fk_rt, fr_nx, fr_rt, lift_some, sto, stoT, wipeS, z_add, z_adds, z_addt, z_addl, z_sub, z_mul, z_mult, z_mull, z_fdiv, z_mod, z_eq, z_ne, z_eqi, z_eqb, z_eqs, z_eqn, z_lt, z_le, z_gt, z_ge, z_is0, z_is1, z_is2, z_is3, z_is4, z_is5, z_in0, z_in1, z_in2, z_in3, z_in4, z_in5, z_inl, z_int, z_nil, z_nit, z_t0, z_t1, z_t2, z_t3, z_t4, z_t5, z_tr, z_isb, z_isb1, z_isb2, z_isb3, z_isb4, z_isb5, z_addb, z_subb, z_nsb, z_rvt, z_rvl, z_stp, z_srl, z_srt, z_sti, z_stb, z_shl, z_ixt, z_ixl, z_ixr, z_slt, z_sll, z_lent, z_lenl, z_lenr, z_suml, z_sumt, z_maxl, z_maxt, z_minl, z_bi, z_bb, z_tul, z_tut, z_tur, z_lil, z_lit, z_all, z_max2, z_min2, z_kt, z_kl, z_cot, z_col, z_da, z_ds0, z_ds1, z_sql, z_sqt, z_isLr, z_fn, z_fb, z_fi, z_fs, sn_0, sn_1, sn_2, sn_3, sn_4, sn_5, sn_6, sn_7, sn_8, sn_9, sn_10, sn_11, sn_12, sn_13, sn_14, sn_15, sn_16, sn_17, sn_18, sn_19]
      simp only [q_law_same8, post_cons]
      simp [ex, xB_eq, ev, evs, evb, evt, evo, evi, evf, tst, K.val, Bz.isi, isOwn, post_bind, post_ok, post_lift, post_ite, post_noexc, post_nil, bind_ok, fk_nx, fk_rt, fr_nx, fr_rt, lift_some, sto, stoT, wipeS, z_add, z_adds, z_addt, z_addl, z_sub, z_mul, z_mult, z_mull, z_fdiv, z_mod, z_eq, z_ne, z_eqi, z_eqb, z_eqs, z_eqn, z_lt, z_le, z_gt, z_ge, z_is0, z_is1, z_is2, z_is3, z_is4, z_is5, z_in0, z_in1, z_in2, z_in3, z_in4, z_in5, z_inl, z_int, z_nil, z_nit, z_t0, z_t1, z_t2, z_t3, z_t4, z_t5, z_tr, z_isb, z_isb1, z_isb2, z_isb3, z_isb4, z_isb5, z_addb, z_subb, z_nsb, z_rvt, z_rvl, z_stp, z_srl, z_srt, z_sti, z_stb, z_shl, z_ixt, z_ixl, z_ixr, z_slt, z_sll, z_lent, z_lenl, z_lenr, z_suml, z_sumt, z_maxl, z_maxt, z_minl, z_bi, z_bb, z_tul, z_tut, z_tur, z_lil, z_lit, z_all, z_max2, z_min2, z_kt, z_kl, z_cot, z_col, z_da, z_ds0, z_ds1, z_sql, z_sqt, z_isLr, z_fn, z_fb, z_fi, z_fs, sn_0, sn_1, sn_2, sn_3, sn_4, sn_5, sn_6, sn_7, sn_8, sn_9, sn_10, sn_11, sn_12, sn_13, sn_14, sn_15, sn_16, sn_17, sn_18, sn_19]
      simp only [q_law_same7, post_cons]
      simp [ex, xB_eq, ev, evs, evb, evt, evo, evi, evf, tst, K.val, Bz.isi, isOwn, post_bind, post_ok, post_lift, post_ite, post_noexc, post_nil, bind_ok, fk_nx, fk_rt, fr_nx, fr_rt, lift_some, sto, stoT, wipeS, z_add, z_adds, z_addt, z_addl, z_sub, z_mul, z_mult, z_mull, z_fdiv, z_mod, z_eq, z_ne, z_eqi, z_eqb, z_eqs, z_eqn, z_lt, z_le, z_gt, z_ge, z_is0, z_is1, z_is2, z_is3, z_is4, z_is5, z_in0, z_in1, z_in2, z_in3, z_in4, z_in5, z_inl, z_int, z_nil, z_nit, z_t0, z_t1, z_t2, z_t3, z_t4, z_t5, z_tr, z_isb, z_isb1, z_isb2, z_isb3, z_isb4, z_isb5, z_addb, z_subb, z_nsb, z_rvt, z_rvl, z_stp, z_srl, z_srt, z_sti, z_stb, z_shl, z_ixt, z_ixl, z_ixr, z_slt, z_sll, z_lent, z_lenl, z_lenr, z_suml, z_sumt, z_maxl, z_maxt, z_minl, z_bi, z_bb, z_tul, z_tut, z_tur, z_lil, z_lit, z_all, z_max2, z_min2, z_kt, z_kl, z_cot, z_col, z_da, z_ds0, z_ds1, z_sql, z_sqt, z_isLr, z_fn, z_fb, z_fi, z_fs, sn_0, sn_1, sn_2, sn_3, sn_4, sn_5, sn_6, sn_7, sn_8, sn_9, sn_10, sn_11, sn_12, sn_13, sn_14, sn_15, sn_16, sn_17, sn_18, sn_19, eqD, PyData.depth, PyData.eqv]
    | str i =>
      simp only [b_law_same, post_cons]
      simp [ex, xB_eq, ev, evs, evb, evt, evo, evi, evf, tst, K.val, Bz.isi, isOwn, post_bind, post_ok, post_lift, post_ite, post_noexc, post_nil, bind_ok, fk_nx, fk_rt, fr_nx, fr_rt, lift_some, sto, stoT, wipeS, z_add, z_adds, z_addt, z_addl, z_sub, z_mul, z_mult, z_mull, z_fdiv, z_mod, z_eq, z_ne, z_eqi, z_eqb, z_eqs, z_eqn, z_lt, z_le, z_gt, z_ge, z_is0, z_is1, z_is2, z_is3, z_is4, z_is5, z_in0, z_in1, z_in2, z_in3, z_in4, z_in5, z_inl, z_int, z_nil, z_nit, z_t0, z_t1, z_t2, z_t3, z_t4, z_t5, z_tr, z_isb, z_isb1, z_isb2, z_isb3, z_isb4, z_isb5, z_addb, z_subb, z_nsb, z_rvt, z_rvl, z_stp, z_srl, z_srt, z_sti, z_stb, z_shl, z_ixt, z_ixl, z_ixr, z_slt, z_sll, z_lent, z_lenl, z_lenr, z_suml, z_sumt, z_maxl, z_maxt, z_minl, z_bi, z_bb, z_tul, z_tut, z_tur, z_lil, z_lit, z_all, z_max2, z_min2, z_kt, z_kl, z_cot, z_col, z_da, z_ds0, z_ds1, z_sql, z_sqt, z_isLr, z_fn, z_fb, z_fi, z_fs, sn_0, sn_1, sn_2, sn_3, sn_4, sn_5, sn_6, sn_7, sn_8, sn_9, sn_10, sn_11, sn_12, sn_13, sn_14, sn_15, sn_16, sn_17, sn_18, sn_19]
      simp only [q_law_same10, post_cons]
      simp [ex, xB_eq, ev, evs, evb, evt, evo, evi, evf, tst, K.val, Bz.isi, isOwn, post_bind, post_ok, post_lift, post_ite, post_noexc, post_nil, bind_ok, fk_nx, fk_rt, fr_nx, fr_rt, lift_some, sto, stoT, wipeS, z_add, z_adds, z_addt, z_addl, z_sub, z_mul, z_mult, z_mull, z_fdiv, z_mod, z_eq, z_ne, z_eqi, z_eqb, z_eqs, z_eqn, z_lt, z_le, z_gt, z_ge, z_is0, z_is1, z_is2, z_is3, z_is4, z_is5, z_in0, z_in1, z_in2, z_in3, z_in4, z_in5, z_inl, z_int, z_nil, z_nit, z_t0, z_t1, z_t2, z_t3, z_t4, z_t5, z_tr, z_isb, z_isb1, z_isb2, z_isb3, z_isb4, z_isb5, z_addb, z_subb, z_nsb, z_rvt, z_rvl, z_stp, z_srl, z_srt, z_sti, z_stb, z_shl, z_ixt, z_ixl, z_ixr, z_slt, z_sll, z_lent, z_lenl, z_lenr, z_suml, z_sumt, z_maxl, z_maxt, z_minl, z_bi, z_bb, z_tul, z_tut, z_tur, z_lil, z_lit, z_all, z_max2, z_min2, z_kt, z_kl, z_cot, z_col, z_da, z_ds0, z_ds1, z_sql, z_sqt, z_isLr, z_fn, z_fb, z_fi, z_fs, sn_0, sn_1, sn_2, sn_3, sn_4, sn_5, sn_6, sn_7, sn_8, sn_9, sn_10, sn_11, sn_12, sn_13, sn_14, sn_15, sn_16, sn_17, sn_18, sn_19]
      simp only [q_law_same9, post_cons]
      simp [ex, xB_eq, ev, evs, evb, evt, evo, evi, evf, tst, K.val, Bz.isi, isOwn, post_bind, post_ok, post_lift, post_ite, post_noexc, post_nil, bind_ok, fk_nx, fk_rt, fr_nx, fr_rt, lift_some, sto, stoT, wipeS, z_add, z_adds, z_addt, z_addl, z_sub, z_mul, z_mult, z_mull, z_fdiv, z_mod, z_eq, z_ne, z_eqi, z_eqb, z_eqs, z_eqn, z_lt, z_le, z_gt, z_ge, z_is0, z_is1, z_is2, z_is3, z_is4, z_is5, z_in0, z_in1, z_in2, z_in3, z_in4, z_in5, z_inl, z_int, z_nil, z_nit, z_t0, z_t1, z_t2, z_t3, z_t4, z_t5, z_tr, z_isb, z_isb1, z_isb2, z_isb3, z_isb4, z_isb5, z_addb, z_subb, z_nsb, z_rvt, z_rvl, z_stp, z_srl, z_srt, z_sti, z_stb, z_shl, z_ixt, z_ixl, z_ixr, z_slt, z_sll, z_lent, z_lenl, z_lenr, z_suml, z_sumt, z_maxl, z_maxt, z_minl, z_bi, z_bb, z_tul, z_tut, z_tur, z_lil, z_lit, z_all, z_max2, z_min2, z_kt, z_kl, z_cot, z_col, z_da, z_ds0, z_ds1, z_sql, z_sqt, z_isLr, z_fn, z_fb, z_fi, z_fs, sn_0, sn_1, sn_2, sn_3, sn_4, sn_5, sn_6, sn_7, sn_8, sn_9, sn_10, sn_11, sn_12, sn_13, sn_14, sn_15, sn_16, sn_17, sn_18, sn_19]
      simp only [q_law_same8, post_cons]
      simp [ex, xB_eq, ev, evs, evb, evt, evo, evi, evf, tst, K.val, Bz.isi, isOwn, post_bind, post_ok, post_lift, post_ite, post_noexc, post_nil, bind_ok, fk_nx, fk_rt, fr_nx, fr_rt, lift_some, sto, stoT, wipeS, z_add, z_adds, z_addt, z_addl, z_sub, z_mul, z_mult, z_mull, z_fdiv, z_mod, z_eq, z_ne, z_eqi, z_eqb, z_eqs, z_eqn, z_lt, z_le, z_gt, z_ge, z_is0, z_is1, z_is2, z_is3, z_is4, z_is5, z_in0, z_in1, z_in2, z_in3, z_in4, z_in5, z_inl, z_int, z_nil, z_nit, z_t0, z_t1, z_t2, z_t3, z_t4, z_t5, z_tr, z_isb, z_isb1, z_isb2, z_isb3, z_isb4, z_isb5, z_addb, z_subb, z_nsb, z_rvt, z_rvl, z_stp, z_srl, z_srt, z_sti, z_stb, z_shl, z_ixt, z_ixl, z_ixr, z_slt, z_sll, z_lent, z_lenl, z_lenr, z_suml, z_sumt, z_maxl, z_maxt, z_minl, z_bi, z_bb, z_tul, z_tut, z_tur, z_lil, z_lit, z_all, z_max2, z_min2, z_kt, z_kl, z_cot, z_col, z_da, z_ds0, z_ds1, z_sql, z_sqt, z_isLr, z_fn, z_fb, z_fi, z_fs, sn_0, sn_1, sn_2, sn_3, sn_4, sn_5, sn_6, sn_7, sn_8, sn_9, sn_10, sn_11, sn_12, sn_13, sn_14, sn_15, sn_16, sn_17, sn_18, sn_19]
      simp only [q_law_same6, post_cons]
      simp [ex, xB_eq, ev, evs, evb, evt, evo, evi, evf, tst, K.val, Bz.isi, isOwn, post_bind, post_ok, post_lift, post_ite, post_noexc, post_nil, bind_ok, fk_nx, fk_rt, fr_nx, fr_rt, lift_some, sto, stoT, wipeS, z_add, z_adds, z_addt, z_addl, z_sub, z_mul, z_mult, z_mull, z_fdiv, z_mod, z_eq, z_ne, z_eqi, z_eqb, z_eqs, z_eqn, z_lt, z_le, z_gt, z_ge, z_is0, z_is1, z_is2, z_is3, z_is4, z_is5, z_in0, z_in1, z_in2, z_in3, z_in4, z_in5, z_inl, z_int, z_nil, z_nit, z_t0, z_t1, z_t2, z_t3, z_t4, z_t5, z_tr, z_isb, z_isb1, z_isb2, z_isb3, z_isb4, z_isb5, z_addb, z_subb, z_nsb, z_rvt, z_rvl, z_stp, z_srl, z_srt, z_sti, z_stb, z_shl, z_ixt, z_ixl, z_ixr, z_slt, z_sll, z_lent, z_lenl, z_lenr, z_suml, z_sumt, z_maxl, z_maxt, z_minl, z_bi, z_bb, z_tul, z_tut, z_tur, z_lil, z_lit, z_all, z_max2, z_min2, z_kt, z_kl, z_cot, z_col, z_da, z_ds0, z_ds1, z_sql, z_sqt, z_isLr, z_fn, z_fb, z_fi, z_fs, sn_0, sn_1, sn_2, sn_3, sn_4, sn_5, sn_6, sn_7, sn_8, sn_9, sn_10, sn_11, sn_12, sn_13, sn_14, sn_15, sn_16, sn_17, sn_18, sn_19, eqD, PyData.depth, PyData.eqv]
    | tuple xs =>
      simp only [b_law_same, post_cons]
      simp [ex, xB_eq, ev, evs, evb, evt, evo, evi, evf, tst, K.val, Bz.isi, isOwn, post_bind, post_ok, post_lift, post_ite, post_noexc, post_nil, bind_ok, fk_nx, fk_rt, fr_nx, fr_rt, lift_some, sto, stoT, wipeS, z_add, z_adds, z_addt, z_addl, z_sub, z_mul, z_mult, z_mull, z_fdiv, z_mod, z_eq, z_ne, z_eqi, z_eqb, z_eqs, z_eqn, z_lt, z_le, z_gt, z_ge, z_is0, z_is1, z_is2, z_is3, z_is4, z_is5, z_in0, z_in1, z_in2, z_in3, z_in4, z_in5, z_inl, z_int, z_nil, z_nit, z_t0, z_t1, z_t2, z_t3, z_t4, z_t5, z_tr, z_isb, z_isb1, z_isb2, z_isb3, z_isb4, z_isb5, z_addb, z_subb, z_nsb, z_rvt, z_rvl, z_stp, z_srl, z_srt, z_sti, z_stb, z_shl, z_ixt, z_ixl, z_ixr, z_slt, z_sll, z_lent, z_lenl, z_lenr, z_suml, z_sumt, z_maxl, z_maxt, z_minl, z_bi, z_bb, z_tul, z_tut, z_tur, z_lil, z_lit, z_all, z_max2, z_min2, z_kt, z_kl, z_cot, z_col, z_da, z_ds0, z_ds1, z_sql, z_sqt, z_isLr, z_fn, z_fb, z_fi, z_fs, sn_0, sn_1, sn_2, sn_3, sn_4, sn_5, sn_6, sn_7, sn_8, sn_9, sn_10, sn_11, sn_12, sn_13, sn_14, sn_15, sn_16, sn_17, sn_18, sn_19]
      simp only [q_law_same10, post_cons]
      simp [ex, xB_eq, ev, evs, evb, evt, evo, evi, evf, tst, K.val, Bz.isi, isOwn, post_bind, post_ok, post_lift, post_ite, post_noexc, post_nil, bind_ok, fk_nx, fk_rt, fr_nx, fr_rt, lift_some, sto, stoT, wipeS, z_add, z_adds, z_addt, z_addl, z_sub, z_mul, z_mult, z_mull, z_fdiv, z_mod, z_eq, z_ne, z_eqi, z_eqb, z_eqs, z_eqn, z_lt, z_le, z_gt, z_ge, z_is0, z_is1, z_is2, z_is3, z_is4, z_is5, z_in0, z_in1, z_in2, z_in3, z_in4, z_in5, z_inl, z_int, z_nil, z_nit, z_t0, z_t1, z_t2, z_t3, z_t4, z_t5, z_tr, z_isb, z_isb1, z_isb2, z_isb3, z_isb4, z_isb5, z_addb, z_subb, z_nsb, z_rvt, z_rvl, z_stp, z_srl, z_srt, z_sti, z_stb, z_shl, z_ixt, z_ixl, z_ixr, z_slt, z_sll, z_lent, z_lenl, z_lenr, z_suml, z_sumt, z_maxl, z_maxt, z_minl, z_bi, z_bb, z_tul, z_tut, z_tur, z_lil, z_lit, z_all, z_max2, z_min2, z_kt, z_kl, z_cot, z_col, z_da, z_ds0, z_ds1, z_sql, z_sqt, z_isLr, z_fn, z_fb, z_fi, z_fs, sn_0, sn_1, sn_2, sn_3, sn_4, sn_5, sn_6, sn_7, sn_8, sn_9, sn_10, sn_11, sn_12, sn_13, sn_14, sn_15, sn_16, sn_17, sn_18, sn_19]
      simp only [q_law_same9, post_cons]
      simp [ex, xB_eq, ev, evs, evb, evt, evo, evi, evf, tst, K.val, Bz.isi, isOwn, post_bind, post_ok, post_lift, post_ite, post_noexc, post_nil, bind_ok, fk_nx, fk_rt, fr_nx, fr_rt, lift_some, sto, stoT, wipeS, z_add, z_adds, z_addt, z_addl, z_sub, z_mul, z_mult, z_mull, z_fdiv, z_mod, z_eq, z_ne, z_eqi, z_eqb, z_eqs, z_eqn, z_lt, z_le, z_gt, z_ge, z_is0, z_is1, z_is2, z_is3, z_is4, z_is5, z_in0, z_in1, z_in2, z_in3, z_in4, z_in5, z_inl, z_int, z_nil, z_nit, z_t0, z_t1, z_t2, z_t3, z_t4, z_t5, z_tr, z_isb, z_isb1, z_isb2, z_isb3, z_isb4, z_isb5, z_addb, z_subb, z_nsb, z_rvt, z_rvl, z_stp, z_srl, z_srt, z_sti, z_stb, z_shl, z_ixt, z_ixl, z_ixr, z_slt, z_sll, z_lent, z_lenl, z_lenr, z_suml, z_sumt, z_maxl, z_maxt, z_minl, z_bi, z_bb, z_tul, z_tut, z_tur, z_lil, z_lit, z_all, z_max2, z_min2, z_kt, z_kl, z_cot, z_col, z_da, z_ds0, z_ds1, z_sql, z_sqt, z_isLr, z_fn, z_fb, z_fi, z_fs, sn_0, sn_1, sn_2, sn_3, sn_4, sn_5, sn_6, sn_7, sn_8, sn_9, sn_10, sn_11, sn_12, sn_13, sn_14, sn_15, sn_16, sn_17, sn_18, sn_19]
      simp only [q_law_same5, post_cons]
      simp [ex, xB_eq, ev, evs, evb, evt, evo, evi, evf, tst, K.val, Bz.isi, isOwn, post_bind, post_ok, post_lift, post_ite, post_noexc, post_nil, bind_ok, fk_nx, fk_rt, fr_nx, fr_rt, lift_some, sto, stoT, wipeS, z_add, z_adds, z_addt, z_addl, z_sub, z_mul, z_mult, z_mull, z_fdiv, z_mod, z_eq, z_ne, z_eqi, z_eqb, z_eqs, z_eqn, z_lt, z_le, z_gt, z_ge, z_is0, z_is1, z_is2, z_is3, z_is4, z_is5, z_in0, z_in1, z_in2, z_in3, z_in4, z_in5, z_inl, z_int, z_nil, z_nit, z_t0, z_t1, z_t2, z_t3, z_t4, z_t5, z_tr, z_isb, z_isb1, z_isb2, z_isb3, z_isb4, z_isb5, z_addb, z_subb, z_nsb, z_rvt, z_rvl, z_stp, z_srl, z_srt, z_sti, z_stb, z_shl, z_ixt, z_ixl, z_ixr, z_slt, z_sll, z_lent, z_lenl, z_lenr, z_suml, z_sumt, z_maxl, z_maxt, z_minl, z_bi, z_bb, z_tul, z_tut, z_tur, z_lil, z_lit, z_all, z_max2, z_min2, z_kt, z_kl, z_cot, z_col, z_da, z_ds0, z_ds1, z_sql, z_sqt, z_isLr, z_fn, z_fb, z_fi, z_fs, sn_0, sn_1, sn_2, sn_3, sn_4, sn_5, sn_6, sn_7, sn_8, sn_9, sn_10, sn_11, sn_12, sn_13, sn_14, sn_15, sn_16, sn_17, sn_18, sn_19, eqD, PyData.depth, PyData.eqv]
      simp only [q_law_same4, post_cons]
      simp [ex, xB_eq, ev, evs, evb, evt, evo, evi, evf, tst, K.val, Bz.isi, isOwn, post_bind, post_ok, post_lift, post_ite, post_noexc, post_nil, bind_ok, fk_nx, fk_rt, fr_nx, fr_rt, lift_some, sto, stoT, wipeS, z_add, z_adds, z_addt, z_addl, z_sub, z_mul, z_mult, z_mull, z_fdiv, z_mod, z_eq, z_ne, z_eqi, z_eqb, z_eqs, z_eqn, z_lt, z_le, z_gt, z_ge, z_is0, z_is1, z_is2, z_is3, z_is4, z_is5, z_in0, z_in1, z_in2, z_in3, z_in4, z_in5, z_inl, z_int, z_nil, z_nit, z_t0, z_t1, z_t2, z_t3, z_t4, z_t5, z_tr, z_isb, z_isb1, z_isb2, z_isb3, z_isb4, z_isb5, z_addb, z_subb, z_nsb, z_rvt, z_rvl, z_stp, z_srl, z_srt, z_sti, z_stb, z_shl, z_ixt, z_ixl, z_ixr, z_slt, z_sll, z_lent, z_lenl, z_lenr, z_suml, z_sumt, z_maxl, z_maxt, z_minl, z_bi, z_bb, z_tul, z_tut, z_tur, z_lil, z_lit, z_all, z_max2, z_min2, z_kt, z_kl, z_cot, z_col, z_da, z_ds0, z_ds1, z_sql, z_sqt, z_isLr, z_fn, z_fb, z_fi, z_fs, sn_0, sn_1, sn_2, sn_3, sn_4, sn_5, sn_6, sn_7, sn_8, sn_9, sn_10, sn_11, sn_12, sn_13, sn_14, sn_15, sn_16, sn_17, sn_18, sn_19]
      refine lc_post (fun i acc s => s = st ∧ acc = List.replicate i (.bool true)) _ _ 0 ⟨rfl, rfl⟩ ?_ ?_
      · rintro i x acc s hx ⟨rfl, rfl⟩
        obtain ⟨y, hy, rfl⟩ := zip_self (List.mem_of_getElem? hx)
        have hi : i < (zipD xs xs).length := (List.getElem?_eq_some_iff.mp hx).1
        rw [zip_len] at hi
        cases k with
        | zero =>
          simp only [okD, List.isEmpty_iff] at h
          subst h; cases hy
        | succ k =>
          simp only [okD, Bool.and_eq_true, decide_eq_true_eq, List.all_eq_true] at h
          have ih := same_ok (st := s) (h.2 y hy)
          refine ⟨_, rfl, ?_⟩
          simp [ex, xB_eq, ev, evs, evb, evt, evo, evi, evf, tst, K.val, Bz.isi, isOwn, post_bind, post_ok, post_lift, post_ite, post_noexc, post_nil, bind_ok, fk_nx, fk_rt, fr_nx, fr_rt, lift_some, sto, stoT, wipeS, z_add, z_adds, z_addt, z_addl, z_sub, z_mul, z_mult, z_mull, z_fdiv, z_mod, z_eq, z_ne, z_eqi, z_eqb, z_eqs, z_eqn, z_lt, z_le, z_gt, z_ge, z_is0, z_is1, z_is2, z_is3, z_is4, z_is5, z_in0, z_in1, z_in2, z_in3, z_in4, z_in5, z_inl, z_int, z_nil, z_nit, z_t0, z_t1, z_t2, z_t3, z_t4, z_t5, z_tr, z_isb, z_isb1, z_isb2, z_isb3, z_isb4, z_isb5, z_addb, z_subb, z_nsb, z_rvt, z_rvl, z_stp, z_srl, z_srt, z_sti, z_stb, z_shl, z_ixt, z_ixl, z_ixr, z_slt, z_sll, z_lent, z_lenl, z_lenr, z_suml, z_sumt, z_maxl, z_maxt, z_minl, z_bi, z_bb, z_tul, z_tut, z_tur, z_lil, z_lit, z_all, z_max2, z_min2, z_kt, z_kl, z_cot, z_col, z_da, z_ds0, z_ds1, z_sql, z_sqt, z_isLr, z_fn, z_fb, z_fi, z_fs, sn_0, sn_1, sn_2, sn_3, sn_4, sn_5, sn_6, sn_7, sn_8, sn_9, sn_10, sn_11, sn_12, sn_13, sn_14, sn_15, sn_16, sn_17, sn_18, sn_19, ih]
          exact ⟨by omega, List.replicate_succ'.symm⟩
      · rintro acc s ⟨rfl, rfl⟩
        obtain ⟨bs, h1, h2⟩ := bools_true (xs := List.replicate (0 + (zipD xs xs).length) (.bool true)) fun x hx => List.eq_of_mem_replicate hx
        rw [Nat.zero_add] at h1 ⊢
        simp only [post_ok, post_lift, fr_rt, z_all, h1, h2, Option.map_some]
        exact ⟨_, rfl, rfl, trivial⟩
    | list xs => cases k <;> cases h
    | dict xs => cases k <;> cases h
theorem lt_pair {l1 l2 : List Int} (h1 : l1.Pairwise (· < ·)) (h2 : l2.Pairwise (· < ·)) (h : ∀ x, x ∈ l1 ↔ x ∈ l2) : l1 = l2 := by
  induction l1 generalizing l2 with
  | nil =>
    cases l2 with
    | nil => rfl
    | cons y r => exact absurd ((h y).mpr (List.mem_cons_self ..)) (by simp)
  | cons x r ih =>
    cases l2 with
    | nil => exact absurd ((h x).mp (List.mem_cons_self ..)) (by simp)
    | cons y s =>
      rw [List.pairwise_cons] at h1 h2
      have hxy : x = y := by
        have a := (h x).mp (List.mem_cons_self ..)
        have b := (h y).mpr (List.mem_cons_self ..)
        rcases List.mem_cons.mp a with a | a
        · exact a
        · rcases List.mem_cons.mp b with b | b
          · exact b.symm
          · have := h1.1 y b; have := h2.1 x a; omega
      subst hxy
      rw [ih h1.2 h2.2 fun z => ⟨fun hz => ?_, fun hz => ?_⟩]
      · rcases List.mem_cons.mp ((h z).mp (List.mem_cons_of_mem _ hz)) with q | q
        · have := h1.1 z hz; omega
        · exact q
      · rcases List.mem_cons.mp ((h z).mpr (List.mem_cons_of_mem _ hz)) with q | q
        · have := h2.1 z hz; omega
        · exact q
theorem insU_mem {x z : Int} : ∀ {l : List Int}, z ∈ insU x l ↔ z = x ∨ z ∈ l
  | [] => by simp [insU]
  | y :: r => by
    unfold insU
    split
    · simp
    · split
      · rename_i h; subst h; simp
      · simp only [List.mem_cons, insU_mem (l := r)]
        constructor <;> (intro h; rcases h with h | h | h <;> simp [h])
theorem insU_sort {x : Int} : ∀ {l : List Int}, l.Pairwise (· < ·) → (insU x l).Pairwise (· < ·)
  | [], _ => by simp [insU]
  | y :: r, h => by
    have h' := List.pairwise_cons.mp h
    unfold insU
    split
    · rename_i hx
      refine List.pairwise_cons.mpr ⟨fun z hz => ?_, h⟩
      rcases List.mem_cons.mp hz with q | q
      · omega
      · have := h'.1 z q; omega
    · split
      · exact h
      · refine List.pairwise_cons.mpr ⟨fun z hz => ?_, insU_sort h'.2⟩
        rcases insU_mem.mp hz with q | q
        · omega
        · exact h'.1 z q
theorem sortU_in {z : Int} : ∀ {l : List Int}, z ∈ sortU l ↔ z ∈ l
  | [] => by simp [sortU]
  | y :: r => by
    show z ∈ insU y (sortU r) ↔ _
    rw [insU_mem, sortU_in (l := r), List.mem_cons]
theorem sortU_sort : ∀ {l : List Int}, (sortU l).Pairwise (· < ·)
  | [] => by simp [sortU]
  | y :: r => insU_sort (sortU_sort (l := r))
/-- the numbers from a up to b -/
def rgI (a b : Int) : List Int := (List.range (b - a).toNat).map fun (i : Nat) => a + (i : Int)
theorem rng2_rgI {a b : Int} : rng2 a b = (rgI a b).map .int := by
  unfold rng2 rgI; rw [List.map_map]; rfl
theorem ints_map : ∀ {l : List Int}, intsOf (l.map .int) = some l
  | [] => rfl
  | x :: r => by simp [intsOf, ints_map (l := r)]
theorem rgI_mem {a b z : Int} : z ∈ rgI a b ↔ a ≤ z ∧ z < b := by
  unfold rgI
  simp only [List.mem_map, List.mem_range]
  constructor
  · rintro ⟨i, h1, rfl⟩; omega
  · intro h; exact ⟨(z - a).toNat, by omega, by omega⟩
theorem rgI_sort {a b : Int} : (rgI a b).Pairwise (· < ·) := by
  unfold rgI
  rw [List.pairwise_map]
  refine List.Pairwise.imp (R := (· < ·)) ?_ List.pairwise_lt_range
  intro i j h; omega
theorem sorted_filter {l : List Int} {p : Int → Bool} (h : l.Pairwise (· < ·)) : (l.filter p).Pairwise (· < ·) := List.Pairwise.filter p h
theorem flat_ints {l : List Int} : (l.map PyData.int).all flat = true := by
  rw [List.all_map]; exact List.all_eq_true.mpr fun _ _ => rfl
theorem countP_ints {l : List Int} {x : Int} : (l.map PyData.int).countP (fun y => PyData.eqv y (.int x)) = l.count x := by
  rw [List.countP_map]
  refine List.countP_congr fun y _ => ?_
  simp [PyData.eqv]
theorem insU_len {x : Int} : ∀ {l : List Int}, (insU x l).length ≤ l.length + 1
  | [] => by simp [insU]
  | y :: r => by
    have := insU_len (x := x) (l := r)
    unfold insU
    split
    · simp
    · split
      · simp
      · simp only [List.length_cons]; omega
theorem sortU_len : ∀ {l : List Int}, (sortU l).length ≤ l.length
  | [] => by simp [sortU]
  | y :: r => by
    have := sortU_len (l := r)
    have h2 := insU_len (x := y) (l := sortU r)
    show (insU y (sortU r)).length ≤ _
    rw [List.length_cons]; omega
theorem rep_len {α : Type} {xs : List α} {k : Int} : (rep xs k).length = k.toNat * xs.length := by
  unfold rep
  generalize k.toNat = n
  induction n with
  | zero => simp
  | succ n ih => rw [List.replicate_succ, List.flatten_cons, List.length_append, ih, Nat.succ_mul]; omega
theorem rep_sum {xs : List Int} {k : Int} (h : 0 ≤ k) : (rep xs k).sum = k * xs.sum := by
  unfold rep
  generalize hn : k.toNat = n
  have : k = n := by omega
  subst this
  clear hn h
  induction n with
  | zero => simp
  | succ n ih => rw [List.replicate_succ, List.flatten_cons, List.sum_append, ih]; simp only [Int.natCast_add, Int.add_mul]; omega
theorem rep_map {α β : Type} {xs : List α} {k : Int} {f : α → β} : rep (xs.map f) k = (rep xs k).map f := by
  unfold rep
  generalize k.toNat = n
  induction n with
  | zero => simp
  | succ n ih => rw [List.replicate_succ, List.flatten_cons, ih, List.replicate_succ, List.flatten_cons, List.map_append]
theorem rgI_len {a b : Int} : (rgI a b).length = (b - a).toNat := by simp [rgI]
theorem rgI_from {a b c : Int} (h : a ≤ c) : (rgI a b).filter (fun i => decide (c ≤ i)) = rgI c b := by
  refine lt_pair (sorted_filter rgI_sort) rgI_sort fun x => ?_
  rw [List.mem_filter, rgI_mem, rgI_mem, decide_eq_true_eq]
  omega
theorem rgI_succ {a b : Int} (h : a ≤ b) : rgI a (b + 1) = rgI a b ++ [b] := by
  unfold rgI
  rw [show (b + 1 - a).toNat = (b - a).toNat + 1 by omega, List.range_succ, List.map_append]
  simp; omega
theorem flats {l : List Int} : ∀ x ∈ l.map PyData.int, flat x = true := by
  intro x hx
  obtain ⟨y, _, rfl⟩ := List.mem_map.mp hx
  rfl
theorem inD_ints {l : List Int} {x : Int} : inD (.int x) (l.map .int) = decide (x ∈ l) := by
  unfold inD
  rw [List.any_map, Bool.eq_iff_iff, List.any_eq_true, decide_eq_true_eq]
  constructor
  · rintro ⟨y, hy, h⟩
    have h : y = x := by simpa [PyData.eqv] using h
    exact h ▸ hy
  · intro h; exact ⟨x, h, by simp [PyData.eqv]⟩
abbrev ru (a b : Int) : Va := .d (.tuple [.int a, .int b])
theorem eqv_nil {l : List PyData} : eqD (.list l) (.list []) = some l.isEmpty := by
  unfold eqD
  rw [if_pos (by simp [PyData.depth, PyData.depthAll])]
  cases l <;> rfl
theorem bools_map {α : Type} {g : α → Bool} : ∀ {l : List α}, boolsOf (l.map fun x => .bool (g x)) = some (l.map g)
  | [] => rfl
  | x :: r => by simp [boolsOf, bools_map (l := r)]
theorem filt_t {α : Type} {l : List α} : l.filter (fun _ => true) = l := List.filter_eq_self.mpr fun _ _ => rfl
theorem eqv_nilT {l : List PyData} : eqD (.tuple l) (.tuple []) = some l.isEmpty := by
  unfold eqD
  rw [if_pos (by simp [PyData.depth, PyData.depthAll])]
  cases l <;> rfl
/-! ### places, deeds, by hand -/
structure Pl where
  up : Int
  on : Int
  reds : Int
  low : Int
  p0 : Int
  p1 : Int
  free : Int
def Pl.e (p : Pl) : PyData := .tuple [.int p.up, .int p.on, .int p.reds, .int p.low, .tuple [.int p.p0, .int p.p1], .int p.free]
/-- a stroke -/
def stk (f : Int) (ps : List Int) (off : Bool) : PyData := .tuple [.int f, .tuple (ps.map .int), .bool off]
inductive Dd where
  | give
  | free
  | pass
  | stroke (f : Int) (ps : List Int) (off : Bool)
def Dd.e : Dd → PyData
  | .give => .tuple [.str "give"]
  | .free => .tuple [.str "free"]
  | .pass => .tuple [.str "pass"]
  | .stroke f ps off => .tuple [.str "stroke", .int f, .tuple (ps.map .int), .bool off]
def oI : Option Int → PyData
  | none => .none
  | some i => .int i
def oP : Option Pl → PyData
  | none => .none
  | some p => p.e
theorem oP_some {p : Pl} : oP (some p) = p.e := rfl
theorem oP_none : oP none = .none := rfl
theorem oI_some {i : Int} : oI (some i) = .int i := rfl
theorem oI_none : oI none = .none := rfl
structure Fo where
  pl : Option Pl
  win : Option Int
  p0 : Int
  p1 : Int
def Fo.e (f : Fo) : PyData := .tuple [oP f.pl, oI f.win, .tuple [.int f.p0, .int f.p1]]
def moE : Option Fo → PyData
  | none => .str "now"
  | some f => f.e
def canF (p : Pl) (f : Int) : List Int := if p.on = 0 then (if 1 < f then [f] else []) else if p.free = 2 ∧ p.on < f then [p.on, f] else [p.on]
/-- is a stroke fair -/
def fair (p : Pl) (f : Int) (ps : List Int) (off : Bool) : Bool := !off && decide (f ∈ canF p f) && ps.all fun x => decide (x ∈ canF p f)
/-- what a foul costs -/
def cost (p : Pl) (f : Int) (ps : List Int) : Int := bestGt 4 ([p.on, f] ++ ps)
def jd (p : Pl) (f : Int) (ps : List Int) (off : Bool) : Int × Int :=
  if fair p f ps off = true then (if p.on = 1 then ((ps.length : Int), 0) else ((if p.on ≠ 0 then p.on else f) * (if 0 < ps.length then 1 else 0), 0)) else (0, cost p f ps)
def here (p : Pl) (f : Int) (ps : List Int) : Bool := if p.reds < (ps.count 1 : Int) ∨ (f = 1 ∧ p.reds = 0) ∨ (1 < f ∧ f < p.low) then false else (ps.filter fun x => decide (1 < x ∧ x < p.low)).isEmpty
def there (p : Pl) (f : Int) (ps : List Int) : Bool := decide ((ps.count 1 : Int) ≤ p.reds) && (ps ++ if 0 < f then [f] else []).all fun x => decide (p.low ≤ x) || (decide (x = 1) && decide (0 < p.reds))
def sel (i : Int) (x y : Int) : Int := if i = 0 then x else y
/-- behind a stroke that brings g -/
def strk (b : Int) (p : Pl) (g : Int × Int) (ps : List Int) : Fo :=
  if p.on = b + 1 ∧ (0 < g.2 ∨ 0 < g.1) then
    (if p.p0 + sel p.up g.1 g.2 = p.p1 + sel p.up g.2 g.1 then ⟨some ⟨1 - p.up, b + 1, 0, b + 1, p.p0 + sel p.up g.1 g.2, p.p1 + sel p.up g.2 g.1, 0⟩, none, p.p0 + sel p.up g.1 g.2, p.p1 + sel p.up g.2 g.1⟩
      else ⟨none, some (if p.p0 + sel p.up g.1 g.2 < p.p1 + sel p.up g.2 g.1 then 1 else 0), p.p0 + sel p.up g.1 g.2, p.p1 + sel p.up g.2 g.1⟩)
  else
    let low := p.low + if 0 < g.1 ∧ p.on = p.low ∧ p.on ∈ ps then 1 else 0
    let thn := if 0 < p.reds - (ps.count 1 : Int) then 1 else low
    if 0 < g.1 then ⟨some ⟨p.up, thn * (if p.on ≠ 1 then 1 else 0), p.reds - (ps.count 1 : Int), low, p.p0 + sel p.up g.1 g.2, p.p1 + sel p.up g.2 g.1, 0⟩, none, p.p0 + sel p.up g.1 g.2, p.p1 + sel p.up g.2 g.1⟩
    else ⟨some ⟨1 - p.up, thn, p.reds - (ps.count 1 : Int), low, p.p0 + sel p.up g.1 g.2, p.p1 + sel p.up g.2 g.1, if 0 < g.2 then 1 else 0⟩, none, p.p0 + sel p.up g.1 g.2, p.p1 + sel p.up g.2 g.1⟩
def moved (b : Int) (p : Pl) : Dd → Option Fo
  | .give => some ⟨none, some (1 - p.up), p.p0, p.p1⟩
  | .free => if p.free ≠ 1 ∨ p.on = b + 1 then none else some ⟨some { p with free := 2 }, none, p.p0, p.p1⟩
  | .pass => if p.free ≠ 1 then none else some ⟨some { p with up := 1 - p.up, free := 0 }, none, p.p0, p.p1⟩
  | .stroke f ps off => if here p f ps = true then some (strk b p (jd p f ps off) ps) else none
def begin0 (a player : Int) : Fo := ⟨some ⟨player, 1, a, 2, 0, 0, 0⟩, none, 0, 0⟩
def step (b : Int) (fo : Fo) (d : Dd) : Option Fo := fo.pl.bind fun p => moved b p d
def led (a b player : Int) (ds : List Dd) : Option Fo := ds.foldlM (step b) (begin0 a player)
/-- what a place keeps -/
structure PlOk (a b : Int) (p : Pl) : Prop where
  up : p.up = 0 ∨ p.up = 1
  reds : 0 ≤ p.reds ∧ p.reds ≤ a
  low : 2 ≤ p.low ∧ p.low ≤ b + 1
  on : p.on = 0 ∨ (p.on = 1 ∧ 0 < p.reds) ∨ (p.on = p.low ∧ p.reds = 0)
  free : p.free = 0 ∨ p.free = 1 ∨ p.free = 2
  fr0 : p.on = 0 → p.free = 0
/-- what a stroke keeps -/
structure StOk (a b : Int) (f : Int) (ps : List Int) : Prop where
  fb : 0 ≤ f ∧ f ≤ b + 1
  mem : ∀ x ∈ ps, 1 ≤ x ∧ x ≤ b + 1
  so : ps.Pairwise fun x y => x < y ∨ (x = 1 ∧ y = 1)
  no : f = 0 → ps = []
  len : ps.length ≤ 20
  cnt : (ps.count 1 : Int) ≤ a
def DdOk (a b : Int) : Dd → Prop
  | .stroke f ps _ => StOk a b f ps
  | _ => True
theorem bestGt_ge : ∀ {m : Int} {l : List Int}, m ≤ bestGt m l
  | m, [] => Int.le_refl _
  | m, x :: r => by
    unfold bestGt
    have := bestGt_ge (m := if x > m then x else m) (l := r)
    split at this <;> split <;> omega
theorem cost_pos {p : Pl} {f : Int} {ps : List Int} : 4 ≤ cost p f ps := bestGt_ge
theorem here_reds {p : Pl} {f : Int} {ps : List Int} (h : here p f ps = true) : (ps.count 1 : Int) ≤ p.reds := by
  unfold here at h
  split at h
  · cases h
  · omega
/-- what the balls of a stroke keep -/
structure PtOk (a b : Int) (ps : List Int) : Prop where
  mem : ∀ x ∈ ps, 1 ≤ x ∧ x ≤ b + 1
  so : ps.Pairwise fun x y => x < y ∨ (x = 1 ∧ y = 1)
  len : ps.length ≤ 20
  cnt : (ps.count 1 : Int) ≤ a
theorem PtOk.st {a b f : Int} {ps : List Int} (h : PtOk a b ps) (hf : 0 < f ∧ f ≤ b + 1) : StOk a b f ps := ⟨by omega, h.mem, h.so, fun q => by omega, h.len, h.cnt⟩
theorem st_nil {a b f : Int} (ha : 0 ≤ a) (hf : 0 ≤ f ∧ f ≤ b + 1) : StOk a b f [] := ⟨hf, by simp, .nil, fun _ => rfl, by simp, by simpa using ha⟩
theorem pt_nil {a b : Int} (ha : 0 ≤ a) : PtOk a b [] := ⟨by simp, .nil, by simp, by simpa using ha⟩
theorem pt_one {a b f : Int} (ha : 1 ≤ a) (hf : 1 ≤ f ∧ f ≤ b + 1) : PtOk a b [f] := ⟨by simpa using hf, by simp, by simp, by
  have : [f].count 1 ≤ 1 := List.count_le_length
  omega⟩
theorem pt_reds {a b : Int} {r : Nat} {cs : List Int} (hb : 0 ≤ b) (hr : (r : Int) ≤ a) (hr2 : r ≤ 10) (hc : ∀ x ∈ cs, 2 ≤ x ∧ x ≤ b + 1) (hs : cs.Pairwise (· < ·)) (hl : cs.length ≤ 10) : PtOk a b (List.replicate r 1 ++ cs) := by
  refine ⟨fun x hx => ?_, ?_, ?_, ?_⟩
  · rcases List.mem_append.mp hx with q | q
    · rw [List.eq_of_mem_replicate q]; omega
    · have := hc x q; omega
  · rw [List.pairwise_append]
    refine ⟨List.pairwise_replicate.mpr (.inr (.inr ⟨rfl, rfl⟩)), hs.imp fun h => .inl h, fun x hx y hy => ?_⟩
    rw [List.eq_of_mem_replicate hx]
    have := hc y hy
    exact .inl (by omega)
  · rw [List.length_append, List.length_replicate]; omega
  · rw [List.count_append, List.count_replicate_self, List.count_eq_zero.mpr fun q => ?_]
    · simpa using hr
    · have := hc 1 q; omega
theorem rep_one {x : PyData} {k : Int} : rep [x] k = List.replicate k.toNat x := by
  unfold rep
  generalize k.toNat = n
  induction n with
  | zero => rfl
  | succ n ih => rw [List.replicate_succ, List.flatten_cons, ih, List.replicate_succ]; rfl
/-- the place stays well behind a deed -/
theorem pl_moved {a b : Int} {p : Pl} {d : Dd} {fo : Fo} (ha : 0 ≤ a) (hp : PlOk a b p) (e : moved b p d = some fo) : ∀ q, fo.pl = some q → PlOk a b q := by
  intro q hq
  have hup := hp.up
  have hreds := hp.reds
  have hlow := hp.low
  cases d with
  | give => simp only [moved, Option.some.injEq] at e; subst e; cases hq
  | free =>
    simp only [moved] at e
    split at e
    · cases e
    · rename_i hne
      simp only [not_or, Classical.not_not] at hne
      cases e; cases hq
      refine ⟨hup, hreds, hlow, hp.on, .inr (.inr rfl), fun h0 => ?_⟩
      have := hp.fr0 h0; omega
  | pass =>
    simp only [moved] at e
    split at e
    · cases e
    · cases e; cases hq
      exact ⟨by show (1 - p.up = 0 ∨ 1 - p.up = 1); omega, hreds, hlow, hp.on, .inl rfl, fun _ => rfl⟩
  | stroke f ps off =>
    simp only [moved] at e
    split at e
    · rename_i hh
      have hc := here_reds hh
      have hc0 : 0 ≤ (ps.count 1 : Int) := Int.natCast_nonneg _
      cases e
      unfold strk at hq
      have hu2 : 1 - p.up = 0 ∨ 1 - p.up = 1 := by omega
      split at hq
      · split at hq
        · cases hq
          exact ⟨hu2, ⟨Int.le_refl _, ha⟩, ⟨by show 2 ≤ b + 1; omega, Int.le_refl _⟩, .inr (.inr ⟨rfl, rfl⟩), .inl rfl, fun _ => rfl⟩
        · cases hq
      · rename_i hne
        have hl2 : 2 ≤ p.low + (if 0 < (jd p f ps off).1 ∧ p.on = p.low ∧ p.on ∈ ps then 1 else 0) ∧ p.low + (if 0 < (jd p f ps off).1 ∧ p.on = p.low ∧ p.on ∈ ps then 1 else 0) ≤ b + 1 := by
          split
          · rename_i h
            have : p.on ≠ b + 1 := fun z => hne ⟨z, .inr h.1⟩
            omega
          · omega
        generalize p.low + (if 0 < (jd p f ps off).1 ∧ p.on = p.low ∧ p.on ∈ ps then 1 else 0) = low at hq hl2
        have hl3 : 0 ≤ p.reds - (ps.count 1 : Int) ∧ p.reds - (ps.count 1 : Int) ≤ a := by omega
        generalize p.reds - (ps.count 1 : Int) = left at hq hl3
        simp only at hq
        split at hq
        · cases hq
          refine ⟨hup, hl3, hl2, ?_, .inl rfl, fun _ => rfl⟩
          by_cases h1 : p.on = 1
          · simp [h1]
          · by_cases h2 : 0 < left
            · simp [h1, h2]
            · have : left = 0 := by omega
              simp [h1, this]
        · cases hq
          refine ⟨hu2, hl3, hl2, ?_, ?_, fun h0 => ?_⟩
          · by_cases h2 : 0 < left
            · simp [h2]
            · have : left = 0 := by omega
              simp [this]
          · simp only; split <;> omega
          · simp only at h0; split at h0 <;> omega
    · cases e
def frE (player : Int) (ds : List Dd) : PyData := .tuple [.int player, .tuple (ds.map Dd.e)]
theorem led_snoc {a b player : Int} {ds : List Dd} {d : Dd} : led a b player (ds ++ [d]) = (led a b player ds).bind fun fo => step b fo d := by
  unfold led
  rw [List.foldlM_append]
  cases List.foldlM (step b) (begin0 a player) ds with
  | none => rfl
  | some fo =>
    show List.foldlM (step b) fo [d] = step b fo d
    simp [List.foldlM]
theorem led_from {a b : Int} (ha : 0 ≤ a) : ∀ {ds : List Dd} {f0 fo : Fo}, (∀ p, f0.pl = some p → PlOk a b p) → ds.foldlM (step b) f0 = some fo → ∀ p, fo.pl = some p → PlOk a b p
  | [], f0, fo, h, e => by
    cases e; exact h
  | d :: ds, f0, fo, h, e => by
    rw [List.foldlM_cons] at e
    cases h1 : step b f0 d with
    | none => rw [h1] at e; cases e
    | some f1 =>
      rw [h1] at e
      refine led_from ha (ds := ds) (f0 := f1) (fun p hp => ?_) e
      unfold step at h1
      cases h2 : f0.pl with
      | none => rw [h2] at h1; cases h1
      | some p1 =>
        rw [h2] at h1
        exact pl_moved ha (h p1 h2) h1 p hp
theorem led_ok {a b player : Int} (ha : 1 ≤ a) (hb : 1 ≤ b) (hpl : player = 0 ∨ player = 1) {ds : List Dd} {fo : Fo} (e : led a b player ds = some fo) : ∀ p, fo.pl = some p → PlOk a b p := by
  refine led_from (by omega) (fun p hp => ?_) e
  cases hp
  exact ⟨hpl, ⟨by show 0 ≤ a; omega, Int.le_refl _⟩, ⟨Int.le_refl _, by show 2 ≤ b + 1; omega⟩, .inr (.inl ⟨rfl, by show 0 < a; omega⟩), .inl rfl, fun _ => rfl⟩
theorem led_take {a b player : Int} {ds : List Dd} {fo : Fo} {i : Nat} (e : led a b player ds = some fo) : ∃ f1, led a b player (ds.take i) = some f1 := by
  unfold led at e ⊢
  rw [← List.take_append_drop i ds, List.foldlM_append] at e
  cases h : List.foldlM (step b) (begin0 a player) (ds.take i) with
  | none => rw [h] at e; cases e
  | some f1 => exact ⟨f1, rfl⟩
theorem led_next {a b player : Int} {ds : List Dd} {fo : Fo} {i : Nat} {d : Dd} (e : led a b player ds = some fo) (hd : ds[i]? = some d) : ∃ f1 p f2, led a b player (ds.take i) = some f1 ∧ f1.pl = some p ∧ moved b p d = some f2 ∧ led a b player (ds.take (i + 1)) = some f2 := by
  obtain ⟨f1, h1⟩ := led_take (i := i) e
  obtain ⟨f2, h2⟩ := led_take (i := i + 1) e
  have h3 := h2
  rw [List.take_succ, hd] at h3
  rw [show (some d).toList = [d] from rfl, led_snoc, h1] at h3
  replace h3 : step b f1 d = some f2 := h3
  unfold step at h3
  cases h4 : f1.pl with
  | none => rw [h4] at h3; cases h3
  | some p =>
    rw [h4] at h3
    exact ⟨f1, p, f2, h1, h4, h3, h2⟩
theorem there_here {a b : Int} {p : Pl} {f : Int} {ps : List Int} (hp : PlOk a b p) (hs : StOk a b f ps) : there p f ps = here p f ps := by
  have hlow := hp.low
  have hf := hs.fb
  have hh : here p f ps = if p.reds < (ps.count 1 : Int) ∨ (f = 1 ∧ p.reds = 0) ∨ (1 < f ∧ f < p.low) then false else (ps.filter fun x => decide (1 < x ∧ x < p.low)).isEmpty := rfl
  generalize here p f ps = hq at hh ⊢
  unfold there
  by_cases h1 : p.reds < (ps.count 1 : Int)
  · rw [if_pos (.inl h1)] at hh
    subst hh
    simp only [Bool.and_eq_false_iff, decide_eq_false_iff_not]
    exact .inl (by omega)
  have h1' : (ps.count 1 : Int) ≤ p.reds := by omega
  have hreds := hp.reds
  by_cases h2 : f = 1 ∧ p.reds = 0
  · rw [if_pos (.inr (.inl h2))] at hh
    subst hh
    rw [Bool.and_eq_false_iff]
    refine .inr (List.all_eq_false.mpr ⟨1, by simp [h2.1], ?_⟩)
    simp only [Bool.or_eq_true, Bool.and_eq_true, decide_eq_true_eq]
    omega
  by_cases h3 : 1 < f ∧ f < p.low
  · rw [if_pos (.inr (.inr h3))] at hh
    subst hh
    rw [Bool.and_eq_false_iff]
    refine .inr (List.all_eq_false.mpr ⟨f, by simp [show 0 < f by omega], ?_⟩)
    simp only [Bool.or_eq_true, Bool.and_eq_true, decide_eq_true_eq]
    omega
  rw [if_neg (by simp only [not_or]; exact ⟨h1, h2, h3⟩)] at hh
  subst hh
  rw [Bool.eq_iff_iff, Bool.and_eq_true, List.all_eq_true, List.isEmpty_iff, List.filter_eq_nil_iff]
  simp only [decide_eq_true_eq, Bool.or_eq_true, Bool.and_eq_true, List.mem_append]
  constructor
  · rintro ⟨_, h⟩ x hx hc
    have := h x (.inl hx)
    omega
  · intro h
    refine ⟨h1', fun x hx => ?_⟩
    rcases hx with hx | hx
    · have hm := hs.mem x hx
      by_cases hx1 : x = 1
      · subst hx1
        have := List.count_pos_iff.mpr hx
        omega
      · have := h x hx; omega
    · split at hx
      · rw [List.mem_singleton.mp hx]; omega
      · cases hx
theorem can_len {p : Pl} {f : Int} : (canF p f).length ≤ 2 := by
  unfold canF
  split
  · split <;> simp
  · split <;> simp
theorem okD_ints {k : Nat} {l : List Int} (h : l.length ≤ 1000) : okD (k + 1) (.tuple (l.map .int)) = true := by
  simp only [okD, Bool.and_eq_true, decide_eq_true_eq, List.all_eq_true, List.length_map, szl]
  refine ⟨by omega, fun x hx => ?_⟩
  obtain ⟨y, _, rfl⟩ := List.mem_map.mp hx
  cases k <;> rfl
def pts (p : Pl) (f : Int) (ps : List Int) (off : Bool) : Int := if fair p f ps off = true then (if p.on = 1 then (ps.length : Int) else if p.on = 0 then ps.sum else p.on * (if ps.isEmpty = true then 0 else 1)) else 0
def foulV (p : Pl) (f : Int) (ps : List Int) (off : Bool) : Int := if fair p f ps off = true then 0 else cost p f ps
theorem one_kind {f : Int} (hf : 1 < f) : ∀ {ps : List Int}, (∀ x ∈ ps, x = f) → (ps.Pairwise fun x y => x < y ∨ (x = 1 ∧ y = 1)) → ps = [] ∨ ps = [f]
  | [], _, _ => .inl rfl
  | [x], h, _ => .inr (by rw [h x (List.mem_cons_self ..)])
  | x :: y :: r, h, hs => by
    have h1 := h x (List.mem_cons_self ..)
    have h2 := h y (List.mem_cons_of_mem _ (List.mem_cons_self ..))
    have := (List.pairwise_cons.mp hs).1 y (List.mem_cons_self ..)
    omega
theorem pts_jd {a b : Int} {p : Pl} {f : Int} {ps : List Int} {off : Bool} (hs : StOk a b f ps) : pts p f ps off = (jd p f ps off).1 := by
  unfold pts jd
  by_cases hf : fair p f ps off = true
  · rw [if_pos hf, if_pos hf]
    by_cases h1 : p.on = 1
    · rw [if_pos h1, if_pos h1]
    · rw [if_neg h1, if_neg h1]
      by_cases h0 : p.on = 0
      · rw [if_pos h0]
        simp only [h0, ne_eq, not_true, if_false]
        unfold fair at hf
        simp only [Bool.and_eq_true, decide_eq_true_eq, List.all_eq_true, canF, h0, if_true] at hf
        by_cases hg : 1 < f
        · rw [if_pos hg] at hf
          rcases one_kind hg (fun x hx => by simpa using hf.2 x hx) hs.so with q | q <;> subst q <;> simp
        · rw [if_neg hg] at hf
          exact absurd hf.1.2 (by simp)
      · rw [if_neg h0]
        cases ps <;> simp [h0]
  · rw [if_neg hf, if_neg hf]
theorem foul_jd {p : Pl} {f : Int} {ps : List Int} {off : Bool} : foulV p f ps off = (jd p f ps off).2 := by
  unfold foulV jd
  split
  · split <;> rfl
  · rfl
theorem fair_jd {p : Pl} {f : Int} {ps : List Int} {off : Bool} : fair p f ps off = decide ((jd p f ps off).2 = 0) := by
  rw [← foul_jd]
  unfold foulV
  have := cost_pos (p := p) (f := f) (ps := ps)
  by_cases hf : fair p f ps off = true
  · rw [if_pos hf, hf]; rfl
  · rw [if_neg hf]
    simp only [Bool.not_eq_true] at hf
    rw [hf]
    exact (decide_eq_false (by omega)).symm
theorem okPl {k : Nat} {p : Pl} : okD (k + 2) p.e = true := by
  simp [Pl.e, okD, szl]
theorem okFo {k : Nat} {f : Fo} : okD (k + 3) f.e = true := by
  obtain ⟨pl, win, p0, p1⟩ := f
  cases pl <;> cases win <;> simp [Fo.e, oP, oI, Pl.e, okD, szl]
/-- the program's way behind a stroke is the law's -/
theorem fair_top {a b : Int} {p : Pl} {f : Int} {ps : List Int} {off : Bool} (hs : StOk a b f ps) (hf : fair p f ps off = true) (ht : p.on = b + 1) (hb : 1 ≤ b) : ∀ x ∈ ps, x = b + 1 := by
  intro x hx
  unfold fair at hf
  simp only [Bool.and_eq_true, decide_eq_true_eq, List.all_eq_true] at hf
  have h := hf.2 x hx
  have hfb := hs.fb
  unfold canF at h
  rw [if_neg (by omega), if_neg (by omega)] at h
  have := List.mem_singleton.mp h
  omega
theorem jd_fair {p : Pl} {f : Int} {ps : List Int} {off : Bool} (hf : fair p f ps off = true) : (jd p f ps off).2 = 0 := by
  rw [← foul_jd]; unfold foulV; rw [if_pos hf]
theorem jd_foul {p : Pl} {f : Int} {ps : List Int} {off : Bool} (hf : ¬ fair p f ps off = true) : (jd p f ps off).1 = 0 ∧ 4 ≤ (jd p f ps off).2 := by
  unfold jd; rw [if_neg hf]; exact ⟨rfl, cost_pos⟩
theorem jd_gain {p : Pl} {f : Int} {ps : List Int} {off : Bool} (hf : fair p f ps off = true) (ho : 0 ≤ p.on) (hff : 0 ≤ f) : 0 < (jd p f ps off).1 ↔ ps ≠ [] := by
  unfold jd
  rw [if_pos hf]
  unfold fair at hf
  simp only [Bool.and_eq_true, decide_eq_true_eq, List.all_eq_true] at hf
  by_cases h1 : p.on = 1
  · rw [if_pos h1]
    cases ps <;> simp
  · rw [if_neg h1]
    have hpos : 0 < (if p.on ≠ 0 then p.on else f) := by
      split
      · omega
      · rename_i h0
        have h0 : p.on = 0 := by simpa using h0
        have h := hf.1.2
        unfold canF at h
        rw [if_pos h0] at h
        split at h
        · omega
        · cases h
    cases ps with
    | nil => simp
    | cons x r => simpa using hpos
theorem ends_iff {a b : Int} {p : Pl} {f : Int} {ps : List Int} {off : Bool} (hs : StOk a b f ps) (hb : 1 ≤ b) : (p.on = b + 1 ∧ (0 < (jd p f ps off).2 ∨ b + 1 ∈ ps)) ↔ (p.on = b + 1 ∧ (0 < (jd p f ps off).2 ∨ 0 < (jd p f ps off).1)) := by
  constructor
  · rintro ⟨h1, h2⟩
    refine ⟨h1, ?_⟩
    by_cases hf : fair p f ps off = true
    · rcases h2 with h2 | h2
      · exact .inl h2
      · exact .inr ((jd_gain hf (by omega) hs.fb.1).mpr fun q => by rw [q] at h2; cases h2)
    · have := jd_foul hf; exact .inl (by omega)
  · rintro ⟨h1, h2⟩
    refine ⟨h1, ?_⟩
    by_cases hf : fair p f ps off = true
    · rcases h2 with h2 | h2
      · exact .inl h2
      · have hne := (jd_gain hf (by omega) hs.fb.1).mp h2
        cases ps with
        | nil => exact absurd rfl hne
        | cons x r => exact .inr (by rw [← fair_top hs hf h1 hb x (List.mem_cons_self ..)]; exact List.mem_cons_self ..)
    · have := jd_foul hf; exact .inl (by omega)
theorem low_iff {a b : Int} {p : Pl} {f : Int} {ps : List Int} {off : Bool} (hp : PlOk a b p) (hs : StOk a b f ps) : ((jd p f ps off).2 = 0 ∧ 1 < p.on ∧ p.on ∈ ps) ↔ (0 < (jd p f ps off).1 ∧ p.on = p.low ∧ p.on ∈ ps) := by
  have hon := hp.on
  have hlow := hp.low
  by_cases hf : fair p f ps off = true
  · have h2 := jd_fair hf
    have h1 := jd_gain hf (by omega) hs.fb.1
    constructor
    · rintro ⟨_, g1, g2⟩
      exact ⟨h1.mpr fun q => (by rw [q] at g2; cases g2), by omega, g2⟩
    · rintro ⟨g1, g2, g3⟩
      exact ⟨h2, by omega, g3⟩
  · have h := jd_foul hf
    constructor
    · rintro ⟨g, _⟩; omega
    · rintro ⟨g, _⟩; omega
/-! ### while; points of frames -/
theorem whl_post {test : List Sl → Stt → R Bool} {body : List Sl → Stt → R Fl} {P : Fl → Stt → Prop} (I : Nat → List Sl → Stt → Prop) (hs : ∀ m env st, I m env st → Post (test env st) fun b s => if b = true then ∃ k, m = k + 1 ∧ Post (body env s) fun fl s => match fl with | .nx e2 => I k e2 s | .rt v => P (.rt v) s else P (.nx env) s) :
    ∀ (fuel m : Nat) {env : List Sl} {st : Stt}, I m env st → m < fuel → Post (whlLoop test body fuel env st) P
  | 0, _, _, _, _, h => absurd h (Nat.not_lt_zero _)
  | fuel + 1, m, env, st, h0, hf => by
    unfold whlLoop
    rw [post_bind]
    refine (hs m env st h0).imp fun b s h => ?_
    rw [post_ite]
    split
    · rw [if_pos ‹_›] at h
      obtain ⟨k, rfl, h⟩ := h
      rw [post_bind]
      refine h.imp fun fl s h => ?_
      cases fl with
      | rt v => exact post_ok.mpr h
      | nx e2 => exact whl_post I hs fuel k h (by omega)
    · rw [if_neg ‹_›] at h
      exact post_ok.mpr h
theorem bestGt_le {B : Int} : ∀ {m : Int} {l : List Int}, m ≤ B → (∀ x ∈ l, x ≤ B) → bestGt m l ≤ B
  | m, [], h, _ => h
  | m, x :: r, h, hl => by
    unfold bestGt
    refine bestGt_le ?_ fun y hy => hl y (List.mem_cons_of_mem _ hy)
    have := hl x (List.mem_cons_self ..)
    split <;> omega
/-- what a stroke brings is bounded -/
theorem jd_bd {a b : Int} {p : Pl} {f : Int} {ps : List Int} {off : Bool} (hp : PlOk a b p) (hs : StOk a b f ps) (hb : 1 ≤ b ∧ b ≤ 18) : 0 ≤ (jd p f ps off).1 ∧ (jd p f ps off).1 ≤ 20 ∧ 0 ≤ (jd p f ps off).2 ∧ (jd p f ps off).2 ≤ 20 := by
  have hl := hs.len
  have hf := hs.fb
  have hon := hp.on
  have hlow := hp.low
  by_cases h : fair p f ps off = true
  · have h2 := jd_fair h
    have : 0 ≤ (jd p f ps off).1 ∧ (jd p f ps off).1 ≤ 20 := by
      unfold jd
      rw [if_pos h]
      split
      · simp; omega
      · simp only
        split <;> split <;> omega
    omega
  · have h1 := jd_foul h
    refine ⟨by omega, by omega, by omega, ?_⟩
    unfold jd
    rw [if_neg h]
    refine bestGt_le (by omega) fun x hx => ?_
    rcases List.mem_append.mp hx with q | q
    · simp only [List.mem_cons, List.not_mem_nil, or_false] at q
      rcases q with rfl | rfl <;> omega
    · have := hs.mem x q; omega
structure PtB (fo : Fo) (B : Int) : Prop where
  a : 0 ≤ fo.p0 ∧ fo.p0 ≤ B
  b : 0 ≤ fo.p1 ∧ fo.p1 ≤ B
  c : ∀ p, fo.pl = some p → p.p0 = fo.p0 ∧ p.p1 = fo.p1
theorem mv_bd {a b : Int} {p : Pl} {d : Dd} {fo : Fo} {B : Int} (hp : PlOk a b p) (hd : DdOk a b d) (hb : 1 ≤ b ∧ b ≤ 18) (h0 : 0 ≤ p.p0 ∧ p.p0 ≤ B) (h1 : 0 ≤ p.p1 ∧ p.p1 ≤ B) (e : moved b p d = some fo) : PtB fo (B + 20) := by
  cases d with
  | give => cases e; exact ⟨by show 0 ≤ p.p0 ∧ p.p0 ≤ B + 20; omega, by show 0 ≤ p.p1 ∧ p.p1 ≤ B + 20; omega, fun q h => by cases h⟩
  | free =>
    simp only [moved] at e
    split at e
    · cases e
    · cases e; exact ⟨by show 0 ≤ p.p0 ∧ p.p0 ≤ B + 20; omega, by show 0 ≤ p.p1 ∧ p.p1 ≤ B + 20; omega, fun q h => by cases h; exact ⟨rfl, rfl⟩⟩
  | pass =>
    simp only [moved] at e
    split at e
    · cases e
    · cases e; exact ⟨by show 0 ≤ p.p0 ∧ p.p0 ≤ B + 20; omega, by show 0 ≤ p.p1 ∧ p.p1 ≤ B + 20; omega, fun q h => by cases h; exact ⟨rfl, rfl⟩⟩
  | stroke f ps off =>
    simp only [moved] at e
    split at e
    · cases e
      have hj := jd_bd (off := off) hp hd hb
      generalize jd p f ps off = g at hj
      have x0 : 0 ≤ sel p.up g.1 g.2 ∧ sel p.up g.1 g.2 ≤ 20 := by unfold sel; split <;> omega
      have x1 : 0 ≤ sel p.up g.2 g.1 ∧ sel p.up g.2 g.1 ≤ 20 := by unfold sel; split <;> omega
      unfold strk
      split
      · split
        · exact ⟨by simp only; omega, by simp only; omega, fun q h => by cases h; exact ⟨rfl, rfl⟩⟩
        · exact ⟨by simp only; omega, by simp only; omega, fun q h => by cases h⟩
      · simp only
        split
        · exact ⟨by simp only; omega, by simp only; omega, fun q h => by cases h; exact ⟨rfl, rfl⟩⟩
        · exact ⟨by simp only; omega, by simp only; omega, fun q h => by cases h; exact ⟨rfl, rfl⟩⟩
    · cases e
theorem led_bd {a b player : Int} (ha : 1 ≤ a) (hb : 1 ≤ b ∧ b ≤ 18) (hpl : player = 0 ∨ player = 1) {ds : List Dd} (hd : ∀ d ∈ ds, DdOk a b d) {fo : Fo} (e : led a b player ds = some fo) : ∀ i, i ≤ ds.length → ∀ f1, led a b player (ds.take i) = some f1 → PtB f1 (20 * i) := by
  intro i
  induction i with
  | zero =>
    intro _ f1 h
    rw [List.take_zero] at h
    cases h
    exact ⟨⟨Int.le_refl _, Int.le_refl _⟩, ⟨Int.le_refl _, Int.le_refl _⟩, fun p h => by cases h; exact ⟨rfl, rfl⟩⟩
  | succ i ih =>
    intro hi f1 h
    obtain ⟨g1, p, f2, q1, q2, q3, q4⟩ := led_next (i := i) e (List.getElem?_eq_getElem (by omega))
    rw [h] at q4
    cases q4
    have hb1 := ih (by omega) g1 q1
    have hc := hb1.c p q2
    have ha1 := hb1.a
    have hb2 := hb1.b
    have := mv_bd (B := 20 * i) (led_ok ha hb.1 hpl q1 p q2) (hd _ (List.getElem_mem (by omega))) hb (by omega) (by omega) q3
    have hk : (20 * (i + 1 : Nat) : Int) = 20 * i + 20 := by omega
    rw [hk]
    exact this
theorem led_bd' {a b player : Int} (ha : 1 ≤ a) (hb : 1 ≤ b ∧ b ≤ 18) (hpl : player = 0 ∨ player = 1) {ds : List Dd} (hd : ∀ d ∈ ds, DdOk a b d) {fo : Fo} (e : led a b player ds = some fo) : PtB fo (20 * ds.length) := by
  have := led_bd ha hb hpl hd e ds.length (Nat.le_refl _) fo (by rw [List.take_length]; exact e)
  exact this
section
variable {st : Stt} {p : Pl} {fo : Fo} {a b : Int}
theorem pl_i0 : item st (.d p.e) (.d (.int 0)) = some (.d (.int p.up)) := rfl
theorem pl_i1 : item st (.d p.e) (.d (.int 1)) = some (.d (.int p.on)) := rfl
theorem pl_i2 : item st (.d p.e) (.d (.int 2)) = some (.d (.int p.reds)) := rfl
theorem pl_i3 : item st (.d p.e) (.d (.int 3)) = some (.d (.int p.low)) := rfl
theorem pl_i4 : item st (.d p.e) (.d (.int 4)) = some (.d (.tuple [.int p.p0, .int p.p1])) := rfl
theorem pl_i5 : item st (.d p.e) (.d (.int 5)) = some (.d (.int p.free)) := rfl
theorem pl_s4 : slice (.d p.e) none (some 4) = some (.d (.tuple [.int p.up, .int p.on, .int p.reds, .int p.low])) := rfl
theorem pl_s5 : slice (.d p.e) none (some 5) = some (.d (.tuple [.int p.up, .int p.on, .int p.reds, .int p.low, .tuple [.int p.p0, .int p.p1]])) := rfl
theorem pl_t4 : slice (.d p.e) (some 4) none = some (.d (.tuple [.tuple [.int p.p0, .int p.p1], .int p.free])) := rfl
theorem pl_is : cmp .Is (.d p.e) (.d .none) = some false := rfl
theorem pl_isn : cmp .IsNot (.d p.e) (.d .none) = some true := rfl
theorem fo_i0 : item st (.d fo.e) (.d (.int 0)) = some (.d (oP fo.pl)) := rfl
theorem fo_i1 : item st (.d fo.e) (.d (.int 1)) = some (.d (oI fo.win)) := rfl
theorem fo_i2 : item st (.d fo.e) (.d (.int 2)) = some (.d (.tuple [.int fo.p0, .int fo.p1])) := rfl
theorem ru_i0 : item st (ru a b) (.d (.int 0)) = some (.d (.int a)) := rfl
theorem ru_i1 : item st (ru a b) (.d (.int 1)) = some (.d (.int b)) := rfl
theorem pt_i {x y i : Int} (h : i = 0 ∨ i = 1) : item st (.d (.tuple [.int x, .int y])) (.d (.int i)) = some (.d (.int (sel i x y))) := by
  rcases h with rfl | rfl <;> rfl
theorem pt_j {x y i : Int} (h : i = 0 ∨ i = 1) : item st (.d (.tuple [.int x, .int y])) (.d (.int (1 - i))) = some (.d (.int (sel i y x))) := by
  rcases h with rfl | rfl <;> rfl
end
theorem rg_at {m : Int} {i : Nat} {x : PyData} (h : (rng2 0 m)[i]? = some x) : x = .int i ∧ (i : Int) < m := by
  have hi : i < (rng2 0 m).length := (List.getElem?_eq_some_iff.mp h).1
  rw [rng2_rgI, List.length_map, rgI_len] at hi
  rw [rng2_rgI, List.getElem?_map] at h
  unfold rgI at h
  rw [List.getElem?_map, List.getElem?_range (by omega)] at h
  simp only [Option.map_some, Option.some.injEq] at h
  exact ⟨by rw [← h]; simp, by omega⟩
theorem bind_exc {α β : Type} {c : Str} {s : Stt} {f : α → Stt → R β} : (R.exc c s : R α).bind f = .exc c s := rfl
theorem mayf_ok {k : Nat} {p : Pl} {f : Int} {st : Stt} : rn Gm (k + 1) 16 [.d p.e, .d (.int f)] st = .ok (.d (.tuple ((canF p f).map .int))) st := by
  refine Post.eq ?_
  rw [run_at (d := ⟨8, 2, b_may_fall⟩) rfl]
  rw [post_runB]
  refine ⟨rfl, ?_⟩
  unfold Pl.e canF
  by_cases h1 : p.on = 0
  · simp only [b_may_fall, post_cons]
    simp [ex, xB_eq, ev, evs, evb, evt, evo, evi, evf, tst, K.val, Bz.isi, isOwn, post_bind, post_ok, post_lift, post_ite, post_noexc, post_nil, bind_ok, fk_nx, fk_rt, fr_nx, fr_rt, lift_some, sto, stoT, wipeS, z_add, z_adds, z_addt, z_addl, z_sub, z_mul, z_mult, z_mull, z_fdiv, z_mod, z_eq, z_ne, z_eqi, z_eqb, z_eqs, z_eqn, z_lt, z_le, z_gt, z_ge, z_is0, z_is1, z_is2, z_is3, z_is4, z_is5, z_in0, z_in1, z_in2, z_in3, z_in4, z_in5, z_inl, z_int, z_nil, z_nit, z_t0, z_t1, z_t2, z_t3, z_t4, z_t5, z_tr, z_isb, z_isb1, z_isb2, z_isb3, z_isb4, z_isb5, z_addb, z_subb, z_nsb, z_rvt, z_rvl, z_stp, z_srl, z_srt, z_sti, z_stb, z_shl, z_ixt, z_ixl, z_ixr, z_slt, z_sll, z_lent, z_lenl, z_lenr, z_suml, z_sumt, z_maxl, z_maxt, z_minl, z_bi, z_bb, z_tul, z_tut, z_tur, z_lil, z_lit, z_all, z_max2, z_min2, z_kt, z_kl, z_cot, z_col, z_da, z_ds0, z_ds1, z_sql, z_sqt, z_isLr, z_fn, z_fb, z_fi, z_fs, sn_0, sn_1, sn_2, sn_3, sn_4, sn_5, sn_6, sn_7, sn_8, sn_9, sn_10, sn_11, sn_12, sn_13, sn_14, sn_15, sn_16, sn_17, sn_18, sn_19]
    simp only [q_may_fall5, post_cons]
    simp [ex, xB_eq, ev, evs, evb, evt, evo, evi, evf, tst, K.val, Bz.isi, isOwn, post_bind, post_ok, post_lift, post_ite, post_noexc, post_nil, bind_ok, fk_nx, fk_rt, fr_nx, fr_rt, lift_some, sto, stoT, wipeS, z_add, z_adds, z_addt, z_addl, z_sub, z_mul, z_mult, z_mull, z_fdiv, z_mod, z_eq, z_ne, z_eqi, z_eqb, z_eqs, z_eqn, z_lt, z_le, z_gt, z_ge, z_is0, z_is1, z_is2, z_is3, z_is4, z_is5, z_in0, z_in1, z_in2, z_in3, z_in4, z_in5, z_inl, z_int, z_nil, z_nit, z_t0, z_t1, z_t2, z_t3, z_t4, z_t5, z_tr, z_isb, z_isb1, z_isb2, z_isb3, z_isb4, z_isb5, z_addb, z_subb, z_nsb, z_rvt, z_rvl, z_stp, z_srl, z_srt, z_sti, z_stb, z_shl, z_ixt, z_ixl, z_ixr, z_slt, z_sll, z_lent, z_lenl, z_lenr, z_suml, z_sumt, z_maxl, z_maxt, z_minl, z_bi, z_bb, z_tul, z_tut, z_tur, z_lil, z_lit, z_all, z_max2, z_min2, z_kt, z_kl, z_cot, z_col, z_da, z_ds0, z_ds1, z_sql, z_sqt, z_isLr, z_fn, z_fb, z_fi, z_fs, sn_0, sn_1, sn_2, sn_3, sn_4, sn_5, sn_6, sn_7, sn_8, sn_9, sn_10, sn_11, sn_12, sn_13, sn_14, sn_15, sn_16, sn_17, sn_18, sn_19, z_eqi, h1]
    by_cases h2 : 1 < f
    · simp only [q_may_fall1, post_cons]
      simp [ex, xB_eq, ev, evs, evb, evt, evo, evi, evf, tst, K.val, Bz.isi, isOwn, post_bind, post_ok, post_lift, post_ite, post_noexc, post_nil, bind_ok, fk_nx, fk_rt, fr_nx, fr_rt, lift_some, sto, stoT, wipeS, z_add, z_adds, z_addt, z_addl, z_sub, z_mul, z_mult, z_mull, z_fdiv, z_mod, z_eq, z_ne, z_eqi, z_eqb, z_eqs, z_eqn, z_lt, z_le, z_gt, z_ge, z_is0, z_is1, z_is2, z_is3, z_is4, z_is5, z_in0, z_in1, z_in2, z_in3, z_in4, z_in5, z_inl, z_int, z_nil, z_nit, z_t0, z_t1, z_t2, z_t3, z_t4, z_t5, z_tr, z_isb, z_isb1, z_isb2, z_isb3, z_isb4, z_isb5, z_addb, z_subb, z_nsb, z_rvt, z_rvl, z_stp, z_srl, z_srt, z_sti, z_stb, z_shl, z_ixt, z_ixl, z_ixr, z_slt, z_sll, z_lent, z_lenl, z_lenr, z_suml, z_sumt, z_maxl, z_maxt, z_minl, z_bi, z_bb, z_tul, z_tut, z_tur, z_lil, z_lit, z_all, z_max2, z_min2, z_kt, z_kl, z_cot, z_col, z_da, z_ds0, z_ds1, z_sql, z_sqt, z_isLr, z_fn, z_fb, z_fi, z_fs, sn_0, sn_1, sn_2, sn_3, sn_4, sn_5, sn_6, sn_7, sn_8, sn_9, sn_10, sn_11, sn_12, sn_13, sn_14, sn_15, sn_16, sn_17, sn_18, sn_19, h2]
    · simp only [q_may_fall1, post_cons]
      simp [ex, xB_eq, ev, evs, evb, evt, evo, evi, evf, tst, K.val, Bz.isi, isOwn, post_bind, post_ok, post_lift, post_ite, post_noexc, post_nil, bind_ok, fk_nx, fk_rt, fr_nx, fr_rt, lift_some, sto, stoT, wipeS, z_add, z_adds, z_addt, z_addl, z_sub, z_mul, z_mult, z_mull, z_fdiv, z_mod, z_eq, z_ne, z_eqi, z_eqb, z_eqs, z_eqn, z_lt, z_le, z_gt, z_ge, z_is0, z_is1, z_is2, z_is3, z_is4, z_is5, z_in0, z_in1, z_in2, z_in3, z_in4, z_in5, z_inl, z_int, z_nil, z_nit, z_t0, z_t1, z_t2, z_t3, z_t4, z_t5, z_tr, z_isb, z_isb1, z_isb2, z_isb3, z_isb4, z_isb5, z_addb, z_subb, z_nsb, z_rvt, z_rvl, z_stp, z_srl, z_srt, z_sti, z_stb, z_shl, z_ixt, z_ixl, z_ixr, z_slt, z_sll, z_lent, z_lenl, z_lenr, z_suml, z_sumt, z_maxl, z_maxt, z_minl, z_bi, z_bb, z_tul, z_tut, z_tur, z_lil, z_lit, z_all, z_max2, z_min2, z_kt, z_kl, z_cot, z_col, z_da, z_ds0, z_ds1, z_sql, z_sqt, z_isLr, z_fn, z_fb, z_fi, z_fs, sn_0, sn_1, sn_2, sn_3, sn_4, sn_5, sn_6, sn_7, sn_8, sn_9, sn_10, sn_11, sn_12, sn_13, sn_14, sn_15, sn_16, sn_17, sn_18, sn_19, h2]
  · simp only [b_may_fall, post_cons]
    simp [ex, xB_eq, ev, evs, evb, evt, evo, evi, evf, tst, K.val, Bz.isi, isOwn, post_bind, post_ok, post_lift, post_ite, post_noexc, post_nil, bind_ok, fk_nx, fk_rt, fr_nx, fr_rt, lift_some, sto, stoT, wipeS, z_add, z_adds, z_addt, z_addl, z_sub, z_mul, z_mult, z_mull, z_fdiv, z_mod, z_eq, z_ne, z_eqi, z_eqb, z_eqs, z_eqn, z_lt, z_le, z_gt, z_ge, z_is0, z_is1, z_is2, z_is3, z_is4, z_is5, z_in0, z_in1, z_in2, z_in3, z_in4, z_in5, z_inl, z_int, z_nil, z_nit, z_t0, z_t1, z_t2, z_t3, z_t4, z_t5, z_tr, z_isb, z_isb1, z_isb2, z_isb3, z_isb4, z_isb5, z_addb, z_subb, z_nsb, z_rvt, z_rvl, z_stp, z_srl, z_srt, z_sti, z_stb, z_shl, z_ixt, z_ixl, z_ixr, z_slt, z_sll, z_lent, z_lenl, z_lenr, z_suml, z_sumt, z_maxl, z_maxt, z_minl, z_bi, z_bb, z_tul, z_tut, z_tur, z_lil, z_lit, z_all, z_max2, z_min2, z_kt, z_kl, z_cot, z_col, z_da, z_ds0, z_ds1, z_sql, z_sqt, z_isLr, z_fn, z_fb, z_fi, z_fs, sn_0, sn_1, sn_2, sn_3, sn_4, sn_5, sn_6, sn_7, sn_8, sn_9, sn_10, sn_11, sn_12, sn_13, sn_14, sn_15, sn_16, sn_17, sn_18, sn_19]
    simp only [q_may_fall5, post_cons]
    simp [ex, xB_eq, ev, evs, evb, evt, evo, evi, evf, tst, K.val, Bz.isi, isOwn, post_bind, post_ok, post_lift, post_ite, post_noexc, post_nil, bind_ok, fk_nx, fk_rt, fr_nx, fr_rt, lift_some, sto, stoT, wipeS, z_add, z_adds, z_addt, z_addl, z_sub, z_mul, z_mult, z_mull, z_fdiv, z_mod, z_eq, z_ne, z_eqi, z_eqb, z_eqs, z_eqn, z_lt, z_le, z_gt, z_ge, z_is0, z_is1, z_is2, z_is3, z_is4, z_is5, z_in0, z_in1, z_in2, z_in3, z_in4, z_in5, z_inl, z_int, z_nil, z_nit, z_t0, z_t1, z_t2, z_t3, z_t4, z_t5, z_tr, z_isb, z_isb1, z_isb2, z_isb3, z_isb4, z_isb5, z_addb, z_subb, z_nsb, z_rvt, z_rvl, z_stp, z_srl, z_srt, z_sti, z_stb, z_shl, z_ixt, z_ixl, z_ixr, z_slt, z_sll, z_lent, z_lenl, z_lenr, z_suml, z_sumt, z_maxl, z_maxt, z_minl, z_bi, z_bb, z_tul, z_tut, z_tur, z_lil, z_lit, z_all, z_max2, z_min2, z_kt, z_kl, z_cot, z_col, z_da, z_ds0, z_ds1, z_sql, z_sqt, z_isLr, z_fn, z_fb, z_fi, z_fs, sn_0, sn_1, sn_2, sn_3, sn_4, sn_5, sn_6, sn_7, sn_8, sn_9, sn_10, sn_11, sn_12, sn_13, sn_14, sn_15, sn_16, sn_17, sn_18, sn_19, z_eqi, h1]
    by_cases h2 : p.free = 2 <;> by_cases h3 : p.on < f
    · simp only [q_may_fall4, post_cons]
      simp [ex, xB_eq, ev, evs, evb, evt, evo, evi, evf, tst, K.val, Bz.isi, isOwn, post_bind, post_ok, post_lift, post_ite, post_noexc, post_nil, bind_ok, fk_nx, fk_rt, fr_nx, fr_rt, lift_some, sto, stoT, wipeS, z_add, z_adds, z_addt, z_addl, z_sub, z_mul, z_mult, z_mull, z_fdiv, z_mod, z_eq, z_ne, z_eqi, z_eqb, z_eqs, z_eqn, z_lt, z_le, z_gt, z_ge, z_is0, z_is1, z_is2, z_is3, z_is4, z_is5, z_in0, z_in1, z_in2, z_in3, z_in4, z_in5, z_inl, z_int, z_nil, z_nit, z_t0, z_t1, z_t2, z_t3, z_t4, z_t5, z_tr, z_isb, z_isb1, z_isb2, z_isb3, z_isb4, z_isb5, z_addb, z_subb, z_nsb, z_rvt, z_rvl, z_stp, z_srl, z_srt, z_sti, z_stb, z_shl, z_ixt, z_ixl, z_ixr, z_slt, z_sll, z_lent, z_lenl, z_lenr, z_suml, z_sumt, z_maxl, z_maxt, z_minl, z_bi, z_bb, z_tul, z_tut, z_tur, z_lil, z_lit, z_all, z_max2, z_min2, z_kt, z_kl, z_cot, z_col, z_da, z_ds0, z_ds1, z_sql, z_sqt, z_isLr, z_fn, z_fb, z_fi, z_fs, sn_0, sn_1, sn_2, sn_3, sn_4, sn_5, sn_6, sn_7, sn_8, sn_9, sn_10, sn_11, sn_12, sn_13, sn_14, sn_15, sn_16, sn_17, sn_18, sn_19, z_eqi, h2, h3]
      simp only [q_may_fall2, post_cons]
      simp [ex, xB_eq, ev, evs, evb, evt, evo, evi, evf, tst, K.val, Bz.isi, isOwn, post_bind, post_ok, post_lift, post_ite, post_noexc, post_nil, bind_ok, fk_nx, fk_rt, fr_nx, fr_rt, lift_some, sto, stoT, wipeS, z_add, z_adds, z_addt, z_addl, z_sub, z_mul, z_mult, z_mull, z_fdiv, z_mod, z_eq, z_ne, z_eqi, z_eqb, z_eqs, z_eqn, z_lt, z_le, z_gt, z_ge, z_is0, z_is1, z_is2, z_is3, z_is4, z_is5, z_in0, z_in1, z_in2, z_in3, z_in4, z_in5, z_inl, z_int, z_nil, z_nit, z_t0, z_t1, z_t2, z_t3, z_t4, z_t5, z_tr, z_isb, z_isb1, z_isb2, z_isb3, z_isb4, z_isb5, z_addb, z_subb, z_nsb, z_rvt, z_rvl, z_stp, z_srl, z_srt, z_sti, z_stb, z_shl, z_ixt, z_ixl, z_ixr, z_slt, z_sll, z_lent, z_lenl, z_lenr, z_suml, z_sumt, z_maxl, z_maxt, z_minl, z_bi, z_bb, z_tul, z_tut, z_tur, z_lil, z_lit, z_all, z_max2, z_min2, z_kt, z_kl, z_cot, z_col, z_da, z_ds0, z_ds1, z_sql, z_sqt, z_isLr, z_fn, z_fb, z_fi, z_fs, sn_0, sn_1, sn_2, sn_3, sn_4, sn_5, sn_6, sn_7, sn_8, sn_9, sn_10, sn_11, sn_12, sn_13, sn_14, sn_15, sn_16, sn_17, sn_18, sn_19]
    · simp only [q_may_fall4, post_cons]
      simp [ex, xB_eq, ev, evs, evb, evt, evo, evi, evf, tst, K.val, Bz.isi, isOwn, post_bind, post_ok, post_lift, post_ite, post_noexc, post_nil, bind_ok, fk_nx, fk_rt, fr_nx, fr_rt, lift_some, sto, stoT, wipeS, z_add, z_adds, z_addt, z_addl, z_sub, z_mul, z_mult, z_mull, z_fdiv, z_mod, z_eq, z_ne, z_eqi, z_eqb, z_eqs, z_eqn, z_lt, z_le, z_gt, z_ge, z_is0, z_is1, z_is2, z_is3, z_is4, z_is5, z_in0, z_in1, z_in2, z_in3, z_in4, z_in5, z_inl, z_int, z_nil, z_nit, z_t0, z_t1, z_t2, z_t3, z_t4, z_t5, z_tr, z_isb, z_isb1, z_isb2, z_isb3, z_isb4, z_isb5, z_addb, z_subb, z_nsb, z_rvt, z_rvl, z_stp, z_srl, z_srt, z_sti, z_stb, z_shl, z_ixt, z_ixl, z_ixr, z_slt, z_sll, z_lent, z_lenl, z_lenr, z_suml, z_sumt, z_maxl, z_maxt, z_minl, z_bi, z_bb, z_tul, z_tut, z_tur, z_lil, z_lit, z_all, z_max2, z_min2, z_kt, z_kl, z_cot, z_col, z_da, z_ds0, z_ds1, z_sql, z_sqt, z_isLr, z_fn, z_fb, z_fi, z_fs, sn_0, sn_1, sn_2, sn_3, sn_4, sn_5, sn_6, sn_7, sn_8, sn_9, sn_10, sn_11, sn_12, sn_13, sn_14, sn_15, sn_16, sn_17, sn_18, sn_19, z_eqi, h2, h3]
      simp only [q_may_fall3, post_cons]
      simp [ex, xB_eq, ev, evs, evb, evt, evo, evi, evf, tst, K.val, Bz.isi, isOwn, post_bind, post_ok, post_lift, post_ite, post_noexc, post_nil, bind_ok, fk_nx, fk_rt, fr_nx, fr_rt, lift_some, sto, stoT, wipeS, z_add, z_adds, z_addt, z_addl, z_sub, z_mul, z_mult, z_mull, z_fdiv, z_mod, z_eq, z_ne, z_eqi, z_eqb, z_eqs, z_eqn, z_lt, z_le, z_gt, z_ge, z_is0, z_is1, z_is2, z_is3, z_is4, z_is5, z_in0, z_in1, z_in2, z_in3, z_in4, z_in5, z_inl, z_int, z_nil, z_nit, z_t0, z_t1, z_t2, z_t3, z_t4, z_t5, z_tr, z_isb, z_isb1, z_isb2, z_isb3, z_isb4, z_isb5, z_addb, z_subb, z_nsb, z_rvt, z_rvl, z_stp, z_srl, z_srt, z_sti, z_stb, z_shl, z_ixt, z_ixl, z_ixr, z_slt, z_sll, z_lent, z_lenl, z_lenr, z_suml, z_sumt, z_maxl, z_maxt, z_minl, z_bi, z_bb, z_tul, z_tut, z_tur, z_lil, z_lit, z_all, z_max2, z_min2, z_kt, z_kl, z_cot, z_col, z_da, z_ds0, z_ds1, z_sql, z_sqt, z_isLr, z_fn, z_fb, z_fi, z_fs, sn_0, sn_1, sn_2, sn_3, sn_4, sn_5, sn_6, sn_7, sn_8, sn_9, sn_10, sn_11, sn_12, sn_13, sn_14, sn_15, sn_16, sn_17, sn_18, sn_19]
    · simp only [q_may_fall4, post_cons]
      simp [ex, xB_eq, ev, evs, evb, evt, evo, evi, evf, tst, K.val, Bz.isi, isOwn, post_bind, post_ok, post_lift, post_ite, post_noexc, post_nil, bind_ok, fk_nx, fk_rt, fr_nx, fr_rt, lift_some, sto, stoT, wipeS, z_add, z_adds, z_addt, z_addl, z_sub, z_mul, z_mult, z_mull, z_fdiv, z_mod, z_eq, z_ne, z_eqi, z_eqb, z_eqs, z_eqn, z_lt, z_le, z_gt, z_ge, z_is0, z_is1, z_is2, z_is3, z_is4, z_is5, z_in0, z_in1, z_in2, z_in3, z_in4, z_in5, z_inl, z_int, z_nil, z_nit, z_t0, z_t1, z_t2, z_t3, z_t4, z_t5, z_tr, z_isb, z_isb1, z_isb2, z_isb3, z_isb4, z_isb5, z_addb, z_subb, z_nsb, z_rvt, z_rvl, z_stp, z_srl, z_srt, z_sti, z_stb, z_shl, z_ixt, z_ixl, z_ixr, z_slt, z_sll, z_lent, z_lenl, z_lenr, z_suml, z_sumt, z_maxl, z_maxt, z_minl, z_bi, z_bb, z_tul, z_tut, z_tur, z_lil, z_lit, z_all, z_max2, z_min2, z_kt, z_kl, z_cot, z_col, z_da, z_ds0, z_ds1, z_sql, z_sqt, z_isLr, z_fn, z_fb, z_fi, z_fs, sn_0, sn_1, sn_2, sn_3, sn_4, sn_5, sn_6, sn_7, sn_8, sn_9, sn_10, sn_11, sn_12, sn_13, sn_14, sn_15, sn_16, sn_17, sn_18, sn_19, z_eqi, h2, h3]
      simp only [q_may_fall3, post_cons]
      simp [ex, xB_eq, ev, evs, evb, evt, evo, evi, evf, tst, K.val, Bz.isi, isOwn, post_bind, post_ok, post_lift, post_ite, post_noexc, post_nil, bind_ok, fk_nx, fk_rt, fr_nx, fr_rt, lift_some, sto, stoT, wipeS, z_add, z_adds, z_addt, z_addl, z_sub, z_mul, z_mult, z_mull, z_fdiv, z_mod, z_eq, z_ne, z_eqi, z_eqb, z_eqs, z_eqn, z_lt, z_le, z_gt, z_ge, z_is0, z_is1, z_is2, z_is3, z_is4, z_is5, z_in0, z_in1, z_in2, z_in3, z_in4, z_in5, z_inl, z_int, z_nil, z_nit, z_t0, z_t1, z_t2, z_t3, z_t4, z_t5, z_tr, z_isb, z_isb1, z_isb2, z_isb3, z_isb4, z_isb5, z_addb, z_subb, z_nsb, z_rvt, z_rvl, z_stp, z_srl, z_srt, z_sti, z_stb, z_shl, z_ixt, z_ixl, z_ixr, z_slt, z_sll, z_lent, z_lenl, z_lenr, z_suml, z_sumt, z_maxl, z_maxt, z_minl, z_bi, z_bb, z_tul, z_tut, z_tur, z_lil, z_lit, z_all, z_max2, z_min2, z_kt, z_kl, z_cot, z_col, z_da, z_ds0, z_ds1, z_sql, z_sqt, z_isLr, z_fn, z_fb, z_fi, z_fs, sn_0, sn_1, sn_2, sn_3, sn_4, sn_5, sn_6, sn_7, sn_8, sn_9, sn_10, sn_11, sn_12, sn_13, sn_14, sn_15, sn_16, sn_17, sn_18, sn_19]
    · simp only [q_may_fall4, post_cons]
      simp [ex, xB_eq, ev, evs, evb, evt, evo, evi, evf, tst, K.val, Bz.isi, isOwn, post_bind, post_ok, post_lift, post_ite, post_noexc, post_nil, bind_ok, fk_nx, fk_rt, fr_nx, fr_rt, lift_some, sto, stoT, wipeS, z_add, z_adds, z_addt, z_addl, z_sub, z_mul, z_mult, z_mull, z_fdiv, z_mod, z_eq, z_ne, z_eqi, z_eqb, z_eqs, z_eqn, z_lt, z_le, z_gt, z_ge, z_is0, z_is1, z_is2, z_is3, z_is4, z_is5, z_in0, z_in1, z_in2, z_in3, z_in4, z_in5, z_inl, z_int, z_nil, z_nit, z_t0, z_t1, z_t2, z_t3, z_t4, z_t5, z_tr, z_isb, z_isb1, z_isb2, z_isb3, z_isb4, z_isb5, z_addb, z_subb, z_nsb, z_rvt, z_rvl, z_stp, z_srl, z_srt, z_sti, z_stb, z_shl, z_ixt, z_ixl, z_ixr, z_slt, z_sll, z_lent, z_lenl, z_lenr, z_suml, z_sumt, z_maxl, z_maxt, z_minl, z_bi, z_bb, z_tul, z_tut, z_tur, z_lil, z_lit, z_all, z_max2, z_min2, z_kt, z_kl, z_cot, z_col, z_da, z_ds0, z_ds1, z_sql, z_sqt, z_isLr, z_fn, z_fb, z_fi, z_fs, sn_0, sn_1, sn_2, sn_3, sn_4, sn_5, sn_6, sn_7, sn_8, sn_9, sn_10, sn_11, sn_12, sn_13, sn_14, sn_15, sn_16, sn_17, sn_18, sn_19, z_eqi, h2, h3]
      simp only [q_may_fall3, post_cons]
      simp [ex, xB_eq, ev, evs, evb, evt, evo, evi, evf, tst, K.val, Bz.isi, isOwn, post_bind, post_ok, post_lift, post_ite, post_noexc, post_nil, bind_ok, fk_nx, fk_rt, fr_nx, fr_rt, lift_some, sto, stoT, wipeS, z_add, z_adds, z_addt, z_addl, z_sub, z_mul, z_mult, z_mull, z_fdiv, z_mod, z_eq, z_ne, z_eqi, z_eqb, z_eqs, z_eqn, z_lt, z_le, z_gt, z_ge, z_is0, z_is1, z_is2, z_is3, z_is4, z_is5, z_in0, z_in1, z_in2, z_in3, z_in4, z_in5, z_inl, z_int, z_nil, z_nit, z_t0, z_t1, z_t2, z_t3, z_t4, z_t5, z_tr, z_isb, z_isb1, z_isb2, z_isb3, z_isb4, z_isb5, z_addb, z_subb, z_nsb, z_rvt, z_rvl, z_stp, z_srl, z_srt, z_sti, z_stb, z_shl, z_ixt, z_ixl, z_ixr, z_slt, z_sll, z_lent, z_lenl, z_lenr, z_suml, z_sumt, z_maxl, z_maxt, z_minl, z_bi, z_bb, z_tul, z_tut, z_tur, z_lil, z_lit, z_all, z_max2, z_min2, z_kt, z_kl, z_cot, z_col, z_da, z_ds0, z_ds1, z_sql, z_sqt, z_isLr, z_fn, z_fb, z_fi, z_fs, sn_0, sn_1, sn_2, sn_3, sn_4, sn_5, sn_6, sn_7, sn_8, sn_9, sn_10, sn_11, sn_12, sn_13, sn_14, sn_15, sn_16, sn_17, sn_18, sn_19]
theorem there_ok {k : Nat} {r : Va} {p : Pl} {f : Int} {ps : List Int} {off : Bool} {st : Stt} (hl : ps.length ≤ 1000) : rn Gm (k + 1) 15 [r, .d p.e, .d (stk f ps off)] st = .ok (.d (.bool (there p f ps))) st := by
  refine Post.eq ?_
  rw [run_at (d := ⟨12, 3, b_is_there⟩) rfl]
  rw [post_runB]
  refine ⟨rfl, ?_⟩
  have hz : ps.length + 1 ≤ szl := by unfold szl; omega
  have tail : ∀ bs : List Int, bs.length ≤ szl → Post (xB (rn Gm k) q_is_there2 [.v r, .v (.d (.tuple [.int p.up, .int p.on, .int p.reds, .int p.low, .tuple [.int p.p0, .int p.p1], .int p.free])), .v (.d (.tuple [.int f, .tuple (ps.map .int), .bool off])), .v (.d (.int p.up)), .v (.d (.int p.on)), .v (.d (.int p.reds)), .v (.d (.int p.low)), .v (.d (.tuple [.int p.p0, .int p.p1])), .v (.d (.int p.free)), .v (.d (.tuple (bs.map .int))), .non, .non] st) (Fr fun b t => b = .d (.bool (decide ((ps.count 1 : Int) ≤ p.reds) && bs.all fun x => decide (p.low ≤ x) || (decide (x = 1) && decide (0 < p.reds)))) ∧ t = st) := by
    intro bs hb
    by_cases h1 : (ps.count 1 : Int) ≤ p.reds
    · simp only [q_is_there2, post_cons]
      simp [ex, xB_eq, ev, evs, evb, evt, evo, evi, evf, tst, K.val, Bz.isi, isOwn, post_bind, post_ok, post_lift, post_ite, post_noexc, post_nil, bind_ok, fk_nx, fk_rt, fr_nx, fr_rt, lift_some, sto, stoT, wipeS, z_add, z_adds, z_addt, z_addl, z_sub, z_mul, z_mult, z_mull, z_fdiv, z_mod, z_eq, z_ne, z_eqi, z_eqb, z_eqs, z_eqn, z_lt, z_le, z_gt, z_ge, z_is0, z_is1, z_is2, z_is3, z_is4, z_is5, z_in0, z_in1, z_in2, z_in3, z_in4, z_in5, z_inl, z_int, z_nil, z_nit, z_t0, z_t1, z_t2, z_t3, z_t4, z_t5, z_tr, z_isb, z_isb1, z_isb2, z_isb3, z_isb4, z_isb5, z_addb, z_subb, z_nsb, z_rvt, z_rvl, z_stp, z_srl, z_srt, z_sti, z_stb, z_shl, z_ixt, z_ixl, z_ixr, z_slt, z_sll, z_lent, z_lenl, z_lenr, z_suml, z_sumt, z_maxl, z_maxt, z_minl, z_bi, z_bb, z_tul, z_tut, z_tur, z_lil, z_lit, z_all, z_max2, z_min2, z_kt, z_kl, z_cot, z_col, z_da, z_ds0, z_ds1, z_sql, z_sqt, z_isLr, z_fn, z_fb, z_fi, z_fs, sn_0, sn_1, sn_2, sn_3, sn_4, sn_5, sn_6, sn_7, sn_8, sn_9, sn_10, sn_11, sn_12, sn_13, sn_14, sn_15, sn_16, sn_17, sn_18, sn_19, L2.atI, L2.ixN, flats, ← List.countP_map, countP_ints, h1]
      rw [lc_map PyData.int (p := fun x => true) (f := fun x => .bool (decide (p.low ≤ x) || (decide (x = 1) && decide (0 < p.reds))))]
      rotate_left
      · simpa using hb
      · intro x hx
        refine ⟨_, rfl, by simp [ex, xB_eq, ev, evs, evb, evt, evo, evi, evf, tst, K.val, Bz.isi, isOwn, post_bind, post_ok, post_lift, post_ite, post_noexc, post_nil, bind_ok, fk_nx, fk_rt, fr_nx, fr_rt, lift_some, sto, stoT, wipeS, z_add, z_adds, z_addt, z_addl, z_sub, z_mul, z_mult, z_mull, z_fdiv, z_mod, z_eq, z_ne, z_eqi, z_eqb, z_eqs, z_eqn, z_lt, z_le, z_gt, z_ge, z_is0, z_is1, z_is2, z_is3, z_is4, z_is5, z_in0, z_in1, z_in2, z_in3, z_in4, z_in5, z_inl, z_int, z_nil, z_nit, z_t0, z_t1, z_t2, z_t3, z_t4, z_t5, z_tr, z_isb, z_isb1, z_isb2, z_isb3, z_isb4, z_isb5, z_addb, z_subb, z_nsb, z_rvt, z_rvl, z_stp, z_srl, z_srt, z_sti, z_stb, z_shl, z_ixt, z_ixl, z_ixr, z_slt, z_sll, z_lent, z_lenl, z_lenr, z_suml, z_sumt, z_maxl, z_maxt, z_minl, z_bi, z_bb, z_tul, z_tut, z_tur, z_lil, z_lit, z_all, z_max2, z_min2, z_kt, z_kl, z_cot, z_col, z_da, z_ds0, z_ds1, z_sql, z_sqt, z_isLr, z_fn, z_fb, z_fi, z_fs, sn_0, sn_1, sn_2, sn_3, sn_4, sn_5, sn_6, sn_7, sn_8, sn_9, sn_10, sn_11, sn_12, sn_13, sn_14, sn_15, sn_16, sn_17, sn_18, sn_19], fun _ => ?_⟩
        by_cases q1 : p.low ≤ x <;> by_cases q2 : x = 1 <;> by_cases q3 : 0 < p.reds <;> simp [ex, xB_eq, ev, evs, evb, evt, evo, evi, evf, tst, K.val, Bz.isi, isOwn, post_bind, post_ok, post_lift, post_ite, post_noexc, post_nil, bind_ok, fk_nx, fk_rt, fr_nx, fr_rt, lift_some, sto, stoT, wipeS, z_add, z_adds, z_addt, z_addl, z_sub, z_mul, z_mult, z_mull, z_fdiv, z_mod, z_eq, z_ne, z_eqi, z_eqb, z_eqs, z_eqn, z_lt, z_le, z_gt, z_ge, z_is0, z_is1, z_is2, z_is3, z_is4, z_is5, z_in0, z_in1, z_in2, z_in3, z_in4, z_in5, z_inl, z_int, z_nil, z_nit, z_t0, z_t1, z_t2, z_t3, z_t4, z_t5, z_tr, z_isb, z_isb1, z_isb2, z_isb3, z_isb4, z_isb5, z_addb, z_subb, z_nsb, z_rvt, z_rvl, z_stp, z_srl, z_srt, z_sti, z_stb, z_shl, z_ixt, z_ixl, z_ixr, z_slt, z_sll, z_lent, z_lenl, z_lenr, z_suml, z_sumt, z_maxl, z_maxt, z_minl, z_bi, z_bb, z_tul, z_tut, z_tur, z_lil, z_lit, z_all, z_max2, z_min2, z_kt, z_kl, z_cot, z_col, z_da, z_ds0, z_ds1, z_sql, z_sqt, z_isLr, z_fn, z_fb, z_fi, z_fs, sn_0, sn_1, sn_2, sn_3, sn_4, sn_5, sn_6, sn_7, sn_8, sn_9, sn_10, sn_11, sn_12, sn_13, sn_14, sn_15, sn_16, sn_17, sn_18, sn_19, q1, q2, q3, z_eqi]
      simp only [post_ok, List.nil_append, filt_t, z_all, bools_map, Option.map_some, List.all_map]
      exact ⟨_, rfl, rfl, trivial⟩
    · simp only [q_is_there2, post_cons]
      simp [ex, xB_eq, ev, evs, evb, evt, evo, evi, evf, tst, K.val, Bz.isi, isOwn, post_bind, post_ok, post_lift, post_ite, post_noexc, post_nil, bind_ok, fk_nx, fk_rt, fr_nx, fr_rt, lift_some, sto, stoT, wipeS, z_add, z_adds, z_addt, z_addl, z_sub, z_mul, z_mult, z_mull, z_fdiv, z_mod, z_eq, z_ne, z_eqi, z_eqb, z_eqs, z_eqn, z_lt, z_le, z_gt, z_ge, z_is0, z_is1, z_is2, z_is3, z_is4, z_is5, z_in0, z_in1, z_in2, z_in3, z_in4, z_in5, z_inl, z_int, z_nil, z_nit, z_t0, z_t1, z_t2, z_t3, z_t4, z_t5, z_tr, z_isb, z_isb1, z_isb2, z_isb3, z_isb4, z_isb5, z_addb, z_subb, z_nsb, z_rvt, z_rvl, z_stp, z_srl, z_srt, z_sti, z_stb, z_shl, z_ixt, z_ixl, z_ixr, z_slt, z_sll, z_lent, z_lenl, z_lenr, z_suml, z_sumt, z_maxl, z_maxt, z_minl, z_bi, z_bb, z_tul, z_tut, z_tur, z_lil, z_lit, z_all, z_max2, z_min2, z_kt, z_kl, z_cot, z_col, z_da, z_ds0, z_ds1, z_sql, z_sqt, z_isLr, z_fn, z_fb, z_fi, z_fs, sn_0, sn_1, sn_2, sn_3, sn_4, sn_5, sn_6, sn_7, sn_8, sn_9, sn_10, sn_11, sn_12, sn_13, sn_14, sn_15, sn_16, sn_17, sn_18, sn_19, L2.atI, L2.ixN, flats, ← List.countP_map, countP_ints, h1]
  unfold stk Pl.e
  by_cases h1 : 0 < f
  · have e : there p f ps = (decide ((ps.count 1 : Int) ≤ p.reds) && (ps ++ [f]).all fun x => decide (p.low ≤ x) || (decide (x = 1) && decide (0 < p.reds))) := by unfold there; rw [if_pos h1]
    have t := tail (ps ++ [f]) (by simpa using hz)
    rw [← e, List.map_append] at t
    simp only [b_is_there, post_cons]
    simp [ex, xB_eq, ev, evs, evb, evt, evo, evi, evf, tst, K.val, Bz.isi, isOwn, post_bind, post_ok, post_lift, post_ite, post_noexc, post_nil, bind_ok, fk_nx, fk_rt, fr_nx, fr_rt, lift_some, sto, stoT, wipeS, z_add, z_adds, z_addt, z_addl, z_sub, z_mul, z_mult, z_mull, z_fdiv, z_mod, z_eq, z_ne, z_eqi, z_eqb, z_eqs, z_eqn, z_lt, z_le, z_gt, z_ge, z_is0, z_is1, z_is2, z_is3, z_is4, z_is5, z_in0, z_in1, z_in2, z_in3, z_in4, z_in5, z_inl, z_int, z_nil, z_nit, z_t0, z_t1, z_t2, z_t3, z_t4, z_t5, z_tr, z_isb, z_isb1, z_isb2, z_isb3, z_isb4, z_isb5, z_addb, z_subb, z_nsb, z_rvt, z_rvl, z_stp, z_srl, z_srt, z_sti, z_stb, z_shl, z_ixt, z_ixl, z_ixr, z_slt, z_sll, z_lent, z_lenl, z_lenr, z_suml, z_sumt, z_maxl, z_maxt, z_minl, z_bi, z_bb, z_tul, z_tut, z_tur, z_lil, z_lit, z_all, z_max2, z_min2, z_kt, z_kl, z_cot, z_col, z_da, z_ds0, z_ds1, z_sql, z_sqt, z_isLr, z_fn, z_fb, z_fi, z_fs, sn_0, sn_1, sn_2, sn_3, sn_4, sn_5, sn_6, sn_7, sn_8, sn_9, sn_10, sn_11, sn_12, sn_13, sn_14, sn_15, sn_16, sn_17, sn_18, sn_19, L2.atI, L2.ixN]
    simp only [q_is_there4, post_cons]
    simp [ex, xB_eq, ev, evs, evb, evt, evo, evi, evf, tst, K.val, Bz.isi, isOwn, post_bind, post_ok, post_lift, post_ite, post_noexc, post_nil, bind_ok, fk_nx, fk_rt, fr_nx, fr_rt, lift_some, sto, stoT, wipeS, z_add, z_adds, z_addt, z_addl, z_sub, z_mul, z_mult, z_mull, z_fdiv, z_mod, z_eq, z_ne, z_eqi, z_eqb, z_eqs, z_eqn, z_lt, z_le, z_gt, z_ge, z_is0, z_is1, z_is2, z_is3, z_is4, z_is5, z_in0, z_in1, z_in2, z_in3, z_in4, z_in5, z_inl, z_int, z_nil, z_nit, z_t0, z_t1, z_t2, z_t3, z_t4, z_t5, z_tr, z_isb, z_isb1, z_isb2, z_isb3, z_isb4, z_isb5, z_addb, z_subb, z_nsb, z_rvt, z_rvl, z_stp, z_srl, z_srt, z_sti, z_stb, z_shl, z_ixt, z_ixl, z_ixr, z_slt, z_sll, z_lent, z_lenl, z_lenr, z_suml, z_sumt, z_maxl, z_maxt, z_minl, z_bi, z_bb, z_tul, z_tut, z_tur, z_lil, z_lit, z_all, z_max2, z_min2, z_kt, z_kl, z_cot, z_col, z_da, z_ds0, z_ds1, z_sql, z_sqt, z_isLr, z_fn, z_fb, z_fi, z_fs, sn_0, sn_1, sn_2, sn_3, sn_4, sn_5, sn_6, sn_7, sn_8, sn_9, sn_10, sn_11, sn_12, sn_13, sn_14, sn_15, sn_16, sn_17, sn_18, sn_19, L2.atI, L2.ixN]
    simp only [q_is_there3, post_cons]
    simp [ex, xB_eq, ev, evs, evb, evt, evo, evi, evf, tst, K.val, Bz.isi, isOwn, post_bind, post_ok, post_lift, post_ite, post_noexc, post_nil, bind_ok, fk_nx, fk_rt, fr_nx, fr_rt, lift_some, sto, stoT, wipeS, z_add, z_adds, z_addt, z_addl, z_sub, z_mul, z_mult, z_mull, z_fdiv, z_mod, z_eq, z_ne, z_eqi, z_eqb, z_eqs, z_eqn, z_lt, z_le, z_gt, z_ge, z_is0, z_is1, z_is2, z_is3, z_is4, z_is5, z_in0, z_in1, z_in2, z_in3, z_in4, z_in5, z_inl, z_int, z_nil, z_nit, z_t0, z_t1, z_t2, z_t3, z_t4, z_t5, z_tr, z_isb, z_isb1, z_isb2, z_isb3, z_isb4, z_isb5, z_addb, z_subb, z_nsb, z_rvt, z_rvl, z_stp, z_srl, z_srt, z_sti, z_stb, z_shl, z_ixt, z_ixl, z_ixr, z_slt, z_sll, z_lent, z_lenl, z_lenr, z_suml, z_sumt, z_maxl, z_maxt, z_minl, z_bi, z_bb, z_tul, z_tut, z_tur, z_lil, z_lit, z_all, z_max2, z_min2, z_kt, z_kl, z_cot, z_col, z_da, z_ds0, z_ds1, z_sql, z_sqt, z_isLr, z_fn, z_fb, z_fi, z_fs, sn_0, sn_1, sn_2, sn_3, sn_4, sn_5, sn_6, sn_7, sn_8, sn_9, sn_10, sn_11, sn_12, sn_13, sn_14, sn_15, sn_16, sn_17, sn_18, sn_19, L2.atI, L2.ixN, h1]
    simp only [q_is_there1, post_cons]
    simp [ex, xB_eq, ev, evs, evb, evt, evo, evi, evf, tst, K.val, Bz.isi, isOwn, post_bind, post_ok, post_lift, post_ite, post_noexc, post_nil, bind_ok, fk_nx, fk_rt, fr_nx, fr_rt, lift_some, sto, stoT, wipeS, z_add, z_adds, z_addt, z_addl, z_sub, z_mul, z_mult, z_mull, z_fdiv, z_mod, z_eq, z_ne, z_eqi, z_eqb, z_eqs, z_eqn, z_lt, z_le, z_gt, z_ge, z_is0, z_is1, z_is2, z_is3, z_is4, z_is5, z_in0, z_in1, z_in2, z_in3, z_in4, z_in5, z_inl, z_int, z_nil, z_nit, z_t0, z_t1, z_t2, z_t3, z_t4, z_t5, z_tr, z_isb, z_isb1, z_isb2, z_isb3, z_isb4, z_isb5, z_addb, z_subb, z_nsb, z_rvt, z_rvl, z_stp, z_srl, z_srt, z_sti, z_stb, z_shl, z_ixt, z_ixl, z_ixr, z_slt, z_sll, z_lent, z_lenl, z_lenr, z_suml, z_sumt, z_maxl, z_maxt, z_minl, z_bi, z_bb, z_tul, z_tut, z_tur, z_lil, z_lit, z_all, z_max2, z_min2, z_kt, z_kl, z_cot, z_col, z_da, z_ds0, z_ds1, z_sql, z_sqt, z_isLr, z_fn, z_fb, z_fi, z_fs, sn_0, sn_1, sn_2, sn_3, sn_4, sn_5, sn_6, sn_7, sn_8, sn_9, sn_10, sn_11, sn_12, sn_13, sn_14, sn_15, sn_16, sn_17, sn_18, sn_19, L2.atI, L2.ixN, h1, cut, HT.sIx, hz]
    exact t
  · have e : there p f ps = (decide ((ps.count 1 : Int) ≤ p.reds) && ps.all fun x => decide (p.low ≤ x) || (decide (x = 1) && decide (0 < p.reds))) := by unfold there; rw [if_neg h1, List.append_nil]
    have t := tail ps (by omega)
    rw [← e] at t
    simp only [b_is_there, post_cons]
    simp [ex, xB_eq, ev, evs, evb, evt, evo, evi, evf, tst, K.val, Bz.isi, isOwn, post_bind, post_ok, post_lift, post_ite, post_noexc, post_nil, bind_ok, fk_nx, fk_rt, fr_nx, fr_rt, lift_some, sto, stoT, wipeS, z_add, z_adds, z_addt, z_addl, z_sub, z_mul, z_mult, z_mull, z_fdiv, z_mod, z_eq, z_ne, z_eqi, z_eqb, z_eqs, z_eqn, z_lt, z_le, z_gt, z_ge, z_is0, z_is1, z_is2, z_is3, z_is4, z_is5, z_in0, z_in1, z_in2, z_in3, z_in4, z_in5, z_inl, z_int, z_nil, z_nit, z_t0, z_t1, z_t2, z_t3, z_t4, z_t5, z_tr, z_isb, z_isb1, z_isb2, z_isb3, z_isb4, z_isb5, z_addb, z_subb, z_nsb, z_rvt, z_rvl, z_stp, z_srl, z_srt, z_sti, z_stb, z_shl, z_ixt, z_ixl, z_ixr, z_slt, z_sll, z_lent, z_lenl, z_lenr, z_suml, z_sumt, z_maxl, z_maxt, z_minl, z_bi, z_bb, z_tul, z_tut, z_tur, z_lil, z_lit, z_all, z_max2, z_min2, z_kt, z_kl, z_cot, z_col, z_da, z_ds0, z_ds1, z_sql, z_sqt, z_isLr, z_fn, z_fb, z_fi, z_fs, sn_0, sn_1, sn_2, sn_3, sn_4, sn_5, sn_6, sn_7, sn_8, sn_9, sn_10, sn_11, sn_12, sn_13, sn_14, sn_15, sn_16, sn_17, sn_18, sn_19, L2.atI, L2.ixN]
    simp only [q_is_there4, post_cons]
    simp [ex, xB_eq, ev, evs, evb, evt, evo, evi, evf, tst, K.val, Bz.isi, isOwn, post_bind, post_ok, post_lift, post_ite, post_noexc, post_nil, bind_ok, fk_nx, fk_rt, fr_nx, fr_rt, lift_some, sto, stoT, wipeS, z_add, z_adds, z_addt, z_addl, z_sub, z_mul, z_mult, z_mull, z_fdiv, z_mod, z_eq, z_ne, z_eqi, z_eqb, z_eqs, z_eqn, z_lt, z_le, z_gt, z_ge, z_is0, z_is1, z_is2, z_is3, z_is4, z_is5, z_in0, z_in1, z_in2, z_in3, z_in4, z_in5, z_inl, z_int, z_nil, z_nit, z_t0, z_t1, z_t2, z_t3, z_t4, z_t5, z_tr, z_isb, z_isb1, z_isb2, z_isb3, z_isb4, z_isb5, z_addb, z_subb, z_nsb, z_rvt, z_rvl, z_stp, z_srl, z_srt, z_sti, z_stb, z_shl, z_ixt, z_ixl, z_ixr, z_slt, z_sll, z_lent, z_lenl, z_lenr, z_suml, z_sumt, z_maxl, z_maxt, z_minl, z_bi, z_bb, z_tul, z_tut, z_tur, z_lil, z_lit, z_all, z_max2, z_min2, z_kt, z_kl, z_cot, z_col, z_da, z_ds0, z_ds1, z_sql, z_sqt, z_isLr, z_fn, z_fb, z_fi, z_fs, sn_0, sn_1, sn_2, sn_3, sn_4, sn_5, sn_6, sn_7, sn_8, sn_9, sn_10, sn_11, sn_12, sn_13, sn_14, sn_15, sn_16, sn_17, sn_18, sn_19, L2.atI, L2.ixN]
    simp only [q_is_there3, post_cons]
    simp [ex, xB_eq, ev, evs, evb, evt, evo, evi, evf, tst, K.val, Bz.isi, isOwn, post_bind, post_ok, post_lift, post_ite, post_noexc, post_nil, bind_ok, fk_nx, fk_rt, fr_nx, fr_rt, lift_some, sto, stoT, wipeS, z_add, z_adds, z_addt, z_addl, z_sub, z_mul, z_mult, z_mull, z_fdiv, z_mod, z_eq, z_ne, z_eqi, z_eqb, z_eqs, z_eqn, z_lt, z_le, z_gt, z_ge, z_is0, z_is1, z_is2, z_is3, z_is4, z_is5, z_in0, z_in1, z_in2, z_in3, z_in4, z_in5, z_inl, z_int, z_nil, z_nit, z_t0, z_t1, z_t2, z_t3, z_t4, z_t5, z_tr, z_isb, z_isb1, z_isb2, z_isb3, z_isb4, z_isb5, z_addb, z_subb, z_nsb, z_rvt, z_rvl, z_stp, z_srl, z_srt, z_sti, z_stb, z_shl, z_ixt, z_ixl, z_ixr, z_slt, z_sll, z_lent, z_lenl, z_lenr, z_suml, z_sumt, z_maxl, z_maxt, z_minl, z_bi, z_bb, z_tul, z_tut, z_tur, z_lil, z_lit, z_all, z_max2, z_min2, z_kt, z_kl, z_cot, z_col, z_da, z_ds0, z_ds1, z_sql, z_sqt, z_isLr, z_fn, z_fb, z_fi, z_fs, sn_0, sn_1, sn_2, sn_3, sn_4, sn_5, sn_6, sn_7, sn_8, sn_9, sn_10, sn_11, sn_12, sn_13, sn_14, sn_15, sn_16, sn_17, sn_18, sn_19, L2.atI, L2.ixN, h1]
    exact t
theorem fair_ok {k : Nat} {p : Pl} {f : Int} {ps : List Int} {off : Bool} {st : Stt} (hl : ps.length ≤ 1000) : rn Gm (k + 2) 27 [.d p.e, .d (stk f ps off)] st = .ok (.d (.bool (fair p f ps off))) st := by
  refine Post.eqQ fun P hP => ?_
  rw [run_at (d := ⟨5, 2, b_is_fair⟩) rfl]
  rw [post_runB]
  refine ⟨rfl, ?_⟩
  unfold stk
  simp only [b_is_fair, post_cons]
  simp [ex, xB_eq, ev, evs, evb, evt, evo, evi, evf, tst, K.val, Bz.isi, isOwn, post_bind, post_ok, post_lift, post_ite, post_noexc, post_nil, bind_ok, fk_nx, fk_rt, fr_nx, fr_rt, lift_some, sto, stoT, wipeS, z_add, z_adds, z_addt, z_addl, z_sub, z_mul, z_mult, z_mull, z_fdiv, z_mod, z_eq, z_ne, z_eqi, z_eqb, z_eqs, z_eqn, z_lt, z_le, z_gt, z_ge, z_is0, z_is1, z_is2, z_is3, z_is4, z_is5, z_in0, z_in1, z_in2, z_in3, z_in4, z_in5, z_inl, z_int, z_nil, z_nit, z_t0, z_t1, z_t2, z_t3, z_t4, z_t5, z_tr, z_isb, z_isb1, z_isb2, z_isb3, z_isb4, z_isb5, z_addb, z_subb, z_nsb, z_rvt, z_rvl, z_stp, z_srl, z_srt, z_sti, z_stb, z_shl, z_ixt, z_ixl, z_ixr, z_slt, z_sll, z_lent, z_lenl, z_lenr, z_suml, z_sumt, z_maxl, z_maxt, z_minl, z_bi, z_bb, z_tul, z_tut, z_tur, z_lil, z_lit, z_all, z_max2, z_min2, z_kt, z_kl, z_cot, z_col, z_da, z_ds0, z_ds1, z_sql, z_sqt, z_isLr, z_fn, z_fb, z_fi, z_fs, sn_0, sn_1, sn_2, sn_3, sn_4, sn_5, sn_6, sn_7, sn_8, sn_9, sn_10, sn_11, sn_12, sn_13, sn_14, sn_15, sn_16, sn_17, sn_18, sn_19, L2.atI, L2.ixN, mayf_ok]
  have hz : ps.length ≤ szl := by unfold szl; omega
  cases off with
  | true =>
    have e : fair p f ps true = false := by simp [fair]
    rw [e] at hP
    simp only [q_is_fair1, post_cons]
    simp [ex, xB_eq, ev, evs, evb, evt, evo, evi, evf, tst, K.val, Bz.isi, isOwn, post_bind, post_ok, post_lift, post_ite, post_noexc, post_nil, bind_ok, fk_nx, fk_rt, fr_nx, fr_rt, lift_some, sto, stoT, wipeS, z_add, z_adds, z_addt, z_addl, z_sub, z_mul, z_mult, z_mull, z_fdiv, z_mod, z_eq, z_ne, z_eqi, z_eqb, z_eqs, z_eqn, z_lt, z_le, z_gt, z_ge, z_is0, z_is1, z_is2, z_is3, z_is4, z_is5, z_in0, z_in1, z_in2, z_in3, z_in4, z_in5, z_inl, z_int, z_nil, z_nit, z_t0, z_t1, z_t2, z_t3, z_t4, z_t5, z_tr, z_isb, z_isb1, z_isb2, z_isb3, z_isb4, z_isb5, z_addb, z_subb, z_nsb, z_rvt, z_rvl, z_stp, z_srl, z_srt, z_sti, z_stb, z_shl, z_ixt, z_ixl, z_ixr, z_slt, z_sll, z_lent, z_lenl, z_lenr, z_suml, z_sumt, z_maxl, z_maxt, z_minl, z_bi, z_bb, z_tul, z_tut, z_tur, z_lil, z_lit, z_all, z_max2, z_min2, z_kt, z_kl, z_cot, z_col, z_da, z_ds0, z_ds1, z_sql, z_sqt, z_isLr, z_fn, z_fb, z_fi, z_fs, sn_0, sn_1, sn_2, sn_3, sn_4, sn_5, sn_6, sn_7, sn_8, sn_9, sn_10, sn_11, sn_12, sn_13, sn_14, sn_15, sn_16, sn_17, sn_18, sn_19, L2.atI, L2.ixN]
    exact hP
  | false =>
    by_cases h2 : f ∈ canF p f
    · have e : fair p f ps false = ps.all fun x => decide (x ∈ canF p f) := by simp [fair, h2]
      rw [e] at hP
      simp only [q_is_fair1, post_cons]
      simp [ex, xB_eq, ev, evs, evb, evt, evo, evi, evf, tst, K.val, Bz.isi, isOwn, post_bind, post_ok, post_lift, post_ite, post_noexc, post_nil, bind_ok, fk_nx, fk_rt, fr_nx, fr_rt, lift_some, sto, stoT, wipeS, z_add, z_adds, z_addt, z_addl, z_sub, z_mul, z_mult, z_mull, z_fdiv, z_mod, z_eq, z_ne, z_eqi, z_eqb, z_eqs, z_eqn, z_lt, z_le, z_gt, z_ge, z_is0, z_is1, z_is2, z_is3, z_is4, z_is5, z_in0, z_in1, z_in2, z_in3, z_in4, z_in5, z_inl, z_int, z_nil, z_nit, z_t0, z_t1, z_t2, z_t3, z_t4, z_t5, z_tr, z_isb, z_isb1, z_isb2, z_isb3, z_isb4, z_isb5, z_addb, z_subb, z_nsb, z_rvt, z_rvl, z_stp, z_srl, z_srt, z_sti, z_stb, z_shl, z_ixt, z_ixl, z_ixr, z_slt, z_sll, z_lent, z_lenl, z_lenr, z_suml, z_sumt, z_maxl, z_maxt, z_minl, z_bi, z_bb, z_tul, z_tut, z_tur, z_lil, z_lit, z_all, z_max2, z_min2, z_kt, z_kl, z_cot, z_col, z_da, z_ds0, z_ds1, z_sql, z_sqt, z_isLr, z_fn, z_fb, z_fi, z_fs, sn_0, sn_1, sn_2, sn_3, sn_4, sn_5, sn_6, sn_7, sn_8, sn_9, sn_10, sn_11, sn_12, sn_13, sn_14, sn_15, sn_16, sn_17, sn_18, sn_19, L2.atI, L2.ixN, inD_ints, h2, flats]
      rw [lc_map PyData.int (p := fun x => true) (f := fun x => .bool (decide (x ∈ canF p f)))]
      rotate_left
      · simpa using hz
      · intro x hx
        exact ⟨_, rfl, by simp [ex, xB_eq, ev, evs, evb, evt, evo, evi, evf, tst, K.val, Bz.isi, isOwn, post_bind, post_ok, post_lift, post_ite, post_noexc, post_nil, bind_ok, fk_nx, fk_rt, fr_nx, fr_rt, lift_some, sto, stoT, wipeS, z_add, z_adds, z_addt, z_addl, z_sub, z_mul, z_mult, z_mull, z_fdiv, z_mod, z_eq, z_ne, z_eqi, z_eqb, z_eqs, z_eqn, z_lt, z_le, z_gt, z_ge, z_is0, z_is1, z_is2, z_is3, z_is4, z_is5, z_in0, z_in1, z_in2, z_in3, z_in4, z_in5, z_inl, z_int, z_nil, z_nit, z_t0, z_t1, z_t2, z_t3, z_t4, z_t5, z_tr, z_isb, z_isb1, z_isb2, z_isb3, z_isb4, z_isb5, z_addb, z_subb, z_nsb, z_rvt, z_rvl, z_stp, z_srl, z_srt, z_sti, z_stb, z_shl, z_ixt, z_ixl, z_ixr, z_slt, z_sll, z_lent, z_lenl, z_lenr, z_suml, z_sumt, z_maxl, z_maxt, z_minl, z_bi, z_bb, z_tul, z_tut, z_tur, z_lil, z_lit, z_all, z_max2, z_min2, z_kt, z_kl, z_cot, z_col, z_da, z_ds0, z_ds1, z_sql, z_sqt, z_isLr, z_fn, z_fb, z_fi, z_fs, sn_0, sn_1, sn_2, sn_3, sn_4, sn_5, sn_6, sn_7, sn_8, sn_9, sn_10, sn_11, sn_12, sn_13, sn_14, sn_15, sn_16, sn_17, sn_18, sn_19], fun _ => by simp [ex, xB_eq, ev, evs, evb, evt, evo, evi, evf, tst, K.val, Bz.isi, isOwn, post_bind, post_ok, post_lift, post_ite, post_noexc, post_nil, bind_ok, fk_nx, fk_rt, fr_nx, fr_rt, lift_some, sto, stoT, wipeS, z_add, z_adds, z_addt, z_addl, z_sub, z_mul, z_mult, z_mull, z_fdiv, z_mod, z_eq, z_ne, z_eqi, z_eqb, z_eqs, z_eqn, z_lt, z_le, z_gt, z_ge, z_is0, z_is1, z_is2, z_is3, z_is4, z_is5, z_in0, z_in1, z_in2, z_in3, z_in4, z_in5, z_inl, z_int, z_nil, z_nit, z_t0, z_t1, z_t2, z_t3, z_t4, z_t5, z_tr, z_isb, z_isb1, z_isb2, z_isb3, z_isb4, z_isb5, z_addb, z_subb, z_nsb, z_rvt, z_rvl, z_stp, z_srl, z_srt, z_sti, z_stb, z_shl, z_ixt, z_ixl, z_ixr, z_slt, z_sll, z_lent, z_lenl, z_lenr, z_suml, z_sumt, z_maxl, z_maxt, z_minl, z_bi, z_bb, z_tul, z_tut, z_tur, z_lil, z_lit, z_all, z_max2, z_min2, z_kt, z_kl, z_cot, z_col, z_da, z_ds0, z_ds1, z_sql, z_sqt, z_isLr, z_fn, z_fb, z_fi, z_fs, sn_0, sn_1, sn_2, sn_3, sn_4, sn_5, sn_6, sn_7, sn_8, sn_9, sn_10, sn_11, sn_12, sn_13, sn_14, sn_15, sn_16, sn_17, sn_18, sn_19, inD_ints, flats]⟩
      simp only [post_ok, List.nil_append, filt_t, z_all, bools_map, Option.map_some, List.all_map]
      exact ⟨_, rfl, hP⟩
    · have e : fair p f ps false = false := by simp [fair, h2]
      rw [e] at hP
      simp only [q_is_fair1, post_cons]
      simp [ex, xB_eq, ev, evs, evb, evt, evo, evi, evf, tst, K.val, Bz.isi, isOwn, post_bind, post_ok, post_lift, post_ite, post_noexc, post_nil, bind_ok, fk_nx, fk_rt, fr_nx, fr_rt, lift_some, sto, stoT, wipeS, z_add, z_adds, z_addt, z_addl, z_sub, z_mul, z_mult, z_mull, z_fdiv, z_mod, z_eq, z_ne, z_eqi, z_eqb, z_eqs, z_eqn, z_lt, z_le, z_gt, z_ge, z_is0, z_is1, z_is2, z_is3, z_is4, z_is5, z_in0, z_in1, z_in2, z_in3, z_in4, z_in5, z_inl, z_int, z_nil, z_nit, z_t0, z_t1, z_t2, z_t3, z_t4, z_t5, z_tr, z_isb, z_isb1, z_isb2, z_isb3, z_isb4, z_isb5, z_addb, z_subb, z_nsb, z_rvt, z_rvl, z_stp, z_srl, z_srt, z_sti, z_stb, z_shl, z_ixt, z_ixl, z_ixr, z_slt, z_sll, z_lent, z_lenl, z_lenr, z_suml, z_sumt, z_maxl, z_maxt, z_minl, z_bi, z_bb, z_tul, z_tut, z_tur, z_lil, z_lit, z_all, z_max2, z_min2, z_kt, z_kl, z_cot, z_col, z_da, z_ds0, z_ds1, z_sql, z_sqt, z_isLr, z_fn, z_fb, z_fi, z_fs, sn_0, sn_1, sn_2, sn_3, sn_4, sn_5, sn_6, sn_7, sn_8, sn_9, sn_10, sn_11, sn_12, sn_13, sn_14, sn_15, sn_16, sn_17, sn_18, sn_19, L2.atI, L2.ixN, inD_ints, h2, flats]
      exact hP
theorem points_ok {k : Nat} {p : Pl} {f : Int} {ps : List Int} {off : Bool} {st : Stt} (hl : ps.length ≤ 1000) : rn Gm (k + 3) 28 [.d p.e, .d (stk f ps off)] st = .ok (.d (.int (pts p f ps off))) st := by
  refine Post.eqQ fun P hP => ?_
  rw [run_at (d := ⟨2, 2, b_points_of⟩) rfl]
  rw [post_runB]
  refine ⟨rfl, ?_⟩
  have hpe : L2.atI [PyData.int p.up, .int p.on, .int p.reds, .int p.low, .tuple [.int p.p0, .int p.p1], .int p.free] 1 = some (.int p.on) := rfl
  have hse : L2.atI [PyData.int f, .tuple (ps.map .int), .bool off] 1 = some (.tuple (ps.map .int)) := rfl
  unfold pts at hP
  by_cases hf : fair p f ps off = true
  · rw [if_pos hf] at hP
    simp only [b_points_of, post_cons]
    simp [ex, xB_eq, ev, evs, evb, evt, evo, evi, evf, tst, K.val, Bz.isi, isOwn, post_bind, post_ok, post_lift, post_ite, post_noexc, post_nil, bind_ok, fk_nx, fk_rt, fr_nx, fr_rt, lift_some, sto, stoT, wipeS, z_add, z_adds, z_addt, z_addl, z_sub, z_mul, z_mult, z_mull, z_fdiv, z_mod, z_eq, z_ne, z_eqi, z_eqb, z_eqs, z_eqn, z_lt, z_le, z_gt, z_ge, z_is0, z_is1, z_is2, z_is3, z_is4, z_is5, z_in0, z_in1, z_in2, z_in3, z_in4, z_in5, z_inl, z_int, z_nil, z_nit, z_t0, z_t1, z_t2, z_t3, z_t4, z_t5, z_tr, z_isb, z_isb1, z_isb2, z_isb3, z_isb4, z_isb5, z_addb, z_subb, z_nsb, z_rvt, z_rvl, z_stp, z_srl, z_srt, z_sti, z_stb, z_shl, z_ixt, z_ixl, z_ixr, z_slt, z_sll, z_lent, z_lenl, z_lenr, z_suml, z_sumt, z_maxl, z_maxt, z_minl, z_bi, z_bb, z_tul, z_tut, z_tur, z_lil, z_lit, z_all, z_max2, z_min2, z_kt, z_kl, z_cot, z_col, z_da, z_ds0, z_ds1, z_sql, z_sqt, z_isLr, z_fn, z_fb, z_fi, z_fs, sn_0, sn_1, sn_2, sn_3, sn_4, sn_5, sn_6, sn_7, sn_8, sn_9, sn_10, sn_11, sn_12, sn_13, sn_14, sn_15, sn_16, sn_17, sn_18, sn_19, fair_ok hl, hf]
    unfold Pl.e stk
    by_cases h1 : p.on = 1
    · rw [if_pos h1] at hP
      simp only [q_points_of6, post_cons]
      simp [ex, xB_eq, ev, evs, evb, evt, evo, evi, evf, tst, K.val, Bz.isi, isOwn, post_bind, post_ok, post_lift, post_ite, post_noexc, post_nil, bind_ok, fk_nx, fk_rt, fr_nx, fr_rt, lift_some, sto, stoT, wipeS, z_add, z_adds, z_addt, z_addl, z_sub, z_mul, z_mult, z_mull, z_fdiv, z_mod, z_eq, z_ne, z_eqi, z_eqb, z_eqs, z_eqn, z_lt, z_le, z_gt, z_ge, z_is0, z_is1, z_is2, z_is3, z_is4, z_is5, z_in0, z_in1, z_in2, z_in3, z_in4, z_in5, z_inl, z_int, z_nil, z_nit, z_t0, z_t1, z_t2, z_t3, z_t4, z_t5, z_tr, z_isb, z_isb1, z_isb2, z_isb3, z_isb4, z_isb5, z_addb, z_subb, z_nsb, z_rvt, z_rvl, z_stp, z_srl, z_srt, z_sti, z_stb, z_shl, z_ixt, z_ixl, z_ixr, z_slt, z_sll, z_lent, z_lenl, z_lenr, z_suml, z_sumt, z_maxl, z_maxt, z_minl, z_bi, z_bb, z_tul, z_tut, z_tur, z_lil, z_lit, z_all, z_max2, z_min2, z_kt, z_kl, z_cot, z_col, z_da, z_ds0, z_ds1, z_sql, z_sqt, z_isLr, z_fn, z_fb, z_fi, z_fs, sn_0, sn_1, sn_2, sn_3, sn_4, sn_5, sn_6, sn_7, sn_8, sn_9, sn_10, sn_11, sn_12, sn_13, sn_14, sn_15, sn_16, sn_17, sn_18, sn_19, L2.atI, L2.ixN, z_eqi, h1]
      simp only [q_points_of2, post_cons]
      simp [ex, xB_eq, ev, evs, evb, evt, evo, evi, evf, tst, K.val, Bz.isi, isOwn, post_bind, post_ok, post_lift, post_ite, post_noexc, post_nil, bind_ok, fk_nx, fk_rt, fr_nx, fr_rt, lift_some, sto, stoT, wipeS, z_add, z_adds, z_addt, z_addl, z_sub, z_mul, z_mult, z_mull, z_fdiv, z_mod, z_eq, z_ne, z_eqi, z_eqb, z_eqs, z_eqn, z_lt, z_le, z_gt, z_ge, z_is0, z_is1, z_is2, z_is3, z_is4, z_is5, z_in0, z_in1, z_in2, z_in3, z_in4, z_in5, z_inl, z_int, z_nil, z_nit, z_t0, z_t1, z_t2, z_t3, z_t4, z_t5, z_tr, z_isb, z_isb1, z_isb2, z_isb3, z_isb4, z_isb5, z_addb, z_subb, z_nsb, z_rvt, z_rvl, z_stp, z_srl, z_srt, z_sti, z_stb, z_shl, z_ixt, z_ixl, z_ixr, z_slt, z_sll, z_lent, z_lenl, z_lenr, z_suml, z_sumt, z_maxl, z_maxt, z_minl, z_bi, z_bb, z_tul, z_tut, z_tur, z_lil, z_lit, z_all, z_max2, z_min2, z_kt, z_kl, z_cot, z_col, z_da, z_ds0, z_ds1, z_sql, z_sqt, z_isLr, z_fn, z_fb, z_fi, z_fs, sn_0, sn_1, sn_2, sn_3, sn_4, sn_5, sn_6, sn_7, sn_8, sn_9, sn_10, sn_11, sn_12, sn_13, sn_14, sn_15, sn_16, sn_17, sn_18, sn_19, L2.atI, L2.ixN]
      exact hP
    · rw [if_neg h1] at hP
      simp only [q_points_of6, post_cons]
      simp [ex, xB_eq, ev, evs, evb, evt, evo, evi, evf, tst, K.val, Bz.isi, isOwn, post_bind, post_ok, post_lift, post_ite, post_noexc, post_nil, bind_ok, fk_nx, fk_rt, fr_nx, fr_rt, lift_some, sto, stoT, wipeS, z_add, z_adds, z_addt, z_addl, z_sub, z_mul, z_mult, z_mull, z_fdiv, z_mod, z_eq, z_ne, z_eqi, z_eqb, z_eqs, z_eqn, z_lt, z_le, z_gt, z_ge, z_is0, z_is1, z_is2, z_is3, z_is4, z_is5, z_in0, z_in1, z_in2, z_in3, z_in4, z_in5, z_inl, z_int, z_nil, z_nit, z_t0, z_t1, z_t2, z_t3, z_t4, z_t5, z_tr, z_isb, z_isb1, z_isb2, z_isb3, z_isb4, z_isb5, z_addb, z_subb, z_nsb, z_rvt, z_rvl, z_stp, z_srl, z_srt, z_sti, z_stb, z_shl, z_ixt, z_ixl, z_ixr, z_slt, z_sll, z_lent, z_lenl, z_lenr, z_suml, z_sumt, z_maxl, z_maxt, z_minl, z_bi, z_bb, z_tul, z_tut, z_tur, z_lil, z_lit, z_all, z_max2, z_min2, z_kt, z_kl, z_cot, z_col, z_da, z_ds0, z_ds1, z_sql, z_sqt, z_isLr, z_fn, z_fb, z_fi, z_fs, sn_0, sn_1, sn_2, sn_3, sn_4, sn_5, sn_6, sn_7, sn_8, sn_9, sn_10, sn_11, sn_12, sn_13, sn_14, sn_15, sn_16, sn_17, sn_18, sn_19, L2.atI, L2.ixN, z_eqi, h1]
      by_cases h0 : p.on = 0
      · rw [if_pos h0] at hP
        simp only [q_points_of5, post_cons]
        simp [ex, xB_eq, ev, evs, evb, evt, evo, evi, evf, tst, K.val, Bz.isi, isOwn, post_bind, post_ok, post_lift, post_ite, post_noexc, post_nil, bind_ok, fk_nx, fk_rt, fr_nx, fr_rt, lift_some, sto, stoT, wipeS, z_add, z_adds, z_addt, z_addl, z_sub, z_mul, z_mult, z_mull, z_fdiv, z_mod, z_eq, z_ne, z_eqi, z_eqb, z_eqs, z_eqn, z_lt, z_le, z_gt, z_ge, z_is0, z_is1, z_is2, z_is3, z_is4, z_is5, z_in0, z_in1, z_in2, z_in3, z_in4, z_in5, z_inl, z_int, z_nil, z_nit, z_t0, z_t1, z_t2, z_t3, z_t4, z_t5, z_tr, z_isb, z_isb1, z_isb2, z_isb3, z_isb4, z_isb5, z_addb, z_subb, z_nsb, z_rvt, z_rvl, z_stp, z_srl, z_srt, z_sti, z_stb, z_shl, z_ixt, z_ixl, z_ixr, z_slt, z_sll, z_lent, z_lenl, z_lenr, z_suml, z_sumt, z_maxl, z_maxt, z_minl, z_bi, z_bb, z_tul, z_tut, z_tur, z_lil, z_lit, z_all, z_max2, z_min2, z_kt, z_kl, z_cot, z_col, z_da, z_ds0, z_ds1, z_sql, z_sqt, z_isLr, z_fn, z_fb, z_fi, z_fs, sn_0, sn_1, sn_2, sn_3, sn_4, sn_5, sn_6, sn_7, sn_8, sn_9, sn_10, sn_11, sn_12, sn_13, sn_14, sn_15, sn_16, sn_17, sn_18, sn_19, L2.atI, L2.ixN, z_eqi, h0]
        simp only [q_points_of3, post_cons]
        simp [ex, xB_eq, ev, evs, evb, evt, evo, evi, evf, tst, K.val, Bz.isi, isOwn, post_bind, post_ok, post_lift, post_ite, post_noexc, post_nil, bind_ok, fk_nx, fk_rt, fr_nx, fr_rt, lift_some, sto, stoT, wipeS, z_add, z_adds, z_addt, z_addl, z_sub, z_mul, z_mult, z_mull, z_fdiv, z_mod, z_eq, z_ne, z_eqi, z_eqb, z_eqs, z_eqn, z_lt, z_le, z_gt, z_ge, z_is0, z_is1, z_is2, z_is3, z_is4, z_is5, z_in0, z_in1, z_in2, z_in3, z_in4, z_in5, z_inl, z_int, z_nil, z_nit, z_t0, z_t1, z_t2, z_t3, z_t4, z_t5, z_tr, z_isb, z_isb1, z_isb2, z_isb3, z_isb4, z_isb5, z_addb, z_subb, z_nsb, z_rvt, z_rvl, z_stp, z_srl, z_srt, z_sti, z_stb, z_shl, z_ixt, z_ixl, z_ixr, z_slt, z_sll, z_lent, z_lenl, z_lenr, z_suml, z_sumt, z_maxl, z_maxt, z_minl, z_bi, z_bb, z_tul, z_tut, z_tur, z_lil, z_lit, z_all, z_max2, z_min2, z_kt, z_kl, z_cot, z_col, z_da, z_ds0, z_ds1, z_sql, z_sqt, z_isLr, z_fn, z_fb, z_fi, z_fs, sn_0, sn_1, sn_2, sn_3, sn_4, sn_5, sn_6, sn_7, sn_8, sn_9, sn_10, sn_11, sn_12, sn_13, sn_14, sn_15, sn_16, sn_17, sn_18, sn_19, L2.atI, L2.ixN, ints_map]
        exact hP
      · rw [if_neg h0] at hP
        simp only [q_points_of5, post_cons]
        simp [ex, xB_eq, ev, evs, evb, evt, evo, evi, evf, tst, K.val, Bz.isi, isOwn, post_bind, post_ok, post_lift, post_ite, post_noexc, post_nil, bind_ok, fk_nx, fk_rt, fr_nx, fr_rt, lift_some, sto, stoT, wipeS, z_add, z_adds, z_addt, z_addl, z_sub, z_mul, z_mult, z_mull, z_fdiv, z_mod, z_eq, z_ne, z_eqi, z_eqb, z_eqs, z_eqn, z_lt, z_le, z_gt, z_ge, z_is0, z_is1, z_is2, z_is3, z_is4, z_is5, z_in0, z_in1, z_in2, z_in3, z_in4, z_in5, z_inl, z_int, z_nil, z_nit, z_t0, z_t1, z_t2, z_t3, z_t4, z_t5, z_tr, z_isb, z_isb1, z_isb2, z_isb3, z_isb4, z_isb5, z_addb, z_subb, z_nsb, z_rvt, z_rvl, z_stp, z_srl, z_srt, z_sti, z_stb, z_shl, z_ixt, z_ixl, z_ixr, z_slt, z_sll, z_lent, z_lenl, z_lenr, z_suml, z_sumt, z_maxl, z_maxt, z_minl, z_bi, z_bb, z_tul, z_tut, z_tur, z_lil, z_lit, z_all, z_max2, z_min2, z_kt, z_kl, z_cot, z_col, z_da, z_ds0, z_ds1, z_sql, z_sqt, z_isLr, z_fn, z_fb, z_fi, z_fs, sn_0, sn_1, sn_2, sn_3, sn_4, sn_5, sn_6, sn_7, sn_8, sn_9, sn_10, sn_11, sn_12, sn_13, sn_14, sn_15, sn_16, sn_17, sn_18, sn_19, L2.atI, L2.ixN, z_eqi, h0]
        cases ps with
        | nil =>
          simp only [q_points_of4, post_cons]
          simp [ex, xB_eq, ev, evs, evb, evt, evo, evi, evf, tst, K.val, Bz.isi, isOwn, post_bind, post_ok, post_lift, post_ite, post_noexc, post_nil, bind_ok, fk_nx, fk_rt, fr_nx, fr_rt, lift_some, sto, stoT, wipeS, z_add, z_adds, z_addt, z_addl, z_sub, z_mul, z_mult, z_mull, z_fdiv, z_mod, z_eq, z_ne, z_eqi, z_eqb, z_eqs, z_eqn, z_lt, z_le, z_gt, z_ge, z_is0, z_is1, z_is2, z_is3, z_is4, z_is5, z_in0, z_in1, z_in2, z_in3, z_in4, z_in5, z_inl, z_int, z_nil, z_nit, z_t0, z_t1, z_t2, z_t3, z_t4, z_t5, z_tr, z_isb, z_isb1, z_isb2, z_isb3, z_isb4, z_isb5, z_addb, z_subb, z_nsb, z_rvt, z_rvl, z_stp, z_srl, z_srt, z_sti, z_stb, z_shl, z_ixt, z_ixl, z_ixr, z_slt, z_sll, z_lent, z_lenl, z_lenr, z_suml, z_sumt, z_maxl, z_maxt, z_minl, z_bi, z_bb, z_tul, z_tut, z_tur, z_lil, z_lit, z_all, z_max2, z_min2, z_kt, z_kl, z_cot, z_col, z_da, z_ds0, z_ds1, z_sql, z_sqt, z_isLr, z_fn, z_fb, z_fi, z_fs, sn_0, sn_1, sn_2, sn_3, sn_4, sn_5, sn_6, sn_7, sn_8, sn_9, sn_10, sn_11, sn_12, sn_13, sn_14, sn_15, sn_16, sn_17, sn_18, sn_19, L2.atI, L2.ixN, eqv_nilT, mulOk_r]
          simpa using hP
        | cons x r =>
          simp only [q_points_of4, post_cons]
          simp [ex, xB_eq, ev, evs, evb, evt, evo, evi, evf, tst, K.val, Bz.isi, isOwn, post_bind, post_ok, post_lift, post_ite, post_noexc, post_nil, bind_ok, fk_nx, fk_rt, fr_nx, fr_rt, lift_some, sto, stoT, wipeS, z_add, z_adds, z_addt, z_addl, z_sub, z_mul, z_mult, z_mull, z_fdiv, z_mod, z_eq, z_ne, z_eqi, z_eqb, z_eqs, z_eqn, z_lt, z_le, z_gt, z_ge, z_is0, z_is1, z_is2, z_is3, z_is4, z_is5, z_in0, z_in1, z_in2, z_in3, z_in4, z_in5, z_inl, z_int, z_nil, z_nit, z_t0, z_t1, z_t2, z_t3, z_t4, z_t5, z_tr, z_isb, z_isb1, z_isb2, z_isb3, z_isb4, z_isb5, z_addb, z_subb, z_nsb, z_rvt, z_rvl, z_stp, z_srl, z_srt, z_sti, z_stb, z_shl, z_ixt, z_ixl, z_ixr, z_slt, z_sll, z_lent, z_lenl, z_lenr, z_suml, z_sumt, z_maxl, z_maxt, z_minl, z_bi, z_bb, z_tul, z_tut, z_tur, z_lil, z_lit, z_all, z_max2, z_min2, z_kt, z_kl, z_cot, z_col, z_da, z_ds0, z_ds1, z_sql, z_sqt, z_isLr, z_fn, z_fb, z_fi, z_fs, sn_0, sn_1, sn_2, sn_3, sn_4, sn_5, sn_6, sn_7, sn_8, sn_9, sn_10, sn_11, sn_12, sn_13, sn_14, sn_15, sn_16, sn_17, sn_18, sn_19, L2.atI, L2.ixN, eqv_nilT, mulOk_r]
          simpa using hP
  · rw [if_neg hf] at hP
    have hf : fair p f ps off = false := by simpa using hf
    simp only [b_points_of, post_cons]
    simp [ex, xB_eq, ev, evs, evb, evt, evo, evi, evf, tst, K.val, Bz.isi, isOwn, post_bind, post_ok, post_lift, post_ite, post_noexc, post_nil, bind_ok, fk_nx, fk_rt, fr_nx, fr_rt, lift_some, sto, stoT, wipeS, z_add, z_adds, z_addt, z_addl, z_sub, z_mul, z_mult, z_mull, z_fdiv, z_mod, z_eq, z_ne, z_eqi, z_eqb, z_eqs, z_eqn, z_lt, z_le, z_gt, z_ge, z_is0, z_is1, z_is2, z_is3, z_is4, z_is5, z_in0, z_in1, z_in2, z_in3, z_in4, z_in5, z_inl, z_int, z_nil, z_nit, z_t0, z_t1, z_t2, z_t3, z_t4, z_t5, z_tr, z_isb, z_isb1, z_isb2, z_isb3, z_isb4, z_isb5, z_addb, z_subb, z_nsb, z_rvt, z_rvl, z_stp, z_srl, z_srt, z_sti, z_stb, z_shl, z_ixt, z_ixl, z_ixr, z_slt, z_sll, z_lent, z_lenl, z_lenr, z_suml, z_sumt, z_maxl, z_maxt, z_minl, z_bi, z_bb, z_tul, z_tut, z_tur, z_lil, z_lit, z_all, z_max2, z_min2, z_kt, z_kl, z_cot, z_col, z_da, z_ds0, z_ds1, z_sql, z_sqt, z_isLr, z_fn, z_fb, z_fi, z_fs, sn_0, sn_1, sn_2, sn_3, sn_4, sn_5, sn_6, sn_7, sn_8, sn_9, sn_10, sn_11, sn_12, sn_13, sn_14, sn_15, sn_16, sn_17, sn_18, sn_19, fair_ok hl, hf]
    simp only [q_points_of1, post_cons]
    simp [ex, xB_eq, ev, evs, evb, evt, evo, evi, evf, tst, K.val, Bz.isi, isOwn, post_bind, post_ok, post_lift, post_ite, post_noexc, post_nil, bind_ok, fk_nx, fk_rt, fr_nx, fr_rt, lift_some, sto, stoT, wipeS, z_add, z_adds, z_addt, z_addl, z_sub, z_mul, z_mult, z_mull, z_fdiv, z_mod, z_eq, z_ne, z_eqi, z_eqb, z_eqs, z_eqn, z_lt, z_le, z_gt, z_ge, z_is0, z_is1, z_is2, z_is3, z_is4, z_is5, z_in0, z_in1, z_in2, z_in3, z_in4, z_in5, z_inl, z_int, z_nil, z_nit, z_t0, z_t1, z_t2, z_t3, z_t4, z_t5, z_tr, z_isb, z_isb1, z_isb2, z_isb3, z_isb4, z_isb5, z_addb, z_subb, z_nsb, z_rvt, z_rvl, z_stp, z_srl, z_srt, z_sti, z_stb, z_shl, z_ixt, z_ixl, z_ixr, z_slt, z_sll, z_lent, z_lenl, z_lenr, z_suml, z_sumt, z_maxl, z_maxt, z_minl, z_bi, z_bb, z_tul, z_tut, z_tur, z_lil, z_lit, z_all, z_max2, z_min2, z_kt, z_kl, z_cot, z_col, z_da, z_ds0, z_ds1, z_sql, z_sqt, z_isLr, z_fn, z_fb, z_fi, z_fs, sn_0, sn_1, sn_2, sn_3, sn_4, sn_5, sn_6, sn_7, sn_8, sn_9, sn_10, sn_11, sn_12, sn_13, sn_14, sn_15, sn_16, sn_17, sn_18, sn_19]
    exact hP
theorem foulv_ok {k : Nat} {p : Pl} {f : Int} {ps : List Int} {off : Bool} {st : Stt} (hl : ps.length ≤ 1000) : rn Gm (k + 3) 29 [.d p.e, .d (stk f ps off)] st = .ok (.d (.int (foulV p f ps off))) st := by
  refine Post.eqQ fun P hP => ?_
  rw [run_at (d := ⟨2, 2, b_foul_of⟩) rfl]
  rw [post_runB]
  refine ⟨rfl, ?_⟩
  unfold foulV at hP
  by_cases hf : fair p f ps off = true
  · rw [if_pos hf] at hP
    simp only [b_foul_of, post_cons]
    simp [ex, xB_eq, ev, evs, evb, evt, evo, evi, evf, tst, K.val, Bz.isi, isOwn, post_bind, post_ok, post_lift, post_ite, post_noexc, post_nil, bind_ok, fk_nx, fk_rt, fr_nx, fr_rt, lift_some, sto, stoT, wipeS, z_add, z_adds, z_addt, z_addl, z_sub, z_mul, z_mult, z_mull, z_fdiv, z_mod, z_eq, z_ne, z_eqi, z_eqb, z_eqs, z_eqn, z_lt, z_le, z_gt, z_ge, z_is0, z_is1, z_is2, z_is3, z_is4, z_is5, z_in0, z_in1, z_in2, z_in3, z_in4, z_in5, z_inl, z_int, z_nil, z_nit, z_t0, z_t1, z_t2, z_t3, z_t4, z_t5, z_tr, z_isb, z_isb1, z_isb2, z_isb3, z_isb4, z_isb5, z_addb, z_subb, z_nsb, z_rvt, z_rvl, z_stp, z_srl, z_srt, z_sti, z_stb, z_shl, z_ixt, z_ixl, z_ixr, z_slt, z_sll, z_lent, z_lenl, z_lenr, z_suml, z_sumt, z_maxl, z_maxt, z_minl, z_bi, z_bb, z_tul, z_tut, z_tur, z_lil, z_lit, z_all, z_max2, z_min2, z_kt, z_kl, z_cot, z_col, z_da, z_ds0, z_ds1, z_sql, z_sqt, z_isLr, z_fn, z_fb, z_fi, z_fs, sn_0, sn_1, sn_2, sn_3, sn_4, sn_5, sn_6, sn_7, sn_8, sn_9, sn_10, sn_11, sn_12, sn_13, sn_14, sn_15, sn_16, sn_17, sn_18, sn_19, fair_ok hl, hf]
    simp only [q_foul_of1, post_cons]
    simp [ex, xB_eq, ev, evs, evb, evt, evo, evi, evf, tst, K.val, Bz.isi, isOwn, post_bind, post_ok, post_lift, post_ite, post_noexc, post_nil, bind_ok, fk_nx, fk_rt, fr_nx, fr_rt, lift_some, sto, stoT, wipeS, z_add, z_adds, z_addt, z_addl, z_sub, z_mul, z_mult, z_mull, z_fdiv, z_mod, z_eq, z_ne, z_eqi, z_eqb, z_eqs, z_eqn, z_lt, z_le, z_gt, z_ge, z_is0, z_is1, z_is2, z_is3, z_is4, z_is5, z_in0, z_in1, z_in2, z_in3, z_in4, z_in5, z_inl, z_int, z_nil, z_nit, z_t0, z_t1, z_t2, z_t3, z_t4, z_t5, z_tr, z_isb, z_isb1, z_isb2, z_isb3, z_isb4, z_isb5, z_addb, z_subb, z_nsb, z_rvt, z_rvl, z_stp, z_srl, z_srt, z_sti, z_stb, z_shl, z_ixt, z_ixl, z_ixr, z_slt, z_sll, z_lent, z_lenl, z_lenr, z_suml, z_sumt, z_maxl, z_maxt, z_minl, z_bi, z_bb, z_tul, z_tut, z_tur, z_lil, z_lit, z_all, z_max2, z_min2, z_kt, z_kl, z_cot, z_col, z_da, z_ds0, z_ds1, z_sql, z_sqt, z_isLr, z_fn, z_fb, z_fi, z_fs, sn_0, sn_1, sn_2, sn_3, sn_4, sn_5, sn_6, sn_7, sn_8, sn_9, sn_10, sn_11, sn_12, sn_13, sn_14, sn_15, sn_16, sn_17, sn_18, sn_19]
    exact hP
  · rw [if_neg hf] at hP
    have hf : fair p f ps off = false := by simpa using hf
    have hi : intsOf (.int 4 :: .int p.on :: .int f :: ps.map .int) = some (4 :: p.on :: f :: ps) := ints_map (l := 4 :: p.on :: f :: ps)
    have hs : 3 + ps.length ≤ szl := by unfold szl; omega
    simp only [b_foul_of, post_cons]
    simp [ex, xB_eq, ev, evs, evb, evt, evo, evi, evf, tst, K.val, Bz.isi, isOwn, post_bind, post_ok, post_lift, post_ite, post_noexc, post_nil, bind_ok, fk_nx, fk_rt, fr_nx, fr_rt, lift_some, sto, stoT, wipeS, z_add, z_adds, z_addt, z_addl, z_sub, z_mul, z_mult, z_mull, z_fdiv, z_mod, z_eq, z_ne, z_eqi, z_eqb, z_eqs, z_eqn, z_lt, z_le, z_gt, z_ge, z_is0, z_is1, z_is2, z_is3, z_is4, z_is5, z_in0, z_in1, z_in2, z_in3, z_in4, z_in5, z_inl, z_int, z_nil, z_nit, z_t0, z_t1, z_t2, z_t3, z_t4, z_t5, z_tr, z_isb, z_isb1, z_isb2, z_isb3, z_isb4, z_isb5, z_addb, z_subb, z_nsb, z_rvt, z_rvl, z_stp, z_srl, z_srt, z_sti, z_stb, z_shl, z_ixt, z_ixl, z_ixr, z_slt, z_sll, z_lent, z_lenl, z_lenr, z_suml, z_sumt, z_maxl, z_maxt, z_minl, z_bi, z_bb, z_tul, z_tut, z_tur, z_lil, z_lit, z_all, z_max2, z_min2, z_kt, z_kl, z_cot, z_col, z_da, z_ds0, z_ds1, z_sql, z_sqt, z_isLr, z_fn, z_fb, z_fi, z_fs, sn_0, sn_1, sn_2, sn_3, sn_4, sn_5, sn_6, sn_7, sn_8, sn_9, sn_10, sn_11, sn_12, sn_13, sn_14, sn_15, sn_16, sn_17, sn_18, sn_19, fair_ok hl, hf]
    unfold Pl.e stk
    simp only [q_foul_of2, post_cons]
    simp [ex, xB_eq, ev, evs, evb, evt, evo, evi, evf, tst, K.val, Bz.isi, isOwn, post_bind, post_ok, post_lift, post_ite, post_noexc, post_nil, bind_ok, fk_nx, fk_rt, fr_nx, fr_rt, lift_some, sto, stoT, wipeS, z_add, z_adds, z_addt, z_addl, z_sub, z_mul, z_mult, z_mull, z_fdiv, z_mod, z_eq, z_ne, z_eqi, z_eqb, z_eqs, z_eqn, z_lt, z_le, z_gt, z_ge, z_is0, z_is1, z_is2, z_is3, z_is4, z_is5, z_in0, z_in1, z_in2, z_in3, z_in4, z_in5, z_inl, z_int, z_nil, z_nit, z_t0, z_t1, z_t2, z_t3, z_t4, z_t5, z_tr, z_isb, z_isb1, z_isb2, z_isb3, z_isb4, z_isb5, z_addb, z_subb, z_nsb, z_rvt, z_rvl, z_stp, z_srl, z_srt, z_sti, z_stb, z_shl, z_ixt, z_ixl, z_ixr, z_slt, z_sll, z_lent, z_lenl, z_lenr, z_suml, z_sumt, z_maxl, z_maxt, z_minl, z_bi, z_bb, z_tul, z_tut, z_tur, z_lil, z_lit, z_all, z_max2, z_min2, z_kt, z_kl, z_cot, z_col, z_da, z_ds0, z_ds1, z_sql, z_sqt, z_isLr, z_fn, z_fb, z_fi, z_fs, sn_0, sn_1, sn_2, sn_3, sn_4, sn_5, sn_6, sn_7, sn_8, sn_9, sn_10, sn_11, sn_12, sn_13, sn_14, sn_15, sn_16, sn_17, sn_18, sn_19, L2.atI, L2.ixN, hs, hi]
    exact hP
theorem top_ok {k : Nat} {a b : Int} {st : Stt} : rn Gm (k + 1) 1 [ru a b] st = .ok (.d (.int (b + 1))) st := by
  refine Post.eqQ fun P hP => ?_
  rw [run_at (d := ⟨1, 1, b_top_of⟩) rfl]
  rw [post_runB]
  refine ⟨rfl, ?_⟩
  simp only [b_top_of, post_cons]
  simp [ex, xB_eq, ev, evs, evb, evt, evo, evi, evf, tst, K.val, Bz.isi, isOwn, post_bind, post_ok, post_lift, post_ite, post_noexc, post_nil, bind_ok, fk_nx, fk_rt, fr_nx, fr_rt, lift_some, sto, stoT, wipeS, z_add, z_adds, z_addt, z_addl, z_sub, z_mul, z_mult, z_mull, z_fdiv, z_mod, z_eq, z_ne, z_eqi, z_eqb, z_eqs, z_eqn, z_lt, z_le, z_gt, z_ge, z_is0, z_is1, z_is2, z_is3, z_is4, z_is5, z_in0, z_in1, z_in2, z_in3, z_in4, z_in5, z_inl, z_int, z_nil, z_nit, z_t0, z_t1, z_t2, z_t3, z_t4, z_t5, z_tr, z_isb, z_isb1, z_isb2, z_isb3, z_isb4, z_isb5, z_addb, z_subb, z_nsb, z_rvt, z_rvl, z_stp, z_srl, z_srt, z_sti, z_stb, z_shl, z_ixt, z_ixl, z_ixr, z_slt, z_sll, z_lent, z_lenl, z_lenr, z_suml, z_sumt, z_maxl, z_maxt, z_minl, z_bi, z_bb, z_tul, z_tut, z_tur, z_lil, z_lit, z_all, z_max2, z_min2, z_kt, z_kl, z_cot, z_col, z_da, z_ds0, z_ds1, z_sql, z_sqt, z_isLr, z_fn, z_fb, z_fi, z_fs, sn_0, sn_1, sn_2, sn_3, sn_4, sn_5, sn_6, sn_7, sn_8, sn_9, sn_10, sn_11, sn_12, sn_13, sn_14, sn_15, sn_16, sn_17, sn_18, sn_19, L2.atI, L2.ixN]
  exact hP
theorem firstp_ok {k : Nat} {a b player : Int} {st : Stt} : rn Gm (k + 1) 31 [ru a b, .d (.int player)] st = .ok (.d (Pl.e ⟨player, 1, a, 2, 0, 0, 0⟩)) st := by
  refine Post.eqQ fun P hP => ?_
  rw [run_at (d := ⟨2, 2, b_first_place⟩) rfl]
  rw [post_runB]
  refine ⟨rfl, ?_⟩
  simp only [b_first_place, post_cons]
  simp [ex, xB_eq, ev, evs, evb, evt, evo, evi, evf, tst, K.val, Bz.isi, isOwn, post_bind, post_ok, post_lift, post_ite, post_noexc, post_nil, bind_ok, fk_nx, fk_rt, fr_nx, fr_rt, lift_some, sto, stoT, wipeS, z_add, z_adds, z_addt, z_addl, z_sub, z_mul, z_mult, z_mull, z_fdiv, z_mod, z_eq, z_ne, z_eqi, z_eqb, z_eqs, z_eqn, z_lt, z_le, z_gt, z_ge, z_is0, z_is1, z_is2, z_is3, z_is4, z_is5, z_in0, z_in1, z_in2, z_in3, z_in4, z_in5, z_inl, z_int, z_nil, z_nit, z_t0, z_t1, z_t2, z_t3, z_t4, z_t5, z_tr, z_isb, z_isb1, z_isb2, z_isb3, z_isb4, z_isb5, z_addb, z_subb, z_nsb, z_rvt, z_rvl, z_stp, z_srl, z_srt, z_sti, z_stb, z_shl, z_ixt, z_ixl, z_ixr, z_slt, z_sll, z_lent, z_lenl, z_lenr, z_suml, z_sumt, z_maxl, z_maxt, z_minl, z_bi, z_bb, z_tul, z_tut, z_tur, z_lil, z_lit, z_all, z_max2, z_min2, z_kt, z_kl, z_cot, z_col, z_da, z_ds0, z_ds1, z_sql, z_sqt, z_isLr, z_fn, z_fb, z_fi, z_fs, sn_0, sn_1, sn_2, sn_3, sn_4, sn_5, sn_6, sn_7, sn_8, sn_9, sn_10, sn_11, sn_12, sn_13, sn_14, sn_15, sn_16, sn_17, sn_18, sn_19, L2.atI, L2.ixN]
  exact hP
theorem added_ok {k : Nat} {x y player more : Int} {st : Stt} : rn Gm (k + 1) 32 [.d (.tuple [.int x, .int y]), .d (.int player), .d (.int more)] st = .ok (.d (.tuple [.int (x + more * (if player = 0 then 1 else 0)), .int (y + more * (if player = 1 then 1 else 0))])) st := by
  refine Post.eqQ fun P hP => ?_
  rw [run_at (d := ⟨3, 3, b_added⟩) rfl]
  rw [post_runB]
  refine ⟨rfl, ?_⟩
  have m0 : mulOk more (if player = 0 then 1 else 0) = true := mulOk_r (by split <;> omega) (by split <;> omega)
  have m1 : mulOk more (if player = 1 then 1 else 0) = true := mulOk_r (by split <;> omega) (by split <;> omega)
  simp only [b_added, post_cons]
  simp [ex, xB_eq, ev, evs, evb, evt, evo, evi, evf, tst, K.val, Bz.isi, isOwn, post_bind, post_ok, post_lift, post_ite, post_noexc, post_nil, bind_ok, fk_nx, fk_rt, fr_nx, fr_rt, lift_some, sto, stoT, wipeS, z_add, z_adds, z_addt, z_addl, z_sub, z_mul, z_mult, z_mull, z_fdiv, z_mod, z_eq, z_ne, z_eqi, z_eqb, z_eqs, z_eqn, z_lt, z_le, z_gt, z_ge, z_is0, z_is1, z_is2, z_is3, z_is4, z_is5, z_in0, z_in1, z_in2, z_in3, z_in4, z_in5, z_inl, z_int, z_nil, z_nit, z_t0, z_t1, z_t2, z_t3, z_t4, z_t5, z_tr, z_isb, z_isb1, z_isb2, z_isb3, z_isb4, z_isb5, z_addb, z_subb, z_nsb, z_rvt, z_rvl, z_stp, z_srl, z_srt, z_sti, z_stb, z_shl, z_ixt, z_ixl, z_ixr, z_slt, z_sll, z_lent, z_lenl, z_lenr, z_suml, z_sumt, z_maxl, z_maxt, z_minl, z_bi, z_bb, z_tul, z_tut, z_tur, z_lil, z_lit, z_all, z_max2, z_min2, z_kt, z_kl, z_cot, z_col, z_da, z_ds0, z_ds1, z_sql, z_sqt, z_isLr, z_fn, z_fb, z_fi, z_fs, sn_0, sn_1, sn_2, sn_3, sn_4, sn_5, sn_6, sn_7, sn_8, sn_9, sn_10, sn_11, sn_12, sn_13, sn_14, sn_15, sn_16, sn_17, sn_18, sn_19, L2.atI, L2.ixN, z_eqi, m0, m1]
  simpa using hP
theorem struck_ok {k : Nat} {a b : Int} {p : Pl} {f : Int} {ps : List Int} {off : Bool} {st : Stt} (hp : PlOk a b p) (hs : StOk a b f ps) (hb : 1 ≤ b) : rn Gm (k + 4) 33 [ru a b, .d p.e, .d (stk f ps off)] st = .ok (.d (strk b p (jd p f ps off) ps).e) st := by
  refine Post.eqQ fun P hP => ?_
  have hl : ps.length ≤ 1000 := by have := hs.len; omega
  have e1 := pts_jd (p := p) (off := off) hs
  have e2 := foul_jd (p := p) (f := f) (ps := ps) (off := off)
  have he := ends_iff (p := p) (off := off) hs hb
  have hlo := low_iff (off := off) hp hs
  have c1 := fun st => points_ok (k := k) (p := p) (f := f) (off := off) (st := st) hl
  have c2 := fun st => foulv_ok (k := k) (p := p) (f := f) (off := off) (st := st) hl
  rw [e1] at c1
  rw [e2] at c2
  generalize jd p f ps off = g at hP c1 c2 he hlo
  obtain ⟨gain, loss⟩ := g
  simp only at c1 c2 he hlo
  unfold strk at hP
  simp only [← he, ← hlo] at hP
  have hup := hp.up
  have s0 : p.p0 + sel p.up gain loss = p.p0 + gain * (if p.up = 0 then 1 else 0) + loss * (if 1 - p.up = 0 then 1 else 0) := by
    unfold sel; rcases hup with h | h <;> rw [h] <;> simp
  have s1 : p.p1 + sel p.up loss gain = p.p1 + gain * (if p.up = 1 then 1 else 0) + loss * (if 1 - p.up = 1 then 1 else 0) := by
    unfold sel; rcases hup with h | h <;> rw [h] <;> simp
  rw [run_at (d := ⟨14, 3, b_struck⟩) rfl]
  rw [post_runB]
  refine ⟨rfl, ?_⟩
  have hse : L2.atI [PyData.int f, .tuple (ps.map .int), .bool off] 1 = some (.tuple (ps.map .int)) := rfl
  have e3 : ∀ x y : PyData, L2.atI [x, y] 0 = some x := fun _ _ => rfl
  have e4 : ∀ x y : PyData, L2.atI [x, y] 1 = some y := fun _ _ => rfl
  unfold stk Pl.e at c1 c2 ⊢
  simp only [b_struck, post_cons]
  simp [ex, xB_eq, ev, evs, evb, evt, evo, evi, evf, tst, K.val, Bz.isi, isOwn, post_bind, post_ok, post_lift, post_ite, post_noexc, post_nil, bind_ok, fk_nx, fk_rt, fr_nx, fr_rt, lift_some, sto, stoT, wipeS, z_add, z_adds, z_addt, z_addl, z_sub, z_mul, z_mult, z_mull, z_fdiv, z_mod, z_eq, z_ne, z_eqi, z_eqb, z_eqs, z_eqn, z_lt, z_le, z_gt, z_ge, z_is0, z_is1, z_is2, z_is3, z_is4, z_is5, z_in0, z_in1, z_in2, z_in3, z_in4, z_in5, z_inl, z_int, z_nil, z_nit, z_t0, z_t1, z_t2, z_t3, z_t4, z_t5, z_tr, z_isb, z_isb1, z_isb2, z_isb3, z_isb4, z_isb5, z_addb, z_subb, z_nsb, z_rvt, z_rvl, z_stp, z_srl, z_srt, z_sti, z_stb, z_shl, z_ixt, z_ixl, z_ixr, z_slt, z_sll, z_lent, z_lenl, z_lenr, z_suml, z_sumt, z_maxl, z_maxt, z_minl, z_bi, z_bb, z_tul, z_tut, z_tur, z_lil, z_lit, z_all, z_max2, z_min2, z_kt, z_kl, z_cot, z_col, z_da, z_ds0, z_ds1, z_sql, z_sqt, z_isLr, z_fn, z_fb, z_fi, z_fs, sn_0, sn_1, sn_2, sn_3, sn_4, sn_5, sn_6, sn_7, sn_8, sn_9, sn_10, sn_11, sn_12, sn_13, sn_14, sn_15, sn_16, sn_17, sn_18, sn_19]
  simp only [q_struck15, post_cons]
  simp [ex, xB_eq, ev, evs, evb, evt, evo, evi, evf, tst, K.val, Bz.isi, isOwn, post_bind, post_ok, post_lift, post_ite, post_noexc, post_nil, bind_ok, fk_nx, fk_rt, fr_nx, fr_rt, lift_some, sto, stoT, wipeS, z_add, z_adds, z_addt, z_addl, z_sub, z_mul, z_mult, z_mull, z_fdiv, z_mod, z_eq, z_ne, z_eqi, z_eqb, z_eqs, z_eqn, z_lt, z_le, z_gt, z_ge, z_is0, z_is1, z_is2, z_is3, z_is4, z_is5, z_in0, z_in1, z_in2, z_in3, z_in4, z_in5, z_inl, z_int, z_nil, z_nit, z_t0, z_t1, z_t2, z_t3, z_t4, z_t5, z_tr, z_isb, z_isb1, z_isb2, z_isb3, z_isb4, z_isb5, z_addb, z_subb, z_nsb, z_rvt, z_rvl, z_stp, z_srl, z_srt, z_sti, z_stb, z_shl, z_ixt, z_ixl, z_ixr, z_slt, z_sll, z_lent, z_lenl, z_lenr, z_suml, z_sumt, z_maxl, z_maxt, z_minl, z_bi, z_bb, z_tul, z_tut, z_tur, z_lil, z_lit, z_all, z_max2, z_min2, z_kt, z_kl, z_cot, z_col, z_da, z_ds0, z_ds1, z_sql, z_sqt, z_isLr, z_fn, z_fb, z_fi, z_fs, sn_0, sn_1, sn_2, sn_3, sn_4, sn_5, sn_6, sn_7, sn_8, sn_9, sn_10, sn_11, sn_12, sn_13, sn_14, sn_15, sn_16, sn_17, sn_18, sn_19, top_ok]
  simp only [q_struck14, post_cons]
  simp [ex, xB_eq, ev, evs, evb, evt, evo, evi, evf, tst, K.val, Bz.isi, isOwn, post_bind, post_ok, post_lift, post_ite, post_noexc, post_nil, bind_ok, fk_nx, fk_rt, fr_nx, fr_rt, lift_some, sto, stoT, wipeS, z_add, z_adds, z_addt, z_addl, z_sub, z_mul, z_mult, z_mull, z_fdiv, z_mod, z_eq, z_ne, z_eqi, z_eqb, z_eqs, z_eqn, z_lt, z_le, z_gt, z_ge, z_is0, z_is1, z_is2, z_is3, z_is4, z_is5, z_in0, z_in1, z_in2, z_in3, z_in4, z_in5, z_inl, z_int, z_nil, z_nit, z_t0, z_t1, z_t2, z_t3, z_t4, z_t5, z_tr, z_isb, z_isb1, z_isb2, z_isb3, z_isb4, z_isb5, z_addb, z_subb, z_nsb, z_rvt, z_rvl, z_stp, z_srl, z_srt, z_sti, z_stb, z_shl, z_ixt, z_ixl, z_ixr, z_slt, z_sll, z_lent, z_lenl, z_lenr, z_suml, z_sumt, z_maxl, z_maxt, z_minl, z_bi, z_bb, z_tul, z_tut, z_tur, z_lil, z_lit, z_all, z_max2, z_min2, z_kt, z_kl, z_cot, z_col, z_da, z_ds0, z_ds1, z_sql, z_sqt, z_isLr, z_fn, z_fb, z_fi, z_fs, sn_0, sn_1, sn_2, sn_3, sn_4, sn_5, sn_6, sn_7, sn_8, sn_9, sn_10, sn_11, sn_12, sn_13, sn_14, sn_15, sn_16, sn_17, sn_18, sn_19, hse, flats, ← List.countP_map, countP_ints]
  simp only [q_struck13, post_cons]
  simp [ex, xB_eq, ev, evs, evb, evt, evo, evi, evf, tst, K.val, Bz.isi, isOwn, post_bind, post_ok, post_lift, post_ite, post_noexc, post_nil, bind_ok, fk_nx, fk_rt, fr_nx, fr_rt, lift_some, sto, stoT, wipeS, z_add, z_adds, z_addt, z_addl, z_sub, z_mul, z_mult, z_mull, z_fdiv, z_mod, z_eq, z_ne, z_eqi, z_eqb, z_eqs, z_eqn, z_lt, z_le, z_gt, z_ge, z_is0, z_is1, z_is2, z_is3, z_is4, z_is5, z_in0, z_in1, z_in2, z_in3, z_in4, z_in5, z_inl, z_int, z_nil, z_nit, z_t0, z_t1, z_t2, z_t3, z_t4, z_t5, z_tr, z_isb, z_isb1, z_isb2, z_isb3, z_isb4, z_isb5, z_addb, z_subb, z_nsb, z_rvt, z_rvl, z_stp, z_srl, z_srt, z_sti, z_stb, z_shl, z_ixt, z_ixl, z_ixr, z_slt, z_sll, z_lent, z_lenl, z_lenr, z_suml, z_sumt, z_maxl, z_maxt, z_minl, z_bi, z_bb, z_tul, z_tut, z_tur, z_lil, z_lit, z_all, z_max2, z_min2, z_kt, z_kl, z_cot, z_col, z_da, z_ds0, z_ds1, z_sql, z_sqt, z_isLr, z_fn, z_fb, z_fi, z_fs, sn_0, sn_1, sn_2, sn_3, sn_4, sn_5, sn_6, sn_7, sn_8, sn_9, sn_10, sn_11, sn_12, sn_13, sn_14, sn_15, sn_16, sn_17, sn_18, sn_19, c1, c2]
  have a1 := fun st => added_ok (k := k + 2) (x := p.p0) (y := p.p1) (player := p.up) (more := gain) (st := st)
  have a2 := fun st => added_ok (k := k + 2) (x := p.p0 + gain * (if p.up = 0 then 1 else 0)) (y := p.p1 + gain * (if p.up = 1 then 1 else 0)) (player := 1 - p.up) (more := loss) (st := st)
  rw [← s0, ← s1] at a2
  generalize p.p0 + sel p.up gain loss = q0 at hP a2
  generalize p.p1 + sel p.up loss gain = q1 at hP a2
  generalize p.p0 + gain * (if p.up = 0 then 1 else 0) = r0 at a1 a2
  generalize p.p1 + gain * (if p.up = 1 then 1 else 0) = r1 at a1 a2
  simp only [q_struck12, post_cons]
  simp [ex, xB_eq, ev, evs, evb, evt, evo, evi, evf, tst, K.val, Bz.isi, isOwn, post_bind, post_ok, post_lift, post_ite, post_noexc, post_nil, bind_ok, fk_nx, fk_rt, fr_nx, fr_rt, lift_some, sto, stoT, wipeS, z_add, z_adds, z_addt, z_addl, z_sub, z_mul, z_mult, z_mull, z_fdiv, z_mod, z_eq, z_ne, z_eqi, z_eqb, z_eqs, z_eqn, z_lt, z_le, z_gt, z_ge, z_is0, z_is1, z_is2, z_is3, z_is4, z_is5, z_in0, z_in1, z_in2, z_in3, z_in4, z_in5, z_inl, z_int, z_nil, z_nit, z_t0, z_t1, z_t2, z_t3, z_t4, z_t5, z_tr, z_isb, z_isb1, z_isb2, z_isb3, z_isb4, z_isb5, z_addb, z_subb, z_nsb, z_rvt, z_rvl, z_stp, z_srl, z_srt, z_sti, z_stb, z_shl, z_ixt, z_ixl, z_ixr, z_slt, z_sll, z_lent, z_lenl, z_lenr, z_suml, z_sumt, z_maxl, z_maxt, z_minl, z_bi, z_bb, z_tul, z_tut, z_tur, z_lil, z_lit, z_all, z_max2, z_min2, z_kt, z_kl, z_cot, z_col, z_da, z_ds0, z_ds1, z_sql, z_sqt, z_isLr, z_fn, z_fb, z_fi, z_fs, sn_0, sn_1, sn_2, sn_3, sn_4, sn_5, sn_6, sn_7, sn_8, sn_9, sn_10, sn_11, sn_12, sn_13, sn_14, sn_15, sn_16, sn_17, sn_18, sn_19, a1, a2]
  clear a1 a2 s0 s1 c1 c2 he hlo e1 e2
  generalize p.reds - (ps.count 1 : Int) = left at hP ⊢
  by_cases h1 : p.on = b + 1 ∧ (0 < loss ∨ b + 1 ∈ ps)
  · rw [if_pos h1] at hP
    have to10 : Post (xB (rn Gm (k + 3)) q_struck10 [.v (ru a b), .v (.d (.tuple [.int p.up, .int p.on, .int p.reds, .int p.low, .tuple [.int p.p0, .int p.p1], .int p.free])), .v (.d (.tuple [.int f, .tuple (ps.map .int), .bool off])), .v (.d (.int p.up)), .v (.d (.int p.on)), .v (.d (.int left)), .v (.d (.int p.low)), .v (.d (.tuple [.int q0, .int q1])), .v (.d (.int p.free)), .v (.d (.int (b + 1))), .v (.d (.int gain)), .v (.d (.int loss)), .v (.d (.bool true)), .non] st) (Fr P) := by
      by_cases h4 : q0 = q1
      · rw [if_pos h4] at hP
        subst h4
        simp only [q_struck10, post_cons]
        simp [ex, xB_eq, ev, evs, evb, evt, evo, evi, evf, tst, K.val, Bz.isi, isOwn, post_bind, post_ok, post_lift, post_ite, post_noexc, post_nil, bind_ok, fk_nx, fk_rt, fr_nx, fr_rt, lift_some, sto, stoT, wipeS, z_add, z_adds, z_addt, z_addl, z_sub, z_mul, z_mult, z_mull, z_fdiv, z_mod, z_eq, z_ne, z_eqi, z_eqb, z_eqs, z_eqn, z_lt, z_le, z_gt, z_ge, z_is0, z_is1, z_is2, z_is3, z_is4, z_is5, z_in0, z_in1, z_in2, z_in3, z_in4, z_in5, z_inl, z_int, z_nil, z_nit, z_t0, z_t1, z_t2, z_t3, z_t4, z_t5, z_tr, z_isb, z_isb1, z_isb2, z_isb3, z_isb4, z_isb5, z_addb, z_subb, z_nsb, z_rvt, z_rvl, z_stp, z_srl, z_srt, z_sti, z_stb, z_shl, z_ixt, z_ixl, z_ixr, z_slt, z_sll, z_lent, z_lenl, z_lenr, z_suml, z_sumt, z_maxl, z_maxt, z_minl, z_bi, z_bb, z_tul, z_tut, z_tur, z_lil, z_lit, z_all, z_max2, z_min2, z_kt, z_kl, z_cot, z_col, z_da, z_ds0, z_ds1, z_sql, z_sqt, z_isLr, z_fn, z_fb, z_fi, z_fs, sn_0, sn_1, sn_2, sn_3, sn_4, sn_5, sn_6, sn_7, sn_8, sn_9, sn_10, sn_11, sn_12, sn_13, sn_14, sn_15, sn_16, sn_17, sn_18, sn_19, e3, e4, z_eqi]
        simp only [q_struck9, post_cons]
        simp [ex, xB_eq, ev, evs, evb, evt, evo, evi, evf, tst, K.val, Bz.isi, isOwn, post_bind, post_ok, post_lift, post_ite, post_noexc, post_nil, bind_ok, fk_nx, fk_rt, fr_nx, fr_rt, lift_some, sto, stoT, wipeS, z_add, z_adds, z_addt, z_addl, z_sub, z_mul, z_mult, z_mull, z_fdiv, z_mod, z_eq, z_ne, z_eqi, z_eqb, z_eqs, z_eqn, z_lt, z_le, z_gt, z_ge, z_is0, z_is1, z_is2, z_is3, z_is4, z_is5, z_in0, z_in1, z_in2, z_in3, z_in4, z_in5, z_inl, z_int, z_nil, z_nit, z_t0, z_t1, z_t2, z_t3, z_t4, z_t5, z_tr, z_isb, z_isb1, z_isb2, z_isb3, z_isb4, z_isb5, z_addb, z_subb, z_nsb, z_rvt, z_rvl, z_stp, z_srl, z_srt, z_sti, z_stb, z_shl, z_ixt, z_ixl, z_ixr, z_slt, z_sll, z_lent, z_lenl, z_lenr, z_suml, z_sumt, z_maxl, z_maxt, z_minl, z_bi, z_bb, z_tul, z_tut, z_tur, z_lil, z_lit, z_all, z_max2, z_min2, z_kt, z_kl, z_cot, z_col, z_da, z_ds0, z_ds1, z_sql, z_sqt, z_isLr, z_fn, z_fb, z_fi, z_fs, sn_0, sn_1, sn_2, sn_3, sn_4, sn_5, sn_6, sn_7, sn_8, sn_9, sn_10, sn_11, sn_12, sn_13, sn_14, sn_15, sn_16, sn_17, sn_18, sn_19]
        simp only [q_struck2, post_cons]
        simp [ex, xB_eq, ev, evs, evb, evt, evo, evi, evf, tst, K.val, Bz.isi, isOwn, post_bind, post_ok, post_lift, post_ite, post_noexc, post_nil, bind_ok, fk_nx, fk_rt, fr_nx, fr_rt, lift_some, sto, stoT, wipeS, z_add, z_adds, z_addt, z_addl, z_sub, z_mul, z_mult, z_mull, z_fdiv, z_mod, z_eq, z_ne, z_eqi, z_eqb, z_eqs, z_eqn, z_lt, z_le, z_gt, z_ge, z_is0, z_is1, z_is2, z_is3, z_is4, z_is5, z_in0, z_in1, z_in2, z_in3, z_in4, z_in5, z_inl, z_int, z_nil, z_nit, z_t0, z_t1, z_t2, z_t3, z_t4, z_t5, z_tr, z_isb, z_isb1, z_isb2, z_isb3, z_isb4, z_isb5, z_addb, z_subb, z_nsb, z_rvt, z_rvl, z_stp, z_srl, z_srt, z_sti, z_stb, z_shl, z_ixt, z_ixl, z_ixr, z_slt, z_sll, z_lent, z_lenl, z_lenr, z_suml, z_sumt, z_maxl, z_maxt, z_minl, z_bi, z_bb, z_tul, z_tut, z_tur, z_lil, z_lit, z_all, z_max2, z_min2, z_kt, z_kl, z_cot, z_col, z_da, z_ds0, z_ds1, z_sql, z_sqt, z_isLr, z_fn, z_fb, z_fi, z_fs, sn_0, sn_1, sn_2, sn_3, sn_4, sn_5, sn_6, sn_7, sn_8, sn_9, sn_10, sn_11, sn_12, sn_13, sn_14, sn_15, sn_16, sn_17, sn_18, sn_19]
        exact hP
      · rw [if_neg h4] at hP
        simp only [q_struck10, post_cons]
        simp [ex, xB_eq, ev, evs, evb, evt, evo, evi, evf, tst, K.val, Bz.isi, isOwn, post_bind, post_ok, post_lift, post_ite, post_noexc, post_nil, bind_ok, fk_nx, fk_rt, fr_nx, fr_rt, lift_some, sto, stoT, wipeS, z_add, z_adds, z_addt, z_addl, z_sub, z_mul, z_mult, z_mull, z_fdiv, z_mod, z_eq, z_ne, z_eqi, z_eqb, z_eqs, z_eqn, z_lt, z_le, z_gt, z_ge, z_is0, z_is1, z_is2, z_is3, z_is4, z_is5, z_in0, z_in1, z_in2, z_in3, z_in4, z_in5, z_inl, z_int, z_nil, z_nit, z_t0, z_t1, z_t2, z_t3, z_t4, z_t5, z_tr, z_isb, z_isb1, z_isb2, z_isb3, z_isb4, z_isb5, z_addb, z_subb, z_nsb, z_rvt, z_rvl, z_stp, z_srl, z_srt, z_sti, z_stb, z_shl, z_ixt, z_ixl, z_ixr, z_slt, z_sll, z_lent, z_lenl, z_lenr, z_suml, z_sumt, z_maxl, z_maxt, z_minl, z_bi, z_bb, z_tul, z_tut, z_tur, z_lil, z_lit, z_all, z_max2, z_min2, z_kt, z_kl, z_cot, z_col, z_da, z_ds0, z_ds1, z_sql, z_sqt, z_isLr, z_fn, z_fb, z_fi, z_fs, sn_0, sn_1, sn_2, sn_3, sn_4, sn_5, sn_6, sn_7, sn_8, sn_9, sn_10, sn_11, sn_12, sn_13, sn_14, sn_15, sn_16, sn_17, sn_18, sn_19, e3, e4, z_eqi, h4]
        simp only [q_struck1, post_cons]
        simp [ex, xB_eq, ev, evs, evb, evt, evo, evi, evf, tst, K.val, Bz.isi, isOwn, post_bind, post_ok, post_lift, post_ite, post_noexc, post_nil, bind_ok, fk_nx, fk_rt, fr_nx, fr_rt, lift_some, sto, stoT, wipeS, z_add, z_adds, z_addt, z_addl, z_sub, z_mul, z_mult, z_mull, z_fdiv, z_mod, z_eq, z_ne, z_eqi, z_eqb, z_eqs, z_eqn, z_lt, z_le, z_gt, z_ge, z_is0, z_is1, z_is2, z_is3, z_is4, z_is5, z_in0, z_in1, z_in2, z_in3, z_in4, z_in5, z_inl, z_int, z_nil, z_nit, z_t0, z_t1, z_t2, z_t3, z_t4, z_t5, z_tr, z_isb, z_isb1, z_isb2, z_isb3, z_isb4, z_isb5, z_addb, z_subb, z_nsb, z_rvt, z_rvl, z_stp, z_srl, z_srt, z_sti, z_stb, z_shl, z_ixt, z_ixl, z_ixr, z_slt, z_sll, z_lent, z_lenl, z_lenr, z_suml, z_sumt, z_maxl, z_maxt, z_minl, z_bi, z_bb, z_tul, z_tut, z_tur, z_lil, z_lit, z_all, z_max2, z_min2, z_kt, z_kl, z_cot, z_col, z_da, z_ds0, z_ds1, z_sql, z_sqt, z_isLr, z_fn, z_fb, z_fi, z_fs, sn_0, sn_1, sn_2, sn_3, sn_4, sn_5, sn_6, sn_7, sn_8, sn_9, sn_10, sn_11, sn_12, sn_13, sn_14, sn_15, sn_16, sn_17, sn_18, sn_19, e3, e4]
        exact hP
    have h1a := h1.1
    by_cases h2 : 0 < loss
    · rw [h1a] at to10 ⊢
      simp only [q_struck11, post_cons]
      simp [ex, xB_eq, ev, evs, evb, evt, evo, evi, evf, tst, K.val, Bz.isi, isOwn, post_bind, post_ok, post_lift, post_ite, post_noexc, post_nil, bind_ok, fk_nx, fk_rt, fr_nx, fr_rt, lift_some, sto, stoT, wipeS, z_add, z_adds, z_addt, z_addl, z_sub, z_mul, z_mult, z_mull, z_fdiv, z_mod, z_eq, z_ne, z_eqi, z_eqb, z_eqs, z_eqn, z_lt, z_le, z_gt, z_ge, z_is0, z_is1, z_is2, z_is3, z_is4, z_is5, z_in0, z_in1, z_in2, z_in3, z_in4, z_in5, z_inl, z_int, z_nil, z_nit, z_t0, z_t1, z_t2, z_t3, z_t4, z_t5, z_tr, z_isb, z_isb1, z_isb2, z_isb3, z_isb4, z_isb5, z_addb, z_subb, z_nsb, z_rvt, z_rvl, z_stp, z_srl, z_srt, z_sti, z_stb, z_shl, z_ixt, z_ixl, z_ixr, z_slt, z_sll, z_lent, z_lenl, z_lenr, z_suml, z_sumt, z_maxl, z_maxt, z_minl, z_bi, z_bb, z_tul, z_tut, z_tur, z_lil, z_lit, z_all, z_max2, z_min2, z_kt, z_kl, z_cot, z_col, z_da, z_ds0, z_ds1, z_sql, z_sqt, z_isLr, z_fn, z_fb, z_fi, z_fs, sn_0, sn_1, sn_2, sn_3, sn_4, sn_5, sn_6, sn_7, sn_8, sn_9, sn_10, sn_11, sn_12, sn_13, sn_14, sn_15, sn_16, sn_17, sn_18, sn_19, z_eqi, h2]
      exact to10
    · have h3 : b + 1 ∈ ps := by
        rcases h1.2 with q | q
        · exact absurd q h2
        · exact q
      rw [h1a] at to10 ⊢
      simp only [q_struck11, post_cons]
      simp [ex, xB_eq, ev, evs, evb, evt, evo, evi, evf, tst, K.val, Bz.isi, isOwn, post_bind, post_ok, post_lift, post_ite, post_noexc, post_nil, bind_ok, fk_nx, fk_rt, fr_nx, fr_rt, lift_some, sto, stoT, wipeS, z_add, z_adds, z_addt, z_addl, z_sub, z_mul, z_mult, z_mull, z_fdiv, z_mod, z_eq, z_ne, z_eqi, z_eqb, z_eqs, z_eqn, z_lt, z_le, z_gt, z_ge, z_is0, z_is1, z_is2, z_is3, z_is4, z_is5, z_in0, z_in1, z_in2, z_in3, z_in4, z_in5, z_inl, z_int, z_nil, z_nit, z_t0, z_t1, z_t2, z_t3, z_t4, z_t5, z_tr, z_isb, z_isb1, z_isb2, z_isb3, z_isb4, z_isb5, z_addb, z_subb, z_nsb, z_rvt, z_rvl, z_stp, z_srl, z_srt, z_sti, z_stb, z_shl, z_ixt, z_ixl, z_ixr, z_slt, z_sll, z_lent, z_lenl, z_lenr, z_suml, z_sumt, z_maxl, z_maxt, z_minl, z_bi, z_bb, z_tul, z_tut, z_tur, z_lil, z_lit, z_all, z_max2, z_min2, z_kt, z_kl, z_cot, z_col, z_da, z_ds0, z_ds1, z_sql, z_sqt, z_isLr, z_fn, z_fb, z_fi, z_fs, sn_0, sn_1, sn_2, sn_3, sn_4, sn_5, sn_6, sn_7, sn_8, sn_9, sn_10, sn_11, sn_12, sn_13, sn_14, sn_15, sn_16, sn_17, sn_18, sn_19, z_eqi, h2, hse, flats, inD_ints, h3]
      exact to10
  · rw [if_neg h1] at hP
    have tail : ∀ low : Int, P (.d (Fo.e (if 0 < gain then ⟨some ⟨p.up, (if 0 < left then 1 else low) * (if p.on ≠ 1 then 1 else 0), left, low, q0, q1, 0⟩, none, q0, q1⟩ else ⟨some ⟨1 - p.up, (if 0 < left then 1 else low), left, low, q0, q1, if 0 < loss then 1 else 0⟩, none, q0, q1⟩))) st → Post (xB (rn Gm (k + 3)) q_struck7 [.v (ru a b), .v (.d (.tuple [.int p.up, .int p.on, .int p.reds, .int p.low, .tuple [.int p.p0, .int p.p1], .int p.free])), .v (.d (.tuple [.int f, .tuple (ps.map .int), .bool off])), .v (.d (.int p.up)), .v (.d (.int p.on)), .v (.d (.int left)), .v (.d (.int low)), .v (.d (.tuple [.int q0, .int q1])), .v (.d (.int p.free)), .v (.d (.int (b + 1))), .v (.d (.int gain)), .v (.d (.int loss)), .v (.d (.bool false)), .non] st) (Fr P) := by
      intro low hP
      by_cases h5 : 0 < left
      · simp only [q_struck7, post_cons]
        simp [ex, xB_eq, ev, evs, evb, evt, evo, evi, evf, tst, K.val, Bz.isi, isOwn, post_bind, post_ok, post_lift, post_ite, post_noexc, post_nil, bind_ok, fk_nx, fk_rt, fr_nx, fr_rt, lift_some, sto, stoT, wipeS, z_add, z_adds, z_addt, z_addl, z_sub, z_mul, z_mult, z_mull, z_fdiv, z_mod, z_eq, z_ne, z_eqi, z_eqb, z_eqs, z_eqn, z_lt, z_le, z_gt, z_ge, z_is0, z_is1, z_is2, z_is3, z_is4, z_is5, z_in0, z_in1, z_in2, z_in3, z_in4, z_in5, z_inl, z_int, z_nil, z_nit, z_t0, z_t1, z_t2, z_t3, z_t4, z_t5, z_tr, z_isb, z_isb1, z_isb2, z_isb3, z_isb4, z_isb5, z_addb, z_subb, z_nsb, z_rvt, z_rvl, z_stp, z_srl, z_srt, z_sti, z_stb, z_shl, z_ixt, z_ixl, z_ixr, z_slt, z_sll, z_lent, z_lenl, z_lenr, z_suml, z_sumt, z_maxl, z_maxt, z_minl, z_bi, z_bb, z_tul, z_tut, z_tur, z_lil, z_lit, z_all, z_max2, z_min2, z_kt, z_kl, z_cot, z_col, z_da, z_ds0, z_ds1, z_sql, z_sqt, z_isLr, z_fn, z_fb, z_fi, z_fs, sn_0, sn_1, sn_2, sn_3, sn_4, sn_5, sn_6, sn_7, sn_8, sn_9, sn_10, sn_11, sn_12, sn_13, sn_14, sn_15, sn_16, sn_17, sn_18, sn_19, h5]
        by_cases h2 : 0 < gain
        · simp only [q_struck6, post_cons]
          simp [ex, xB_eq, ev, evs, evb, evt, evo, evi, evf, tst, K.val, Bz.isi, isOwn, post_bind, post_ok, post_lift, post_ite, post_noexc, post_nil, bind_ok, fk_nx, fk_rt, fr_nx, fr_rt, lift_some, sto, stoT, wipeS, z_add, z_adds, z_addt, z_addl, z_sub, z_mul, z_mult, z_mull, z_fdiv, z_mod, z_eq, z_ne, z_eqi, z_eqb, z_eqs, z_eqn, z_lt, z_le, z_gt, z_ge, z_is0, z_is1, z_is2, z_is3, z_is4, z_is5, z_in0, z_in1, z_in2, z_in3, z_in4, z_in5, z_inl, z_int, z_nil, z_nit, z_t0, z_t1, z_t2, z_t3, z_t4, z_t5, z_tr, z_isb, z_isb1, z_isb2, z_isb3, z_isb4, z_isb5, z_addb, z_subb, z_nsb, z_rvt, z_rvl, z_stp, z_srl, z_srt, z_sti, z_stb, z_shl, z_ixt, z_ixl, z_ixr, z_slt, z_sll, z_lent, z_lenl, z_lenr, z_suml, z_sumt, z_maxl, z_maxt, z_minl, z_bi, z_bb, z_tul, z_tut, z_tur, z_lil, z_lit, z_all, z_max2, z_min2, z_kt, z_kl, z_cot, z_col, z_da, z_ds0, z_ds1, z_sql, z_sqt, z_isLr, z_fn, z_fb, z_fi, z_fs, sn_0, sn_1, sn_2, sn_3, sn_4, sn_5, sn_6, sn_7, sn_8, sn_9, sn_10, sn_11, sn_12, sn_13, sn_14, sn_15, sn_16, sn_17, sn_18, sn_19, h2]
          by_cases h3 : p.on = 1
          · simp [h2, h3, h5, Fo.e, oP, oI, Pl.e] at hP
            simp only [q_struck4, post_cons]
            simp [ex, xB_eq, ev, evs, evb, evt, evo, evi, evf, tst, K.val, Bz.isi, isOwn, post_bind, post_ok, post_lift, post_ite, post_noexc, post_nil, bind_ok, fk_nx, fk_rt, fr_nx, fr_rt, lift_some, sto, stoT, wipeS, z_add, z_adds, z_addt, z_addl, z_sub, z_mul, z_mult, z_mull, z_fdiv, z_mod, z_eq, z_ne, z_eqi, z_eqb, z_eqs, z_eqn, z_lt, z_le, z_gt, z_ge, z_is0, z_is1, z_is2, z_is3, z_is4, z_is5, z_in0, z_in1, z_in2, z_in3, z_in4, z_in5, z_inl, z_int, z_nil, z_nit, z_t0, z_t1, z_t2, z_t3, z_t4, z_t5, z_tr, z_isb, z_isb1, z_isb2, z_isb3, z_isb4, z_isb5, z_addb, z_subb, z_nsb, z_rvt, z_rvl, z_stp, z_srl, z_srt, z_sti, z_stb, z_shl, z_ixt, z_ixl, z_ixr, z_slt, z_sll, z_lent, z_lenl, z_lenr, z_suml, z_sumt, z_maxl, z_maxt, z_minl, z_bi, z_bb, z_tul, z_tut, z_tur, z_lil, z_lit, z_all, z_max2, z_min2, z_kt, z_kl, z_cot, z_col, z_da, z_ds0, z_ds1, z_sql, z_sqt, z_isLr, z_fn, z_fb, z_fi, z_fs, sn_0, sn_1, sn_2, sn_3, sn_4, sn_5, sn_6, sn_7, sn_8, sn_9, sn_10, sn_11, sn_12, sn_13, sn_14, sn_15, sn_16, sn_17, sn_18, sn_19, h3, z_eqi]
            exact hP
          · simp [h2, h3, h5, Fo.e, oP, oI, Pl.e] at hP
            simp only [q_struck4, post_cons]
            simp [ex, xB_eq, ev, evs, evb, evt, evo, evi, evf, tst, K.val, Bz.isi, isOwn, post_bind, post_ok, post_lift, post_ite, post_noexc, post_nil, bind_ok, fk_nx, fk_rt, fr_nx, fr_rt, lift_some, sto, stoT, wipeS, z_add, z_adds, z_addt, z_addl, z_sub, z_mul, z_mult, z_mull, z_fdiv, z_mod, z_eq, z_ne, z_eqi, z_eqb, z_eqs, z_eqn, z_lt, z_le, z_gt, z_ge, z_is0, z_is1, z_is2, z_is3, z_is4, z_is5, z_in0, z_in1, z_in2, z_in3, z_in4, z_in5, z_inl, z_int, z_nil, z_nit, z_t0, z_t1, z_t2, z_t3, z_t4, z_t5, z_tr, z_isb, z_isb1, z_isb2, z_isb3, z_isb4, z_isb5, z_addb, z_subb, z_nsb, z_rvt, z_rvl, z_stp, z_srl, z_srt, z_sti, z_stb, z_shl, z_ixt, z_ixl, z_ixr, z_slt, z_sll, z_lent, z_lenl, z_lenr, z_suml, z_sumt, z_maxl, z_maxt, z_minl, z_bi, z_bb, z_tul, z_tut, z_tur, z_lil, z_lit, z_all, z_max2, z_min2, z_kt, z_kl, z_cot, z_col, z_da, z_ds0, z_ds1, z_sql, z_sqt, z_isLr, z_fn, z_fb, z_fi, z_fs, sn_0, sn_1, sn_2, sn_3, sn_4, sn_5, sn_6, sn_7, sn_8, sn_9, sn_10, sn_11, sn_12, sn_13, sn_14, sn_15, sn_16, sn_17, sn_18, sn_19, h3, z_eqi]
            exact hP
        · simp only [q_struck6, post_cons]
          simp [ex, xB_eq, ev, evs, evb, evt, evo, evi, evf, tst, K.val, Bz.isi, isOwn, post_bind, post_ok, post_lift, post_ite, post_noexc, post_nil, bind_ok, fk_nx, fk_rt, fr_nx, fr_rt, lift_some, sto, stoT, wipeS, z_add, z_adds, z_addt, z_addl, z_sub, z_mul, z_mult, z_mull, z_fdiv, z_mod, z_eq, z_ne, z_eqi, z_eqb, z_eqs, z_eqn, z_lt, z_le, z_gt, z_ge, z_is0, z_is1, z_is2, z_is3, z_is4, z_is5, z_in0, z_in1, z_in2, z_in3, z_in4, z_in5, z_inl, z_int, z_nil, z_nit, z_t0, z_t1, z_t2, z_t3, z_t4, z_t5, z_tr, z_isb, z_isb1, z_isb2, z_isb3, z_isb4, z_isb5, z_addb, z_subb, z_nsb, z_rvt, z_rvl, z_stp, z_srl, z_srt, z_sti, z_stb, z_shl, z_ixt, z_ixl, z_ixr, z_slt, z_sll, z_lent, z_lenl, z_lenr, z_suml, z_sumt, z_maxl, z_maxt, z_minl, z_bi, z_bb, z_tul, z_tut, z_tur, z_lil, z_lit, z_all, z_max2, z_min2, z_kt, z_kl, z_cot, z_col, z_da, z_ds0, z_ds1, z_sql, z_sqt, z_isLr, z_fn, z_fb, z_fi, z_fs, sn_0, sn_1, sn_2, sn_3, sn_4, sn_5, sn_6, sn_7, sn_8, sn_9, sn_10, sn_11, sn_12, sn_13, sn_14, sn_15, sn_16, sn_17, sn_18, sn_19, h2]
          simp [h2, h5, Fo.e, oP, oI, Pl.e] at hP
          simp only [q_struck5, post_cons]
          simp [ex, xB_eq, ev, evs, evb, evt, evo, evi, evf, tst, K.val, Bz.isi, isOwn, post_bind, post_ok, post_lift, post_ite, post_noexc, post_nil, bind_ok, fk_nx, fk_rt, fr_nx, fr_rt, lift_some, sto, stoT, wipeS, z_add, z_adds, z_addt, z_addl, z_sub, z_mul, z_mult, z_mull, z_fdiv, z_mod, z_eq, z_ne, z_eqi, z_eqb, z_eqs, z_eqn, z_lt, z_le, z_gt, z_ge, z_is0, z_is1, z_is2, z_is3, z_is4, z_is5, z_in0, z_in1, z_in2, z_in3, z_in4, z_in5, z_inl, z_int, z_nil, z_nit, z_t0, z_t1, z_t2, z_t3, z_t4, z_t5, z_tr, z_isb, z_isb1, z_isb2, z_isb3, z_isb4, z_isb5, z_addb, z_subb, z_nsb, z_rvt, z_rvl, z_stp, z_srl, z_srt, z_sti, z_stb, z_shl, z_ixt, z_ixl, z_ixr, z_slt, z_sll, z_lent, z_lenl, z_lenr, z_suml, z_sumt, z_maxl, z_maxt, z_minl, z_bi, z_bb, z_tul, z_tut, z_tur, z_lil, z_lit, z_all, z_max2, z_min2, z_kt, z_kl, z_cot, z_col, z_da, z_ds0, z_ds1, z_sql, z_sqt, z_isLr, z_fn, z_fb, z_fi, z_fs, sn_0, sn_1, sn_2, sn_3, sn_4, sn_5, sn_6, sn_7, sn_8, sn_9, sn_10, sn_11, sn_12, sn_13, sn_14, sn_15, sn_16, sn_17, sn_18, sn_19]
          exact hP
      · simp only [q_struck7, post_cons]
        simp [ex, xB_eq, ev, evs, evb, evt, evo, evi, evf, tst, K.val, Bz.isi, isOwn, post_bind, post_ok, post_lift, post_ite, post_noexc, post_nil, bind_ok, fk_nx, fk_rt, fr_nx, fr_rt, lift_some, sto, stoT, wipeS, z_add, z_adds, z_addt, z_addl, z_sub, z_mul, z_mult, z_mull, z_fdiv, z_mod, z_eq, z_ne, z_eqi, z_eqb, z_eqs, z_eqn, z_lt, z_le, z_gt, z_ge, z_is0, z_is1, z_is2, z_is3, z_is4, z_is5, z_in0, z_in1, z_in2, z_in3, z_in4, z_in5, z_inl, z_int, z_nil, z_nit, z_t0, z_t1, z_t2, z_t3, z_t4, z_t5, z_tr, z_isb, z_isb1, z_isb2, z_isb3, z_isb4, z_isb5, z_addb, z_subb, z_nsb, z_rvt, z_rvl, z_stp, z_srl, z_srt, z_sti, z_stb, z_shl, z_ixt, z_ixl, z_ixr, z_slt, z_sll, z_lent, z_lenl, z_lenr, z_suml, z_sumt, z_maxl, z_maxt, z_minl, z_bi, z_bb, z_tul, z_tut, z_tur, z_lil, z_lit, z_all, z_max2, z_min2, z_kt, z_kl, z_cot, z_col, z_da, z_ds0, z_ds1, z_sql, z_sqt, z_isLr, z_fn, z_fb, z_fi, z_fs, sn_0, sn_1, sn_2, sn_3, sn_4, sn_5, sn_6, sn_7, sn_8, sn_9, sn_10, sn_11, sn_12, sn_13, sn_14, sn_15, sn_16, sn_17, sn_18, sn_19, h5]
        by_cases h2 : 0 < gain
        · simp only [q_struck6, post_cons]
          simp [ex, xB_eq, ev, evs, evb, evt, evo, evi, evf, tst, K.val, Bz.isi, isOwn, post_bind, post_ok, post_lift, post_ite, post_noexc, post_nil, bind_ok, fk_nx, fk_rt, fr_nx, fr_rt, lift_some, sto, stoT, wipeS, z_add, z_adds, z_addt, z_addl, z_sub, z_mul, z_mult, z_mull, z_fdiv, z_mod, z_eq, z_ne, z_eqi, z_eqb, z_eqs, z_eqn, z_lt, z_le, z_gt, z_ge, z_is0, z_is1, z_is2, z_is3, z_is4, z_is5, z_in0, z_in1, z_in2, z_in3, z_in4, z_in5, z_inl, z_int, z_nil, z_nit, z_t0, z_t1, z_t2, z_t3, z_t4, z_t5, z_tr, z_isb, z_isb1, z_isb2, z_isb3, z_isb4, z_isb5, z_addb, z_subb, z_nsb, z_rvt, z_rvl, z_stp, z_srl, z_srt, z_sti, z_stb, z_shl, z_ixt, z_ixl, z_ixr, z_slt, z_sll, z_lent, z_lenl, z_lenr, z_suml, z_sumt, z_maxl, z_maxt, z_minl, z_bi, z_bb, z_tul, z_tut, z_tur, z_lil, z_lit, z_all, z_max2, z_min2, z_kt, z_kl, z_cot, z_col, z_da, z_ds0, z_ds1, z_sql, z_sqt, z_isLr, z_fn, z_fb, z_fi, z_fs, sn_0, sn_1, sn_2, sn_3, sn_4, sn_5, sn_6, sn_7, sn_8, sn_9, sn_10, sn_11, sn_12, sn_13, sn_14, sn_15, sn_16, sn_17, sn_18, sn_19, h2]
          by_cases h3 : p.on = 1
          · simp [h2, h3, h5, Fo.e, oP, oI, Pl.e] at hP
            simp only [q_struck4, post_cons]
            simp [ex, xB_eq, ev, evs, evb, evt, evo, evi, evf, tst, K.val, Bz.isi, isOwn, post_bind, post_ok, post_lift, post_ite, post_noexc, post_nil, bind_ok, fk_nx, fk_rt, fr_nx, fr_rt, lift_some, sto, stoT, wipeS, z_add, z_adds, z_addt, z_addl, z_sub, z_mul, z_mult, z_mull, z_fdiv, z_mod, z_eq, z_ne, z_eqi, z_eqb, z_eqs, z_eqn, z_lt, z_le, z_gt, z_ge, z_is0, z_is1, z_is2, z_is3, z_is4, z_is5, z_in0, z_in1, z_in2, z_in3, z_in4, z_in5, z_inl, z_int, z_nil, z_nit, z_t0, z_t1, z_t2, z_t3, z_t4, z_t5, z_tr, z_isb, z_isb1, z_isb2, z_isb3, z_isb4, z_isb5, z_addb, z_subb, z_nsb, z_rvt, z_rvl, z_stp, z_srl, z_srt, z_sti, z_stb, z_shl, z_ixt, z_ixl, z_ixr, z_slt, z_sll, z_lent, z_lenl, z_lenr, z_suml, z_sumt, z_maxl, z_maxt, z_minl, z_bi, z_bb, z_tul, z_tut, z_tur, z_lil, z_lit, z_all, z_max2, z_min2, z_kt, z_kl, z_cot, z_col, z_da, z_ds0, z_ds1, z_sql, z_sqt, z_isLr, z_fn, z_fb, z_fi, z_fs, sn_0, sn_1, sn_2, sn_3, sn_4, sn_5, sn_6, sn_7, sn_8, sn_9, sn_10, sn_11, sn_12, sn_13, sn_14, sn_15, sn_16, sn_17, sn_18, sn_19, h3, z_eqi]
            exact hP
          · simp [h2, h3, h5, Fo.e, oP, oI, Pl.e] at hP
            simp only [q_struck4, post_cons]
            simp [ex, xB_eq, ev, evs, evb, evt, evo, evi, evf, tst, K.val, Bz.isi, isOwn, post_bind, post_ok, post_lift, post_ite, post_noexc, post_nil, bind_ok, fk_nx, fk_rt, fr_nx, fr_rt, lift_some, sto, stoT, wipeS, z_add, z_adds, z_addt, z_addl, z_sub, z_mul, z_mult, z_mull, z_fdiv, z_mod, z_eq, z_ne, z_eqi, z_eqb, z_eqs, z_eqn, z_lt, z_le, z_gt, z_ge, z_is0, z_is1, z_is2, z_is3, z_is4, z_is5, z_in0, z_in1, z_in2, z_in3, z_in4, z_in5, z_inl, z_int, z_nil, z_nit, z_t0, z_t1, z_t2, z_t3, z_t4, z_t5, z_tr, z_isb, z_isb1, z_isb2, z_isb3, z_isb4, z_isb5, z_addb, z_subb, z_nsb, z_rvt, z_rvl, z_stp, z_srl, z_srt, z_sti, z_stb, z_shl, z_ixt, z_ixl, z_ixr, z_slt, z_sll, z_lent, z_lenl, z_lenr, z_suml, z_sumt, z_maxl, z_maxt, z_minl, z_bi, z_bb, z_tul, z_tut, z_tur, z_lil, z_lit, z_all, z_max2, z_min2, z_kt, z_kl, z_cot, z_col, z_da, z_ds0, z_ds1, z_sql, z_sqt, z_isLr, z_fn, z_fb, z_fi, z_fs, sn_0, sn_1, sn_2, sn_3, sn_4, sn_5, sn_6, sn_7, sn_8, sn_9, sn_10, sn_11, sn_12, sn_13, sn_14, sn_15, sn_16, sn_17, sn_18, sn_19, h3, z_eqi]
            exact hP
        · simp only [q_struck6, post_cons]
          simp [ex, xB_eq, ev, evs, evb, evt, evo, evi, evf, tst, K.val, Bz.isi, isOwn, post_bind, post_ok, post_lift, post_ite, post_noexc, post_nil, bind_ok, fk_nx, fk_rt, fr_nx, fr_rt, lift_some, sto, stoT, wipeS, z_add, z_adds, z_addt, z_addl, z_sub, z_mul, z_mult, z_mull, z_fdiv, z_mod, z_eq, z_ne, z_eqi, z_eqb, z_eqs, z_eqn, z_lt, z_le, z_gt, z_ge, z_is0, z_is1, z_is2, z_is3, z_is4, z_is5, z_in0, z_in1, z_in2, z_in3, z_in4, z_in5, z_inl, z_int, z_nil, z_nit, z_t0, z_t1, z_t2, z_t3, z_t4, z_t5, z_tr, z_isb, z_isb1, z_isb2, z_isb3, z_isb4, z_isb5, z_addb, z_subb, z_nsb, z_rvt, z_rvl, z_stp, z_srl, z_srt, z_sti, z_stb, z_shl, z_ixt, z_ixl, z_ixr, z_slt, z_sll, z_lent, z_lenl, z_lenr, z_suml, z_sumt, z_maxl, z_maxt, z_minl, z_bi, z_bb, z_tul, z_tut, z_tur, z_lil, z_lit, z_all, z_max2, z_min2, z_kt, z_kl, z_cot, z_col, z_da, z_ds0, z_ds1, z_sql, z_sqt, z_isLr, z_fn, z_fb, z_fi, z_fs, sn_0, sn_1, sn_2, sn_3, sn_4, sn_5, sn_6, sn_7, sn_8, sn_9, sn_10, sn_11, sn_12, sn_13, sn_14, sn_15, sn_16, sn_17, sn_18, sn_19, h2]
          simp [h2, h5, Fo.e, oP, oI, Pl.e] at hP
          simp only [q_struck5, post_cons]
          simp [ex, xB_eq, ev, evs, evb, evt, evo, evi, evf, tst, K.val, Bz.isi, isOwn, post_bind, post_ok, post_lift, post_ite, post_noexc, post_nil, bind_ok, fk_nx, fk_rt, fr_nx, fr_rt, lift_some, sto, stoT, wipeS, z_add, z_adds, z_addt, z_addl, z_sub, z_mul, z_mult, z_mull, z_fdiv, z_mod, z_eq, z_ne, z_eqi, z_eqb, z_eqs, z_eqn, z_lt, z_le, z_gt, z_ge, z_is0, z_is1, z_is2, z_is3, z_is4, z_is5, z_in0, z_in1, z_in2, z_in3, z_in4, z_in5, z_inl, z_int, z_nil, z_nit, z_t0, z_t1, z_t2, z_t3, z_t4, z_t5, z_tr, z_isb, z_isb1, z_isb2, z_isb3, z_isb4, z_isb5, z_addb, z_subb, z_nsb, z_rvt, z_rvl, z_stp, z_srl, z_srt, z_sti, z_stb, z_shl, z_ixt, z_ixl, z_ixr, z_slt, z_sll, z_lent, z_lenl, z_lenr, z_suml, z_sumt, z_maxl, z_maxt, z_minl, z_bi, z_bb, z_tul, z_tut, z_tur, z_lil, z_lit, z_all, z_max2, z_min2, z_kt, z_kl, z_cot, z_col, z_da, z_ds0, z_ds1, z_sql, z_sqt, z_isLr, z_fn, z_fb, z_fi, z_fs, sn_0, sn_1, sn_2, sn_3, sn_4, sn_5, sn_6, sn_7, sn_8, sn_9, sn_10, sn_11, sn_12, sn_13, sn_14, sn_15, sn_16, sn_17, sn_18, sn_19]
          exact hP
    have to10 : Post (xB (rn Gm (k + 3)) q_struck10 [.v (ru a b), .v (.d (.tuple [.int p.up, .int p.on, .int p.reds, .int p.low, .tuple [.int p.p0, .int p.p1], .int p.free])), .v (.d (.tuple [.int f, .tuple (ps.map .int), .bool off])), .v (.d (.int p.up)), .v (.d (.int p.on)), .v (.d (.int left)), .v (.d (.int p.low)), .v (.d (.tuple [.int q0, .int q1])), .v (.d (.int p.free)), .v (.d (.int (b + 1))), .v (.d (.int gain)), .v (.d (.int loss)), .v (.d (.bool false)), .non] st) (Fr P) := by
      have t := tail _ hP
      clear tail hP
      simp only [q_struck10, post_cons]
      simp [ex, xB_eq, ev, evs, evb, evt, evo, evi, evf, tst, K.val, Bz.isi, isOwn, post_bind, post_ok, post_lift, post_ite, post_noexc, post_nil, bind_ok, fk_nx, fk_rt, fr_nx, fr_rt, lift_some, sto, stoT, wipeS, z_add, z_adds, z_addt, z_addl, z_sub, z_mul, z_mult, z_mull, z_fdiv, z_mod, z_eq, z_ne, z_eqi, z_eqb, z_eqs, z_eqn, z_lt, z_le, z_gt, z_ge, z_is0, z_is1, z_is2, z_is3, z_is4, z_is5, z_in0, z_in1, z_in2, z_in3, z_in4, z_in5, z_inl, z_int, z_nil, z_nit, z_t0, z_t1, z_t2, z_t3, z_t4, z_t5, z_tr, z_isb, z_isb1, z_isb2, z_isb3, z_isb4, z_isb5, z_addb, z_subb, z_nsb, z_rvt, z_rvl, z_stp, z_srl, z_srt, z_sti, z_stb, z_shl, z_ixt, z_ixl, z_ixr, z_slt, z_sll, z_lent, z_lenl, z_lenr, z_suml, z_sumt, z_maxl, z_maxt, z_minl, z_bi, z_bb, z_tul, z_tut, z_tur, z_lil, z_lit, z_all, z_max2, z_min2, z_kt, z_kl, z_cot, z_col, z_da, z_ds0, z_ds1, z_sql, z_sqt, z_isLr, z_fn, z_fb, z_fi, z_fs, sn_0, sn_1, sn_2, sn_3, sn_4, sn_5, sn_6, sn_7, sn_8, sn_9, sn_10, sn_11, sn_12, sn_13, sn_14, sn_15, sn_16, sn_17, sn_18, sn_19]
      simp only [q_struck9, post_cons]
      simp [ex, xB_eq, ev, evs, evb, evt, evo, evi, evf, tst, K.val, Bz.isi, isOwn, post_bind, post_ok, post_lift, post_ite, post_noexc, post_nil, bind_ok, fk_nx, fk_rt, fr_nx, fr_rt, lift_some, sto, stoT, wipeS, z_add, z_adds, z_addt, z_addl, z_sub, z_mul, z_mult, z_mull, z_fdiv, z_mod, z_eq, z_ne, z_eqi, z_eqb, z_eqs, z_eqn, z_lt, z_le, z_gt, z_ge, z_is0, z_is1, z_is2, z_is3, z_is4, z_is5, z_in0, z_in1, z_in2, z_in3, z_in4, z_in5, z_inl, z_int, z_nil, z_nit, z_t0, z_t1, z_t2, z_t3, z_t4, z_t5, z_tr, z_isb, z_isb1, z_isb2, z_isb3, z_isb4, z_isb5, z_addb, z_subb, z_nsb, z_rvt, z_rvl, z_stp, z_srl, z_srt, z_sti, z_stb, z_shl, z_ixt, z_ixl, z_ixr, z_slt, z_sll, z_lent, z_lenl, z_lenr, z_suml, z_sumt, z_maxl, z_maxt, z_minl, z_bi, z_bb, z_tul, z_tut, z_tur, z_lil, z_lit, z_all, z_max2, z_min2, z_kt, z_kl, z_cot, z_col, z_da, z_ds0, z_ds1, z_sql, z_sqt, z_isLr, z_fn, z_fb, z_fi, z_fs, sn_0, sn_1, sn_2, sn_3, sn_4, sn_5, sn_6, sn_7, sn_8, sn_9, sn_10, sn_11, sn_12, sn_13, sn_14, sn_15, sn_16, sn_17, sn_18, sn_19]
      by_cases h2 : loss = 0
      · by_cases h3 : 1 < p.on
        · by_cases h4 : p.on ∈ ps
          · rw [if_pos ⟨h2, h3, h4⟩] at t
            simp only [q_struck8, post_cons]
            simp [ex, xB_eq, ev, evs, evb, evt, evo, evi, evf, tst, K.val, Bz.isi, isOwn, post_bind, post_ok, post_lift, post_ite, post_noexc, post_nil, bind_ok, fk_nx, fk_rt, fr_nx, fr_rt, lift_some, sto, stoT, wipeS, z_add, z_adds, z_addt, z_addl, z_sub, z_mul, z_mult, z_mull, z_fdiv, z_mod, z_eq, z_ne, z_eqi, z_eqb, z_eqs, z_eqn, z_lt, z_le, z_gt, z_ge, z_is0, z_is1, z_is2, z_is3, z_is4, z_is5, z_in0, z_in1, z_in2, z_in3, z_in4, z_in5, z_inl, z_int, z_nil, z_nit, z_t0, z_t1, z_t2, z_t3, z_t4, z_t5, z_tr, z_isb, z_isb1, z_isb2, z_isb3, z_isb4, z_isb5, z_addb, z_subb, z_nsb, z_rvt, z_rvl, z_stp, z_srl, z_srt, z_sti, z_stb, z_shl, z_ixt, z_ixl, z_ixr, z_slt, z_sll, z_lent, z_lenl, z_lenr, z_suml, z_sumt, z_maxl, z_maxt, z_minl, z_bi, z_bb, z_tul, z_tut, z_tur, z_lil, z_lit, z_all, z_max2, z_min2, z_kt, z_kl, z_cot, z_col, z_da, z_ds0, z_ds1, z_sql, z_sqt, z_isLr, z_fn, z_fb, z_fi, z_fs, sn_0, sn_1, sn_2, sn_3, sn_4, sn_5, sn_6, sn_7, sn_8, sn_9, sn_10, sn_11, sn_12, sn_13, sn_14, sn_15, sn_16, sn_17, sn_18, sn_19, z_eqi, h2, h3, h4, hse, flats, inD_ints]
            simp only [q_struck3, post_cons]
            simp [ex, xB_eq, ev, evs, evb, evt, evo, evi, evf, tst, K.val, Bz.isi, isOwn, post_bind, post_ok, post_lift, post_ite, post_noexc, post_nil, bind_ok, fk_nx, fk_rt, fr_nx, fr_rt, lift_some, sto, stoT, wipeS, z_add, z_adds, z_addt, z_addl, z_sub, z_mul, z_mult, z_mull, z_fdiv, z_mod, z_eq, z_ne, z_eqi, z_eqb, z_eqs, z_eqn, z_lt, z_le, z_gt, z_ge, z_is0, z_is1, z_is2, z_is3, z_is4, z_is5, z_in0, z_in1, z_in2, z_in3, z_in4, z_in5, z_inl, z_int, z_nil, z_nit, z_t0, z_t1, z_t2, z_t3, z_t4, z_t5, z_tr, z_isb, z_isb1, z_isb2, z_isb3, z_isb4, z_isb5, z_addb, z_subb, z_nsb, z_rvt, z_rvl, z_stp, z_srl, z_srt, z_sti, z_stb, z_shl, z_ixt, z_ixl, z_ixr, z_slt, z_sll, z_lent, z_lenl, z_lenr, z_suml, z_sumt, z_maxl, z_maxt, z_minl, z_bi, z_bb, z_tul, z_tut, z_tur, z_lil, z_lit, z_all, z_max2, z_min2, z_kt, z_kl, z_cot, z_col, z_da, z_ds0, z_ds1, z_sql, z_sqt, z_isLr, z_fn, z_fb, z_fi, z_fs, sn_0, sn_1, sn_2, sn_3, sn_4, sn_5, sn_6, sn_7, sn_8, sn_9, sn_10, sn_11, sn_12, sn_13, sn_14, sn_15, sn_16, sn_17, sn_18, sn_19]
            rw [h2] at t
            exact t
          · rw [if_neg fun q => h4 q.2.2, Int.add_zero, h2] at t
            simp only [q_struck8, post_cons]
            simp [ex, xB_eq, ev, evs, evb, evt, evo, evi, evf, tst, K.val, Bz.isi, isOwn, post_bind, post_ok, post_lift, post_ite, post_noexc, post_nil, bind_ok, fk_nx, fk_rt, fr_nx, fr_rt, lift_some, sto, stoT, wipeS, z_add, z_adds, z_addt, z_addl, z_sub, z_mul, z_mult, z_mull, z_fdiv, z_mod, z_eq, z_ne, z_eqi, z_eqb, z_eqs, z_eqn, z_lt, z_le, z_gt, z_ge, z_is0, z_is1, z_is2, z_is3, z_is4, z_is5, z_in0, z_in1, z_in2, z_in3, z_in4, z_in5, z_inl, z_int, z_nil, z_nit, z_t0, z_t1, z_t2, z_t3, z_t4, z_t5, z_tr, z_isb, z_isb1, z_isb2, z_isb3, z_isb4, z_isb5, z_addb, z_subb, z_nsb, z_rvt, z_rvl, z_stp, z_srl, z_srt, z_sti, z_stb, z_shl, z_ixt, z_ixl, z_ixr, z_slt, z_sll, z_lent, z_lenl, z_lenr, z_suml, z_sumt, z_maxl, z_maxt, z_minl, z_bi, z_bb, z_tul, z_tut, z_tur, z_lil, z_lit, z_all, z_max2, z_min2, z_kt, z_kl, z_cot, z_col, z_da, z_ds0, z_ds1, z_sql, z_sqt, z_isLr, z_fn, z_fb, z_fi, z_fs, sn_0, sn_1, sn_2, sn_3, sn_4, sn_5, sn_6, sn_7, sn_8, sn_9, sn_10, sn_11, sn_12, sn_13, sn_14, sn_15, sn_16, sn_17, sn_18, sn_19, z_eqi, h2, h3, h4, hse, flats, inD_ints]
            exact t
        · rw [if_neg fun q => h3 q.2.1, Int.add_zero, h2] at t
          simp only [q_struck8, post_cons]
          simp [ex, xB_eq, ev, evs, evb, evt, evo, evi, evf, tst, K.val, Bz.isi, isOwn, post_bind, post_ok, post_lift, post_ite, post_noexc, post_nil, bind_ok, fk_nx, fk_rt, fr_nx, fr_rt, lift_some, sto, stoT, wipeS, z_add, z_adds, z_addt, z_addl, z_sub, z_mul, z_mult, z_mull, z_fdiv, z_mod, z_eq, z_ne, z_eqi, z_eqb, z_eqs, z_eqn, z_lt, z_le, z_gt, z_ge, z_is0, z_is1, z_is2, z_is3, z_is4, z_is5, z_in0, z_in1, z_in2, z_in3, z_in4, z_in5, z_inl, z_int, z_nil, z_nit, z_t0, z_t1, z_t2, z_t3, z_t4, z_t5, z_tr, z_isb, z_isb1, z_isb2, z_isb3, z_isb4, z_isb5, z_addb, z_subb, z_nsb, z_rvt, z_rvl, z_stp, z_srl, z_srt, z_sti, z_stb, z_shl, z_ixt, z_ixl, z_ixr, z_slt, z_sll, z_lent, z_lenl, z_lenr, z_suml, z_sumt, z_maxl, z_maxt, z_minl, z_bi, z_bb, z_tul, z_tut, z_tur, z_lil, z_lit, z_all, z_max2, z_min2, z_kt, z_kl, z_cot, z_col, z_da, z_ds0, z_ds1, z_sql, z_sqt, z_isLr, z_fn, z_fb, z_fi, z_fs, sn_0, sn_1, sn_2, sn_3, sn_4, sn_5, sn_6, sn_7, sn_8, sn_9, sn_10, sn_11, sn_12, sn_13, sn_14, sn_15, sn_16, sn_17, sn_18, sn_19, z_eqi, h2, h3]
          exact t
      · rw [if_neg fun q => h2 q.1, Int.add_zero] at t
        simp only [q_struck8, post_cons]
        simp [ex, xB_eq, ev, evs, evb, evt, evo, evi, evf, tst, K.val, Bz.isi, isOwn, post_bind, post_ok, post_lift, post_ite, post_noexc, post_nil, bind_ok, fk_nx, fk_rt, fr_nx, fr_rt, lift_some, sto, stoT, wipeS, z_add, z_adds, z_addt, z_addl, z_sub, z_mul, z_mult, z_mull, z_fdiv, z_mod, z_eq, z_ne, z_eqi, z_eqb, z_eqs, z_eqn, z_lt, z_le, z_gt, z_ge, z_is0, z_is1, z_is2, z_is3, z_is4, z_is5, z_in0, z_in1, z_in2, z_in3, z_in4, z_in5, z_inl, z_int, z_nil, z_nit, z_t0, z_t1, z_t2, z_t3, z_t4, z_t5, z_tr, z_isb, z_isb1, z_isb2, z_isb3, z_isb4, z_isb5, z_addb, z_subb, z_nsb, z_rvt, z_rvl, z_stp, z_srl, z_srt, z_sti, z_stb, z_shl, z_ixt, z_ixl, z_ixr, z_slt, z_sll, z_lent, z_lenl, z_lenr, z_suml, z_sumt, z_maxl, z_maxt, z_minl, z_bi, z_bb, z_tul, z_tut, z_tur, z_lil, z_lit, z_all, z_max2, z_min2, z_kt, z_kl, z_cot, z_col, z_da, z_ds0, z_ds1, z_sql, z_sqt, z_isLr, z_fn, z_fb, z_fi, z_fs, sn_0, sn_1, sn_2, sn_3, sn_4, sn_5, sn_6, sn_7, sn_8, sn_9, sn_10, sn_11, sn_12, sn_13, sn_14, sn_15, sn_16, sn_17, sn_18, sn_19, z_eqi, h2]
        exact t
    by_cases h2 : p.on = b + 1
    · have h3 : ¬ 0 < loss := fun q => h1 ⟨h2, .inl q⟩
      have h4 : ¬ b + 1 ∈ ps := fun q => h1 ⟨h2, .inr q⟩
      rw [h2] at to10 ⊢
      simp only [q_struck11, post_cons]
      simp [ex, xB_eq, ev, evs, evb, evt, evo, evi, evf, tst, K.val, Bz.isi, isOwn, post_bind, post_ok, post_lift, post_ite, post_noexc, post_nil, bind_ok, fk_nx, fk_rt, fr_nx, fr_rt, lift_some, sto, stoT, wipeS, z_add, z_adds, z_addt, z_addl, z_sub, z_mul, z_mult, z_mull, z_fdiv, z_mod, z_eq, z_ne, z_eqi, z_eqb, z_eqs, z_eqn, z_lt, z_le, z_gt, z_ge, z_is0, z_is1, z_is2, z_is3, z_is4, z_is5, z_in0, z_in1, z_in2, z_in3, z_in4, z_in5, z_inl, z_int, z_nil, z_nit, z_t0, z_t1, z_t2, z_t3, z_t4, z_t5, z_tr, z_isb, z_isb1, z_isb2, z_isb3, z_isb4, z_isb5, z_addb, z_subb, z_nsb, z_rvt, z_rvl, z_stp, z_srl, z_srt, z_sti, z_stb, z_shl, z_ixt, z_ixl, z_ixr, z_slt, z_sll, z_lent, z_lenl, z_lenr, z_suml, z_sumt, z_maxl, z_maxt, z_minl, z_bi, z_bb, z_tul, z_tut, z_tur, z_lil, z_lit, z_all, z_max2, z_min2, z_kt, z_kl, z_cot, z_col, z_da, z_ds0, z_ds1, z_sql, z_sqt, z_isLr, z_fn, z_fb, z_fi, z_fs, sn_0, sn_1, sn_2, sn_3, sn_4, sn_5, sn_6, sn_7, sn_8, sn_9, sn_10, sn_11, sn_12, sn_13, sn_14, sn_15, sn_16, sn_17, sn_18, sn_19, z_eqi, h3, hse, flats, inD_ints, h4]
      exact to10
    · simp only [q_struck11, post_cons]
      simp [ex, xB_eq, ev, evs, evb, evt, evo, evi, evf, tst, K.val, Bz.isi, isOwn, post_bind, post_ok, post_lift, post_ite, post_noexc, post_nil, bind_ok, fk_nx, fk_rt, fr_nx, fr_rt, lift_some, sto, stoT, wipeS, z_add, z_adds, z_addt, z_addl, z_sub, z_mul, z_mult, z_mull, z_fdiv, z_mod, z_eq, z_ne, z_eqi, z_eqb, z_eqs, z_eqn, z_lt, z_le, z_gt, z_ge, z_is0, z_is1, z_is2, z_is3, z_is4, z_is5, z_in0, z_in1, z_in2, z_in3, z_in4, z_in5, z_inl, z_int, z_nil, z_nit, z_t0, z_t1, z_t2, z_t3, z_t4, z_t5, z_tr, z_isb, z_isb1, z_isb2, z_isb3, z_isb4, z_isb5, z_addb, z_subb, z_nsb, z_rvt, z_rvl, z_stp, z_srl, z_srt, z_sti, z_stb, z_shl, z_ixt, z_ixl, z_ixr, z_slt, z_sll, z_lent, z_lenl, z_lenr, z_suml, z_sumt, z_maxl, z_maxt, z_minl, z_bi, z_bb, z_tul, z_tut, z_tur, z_lil, z_lit, z_all, z_max2, z_min2, z_kt, z_kl, z_cot, z_col, z_da, z_ds0, z_ds1, z_sql, z_sqt, z_isLr, z_fn, z_fb, z_fi, z_fs, sn_0, sn_1, sn_2, sn_3, sn_4, sn_5, sn_6, sn_7, sn_8, sn_9, sn_10, sn_11, sn_12, sn_13, sn_14, sn_15, sn_16, sn_17, sn_18, sn_19, z_eqi, h2]
      exact to10
theorem behind_ok {k : Nat} {a b : Int} {p : Pl} {d : Dd} {fo : Fo} {st : Stt} (hp : PlOk a b p) (hd : DdOk a b d) (hb : 1 ≤ b) (e : moved b p d = some fo) : rn Gm (k + 5) 34 [ru a b, .d p.e, .d d.e] st = .ok (.d fo.e) st := by
  refine Post.eqQ fun P hP => ?_
  rw [run_at (d := ⟨9, 3, b_behind⟩) rfl]
  rw [post_runB]
  refine ⟨rfl, ?_⟩
  have hpe : p.e = .tuple [.int p.up, .int p.on, .int p.reds, .int p.low, .tuple [.int p.p0, .int p.p1], .int p.free] := rfl
  cases d with
  | give =>
    simp only [moved, Option.some.injEq] at e
    subst e
    simp only [b_behind, post_cons]
    simp [ex, xB_eq, ev, evs, evb, evt, evo, evi, evf, tst, K.val, Bz.isi, isOwn, post_bind, post_ok, post_lift, post_ite, post_noexc, post_nil, bind_ok, fk_nx, fk_rt, fr_nx, fr_rt, lift_some, sto, stoT, wipeS, z_add, z_adds, z_addt, z_addl, z_sub, z_mul, z_mult, z_mull, z_fdiv, z_mod, z_eq, z_ne, z_eqi, z_eqb, z_eqs, z_eqn, z_lt, z_le, z_gt, z_ge, z_is0, z_is1, z_is2, z_is3, z_is4, z_is5, z_in0, z_in1, z_in2, z_in3, z_in4, z_in5, z_inl, z_int, z_nil, z_nit, z_t0, z_t1, z_t2, z_t3, z_t4, z_t5, z_tr, z_isb, z_isb1, z_isb2, z_isb3, z_isb4, z_isb5, z_addb, z_subb, z_nsb, z_rvt, z_rvl, z_stp, z_srl, z_srt, z_sti, z_stb, z_shl, z_ixt, z_ixl, z_ixr, z_slt, z_sll, z_lent, z_lenl, z_lenr, z_suml, z_sumt, z_maxl, z_maxt, z_minl, z_bi, z_bb, z_tul, z_tut, z_tur, z_lil, z_lit, z_all, z_max2, z_min2, z_kt, z_kl, z_cot, z_col, z_da, z_ds0, z_ds1, z_sql, z_sqt, z_isLr, z_fn, z_fb, z_fi, z_fs, sn_0, sn_1, sn_2, sn_3, sn_4, sn_5, sn_6, sn_7, sn_8, sn_9, sn_10, sn_11, sn_12, sn_13, sn_14, sn_15, sn_16, sn_17, sn_18, sn_19, hpe, Dd.e]
    simp only [q_behind11, post_cons]
    simp [ex, xB_eq, ev, evs, evb, evt, evo, evi, evf, tst, K.val, Bz.isi, isOwn, post_bind, post_ok, post_lift, post_ite, post_noexc, post_nil, bind_ok, fk_nx, fk_rt, fr_nx, fr_rt, lift_some, sto, stoT, wipeS, z_add, z_adds, z_addt, z_addl, z_sub, z_mul, z_mult, z_mull, z_fdiv, z_mod, z_eq, z_ne, z_eqi, z_eqb, z_eqs, z_eqn, z_lt, z_le, z_gt, z_ge, z_is0, z_is1, z_is2, z_is3, z_is4, z_is5, z_in0, z_in1, z_in2, z_in3, z_in4, z_in5, z_inl, z_int, z_nil, z_nit, z_t0, z_t1, z_t2, z_t3, z_t4, z_t5, z_tr, z_isb, z_isb1, z_isb2, z_isb3, z_isb4, z_isb5, z_addb, z_subb, z_nsb, z_rvt, z_rvl, z_stp, z_srl, z_srt, z_sti, z_stb, z_shl, z_ixt, z_ixl, z_ixr, z_slt, z_sll, z_lent, z_lenl, z_lenr, z_suml, z_sumt, z_maxl, z_maxt, z_minl, z_bi, z_bb, z_tul, z_tut, z_tur, z_lil, z_lit, z_all, z_max2, z_min2, z_kt, z_kl, z_cot, z_col, z_da, z_ds0, z_ds1, z_sql, z_sqt, z_isLr, z_fn, z_fb, z_fi, z_fs, sn_0, sn_1, sn_2, sn_3, sn_4, sn_5, sn_6, sn_7, sn_8, sn_9, sn_10, sn_11, sn_12, sn_13, sn_14, sn_15, sn_16, sn_17, sn_18, sn_19, L2.atI, L2.ixN]
    simp only [q_behind1, post_cons]
    simp [ex, xB_eq, ev, evs, evb, evt, evo, evi, evf, tst, K.val, Bz.isi, isOwn, post_bind, post_ok, post_lift, post_ite, post_noexc, post_nil, bind_ok, fk_nx, fk_rt, fr_nx, fr_rt, lift_some, sto, stoT, wipeS, z_add, z_adds, z_addt, z_addl, z_sub, z_mul, z_mult, z_mull, z_fdiv, z_mod, z_eq, z_ne, z_eqi, z_eqb, z_eqs, z_eqn, z_lt, z_le, z_gt, z_ge, z_is0, z_is1, z_is2, z_is3, z_is4, z_is5, z_in0, z_in1, z_in2, z_in3, z_in4, z_in5, z_inl, z_int, z_nil, z_nit, z_t0, z_t1, z_t2, z_t3, z_t4, z_t5, z_tr, z_isb, z_isb1, z_isb2, z_isb3, z_isb4, z_isb5, z_addb, z_subb, z_nsb, z_rvt, z_rvl, z_stp, z_srl, z_srt, z_sti, z_stb, z_shl, z_ixt, z_ixl, z_ixr, z_slt, z_sll, z_lent, z_lenl, z_lenr, z_suml, z_sumt, z_maxl, z_maxt, z_minl, z_bi, z_bb, z_tul, z_tut, z_tur, z_lil, z_lit, z_all, z_max2, z_min2, z_kt, z_kl, z_cot, z_col, z_da, z_ds0, z_ds1, z_sql, z_sqt, z_isLr, z_fn, z_fb, z_fi, z_fs, sn_0, sn_1, sn_2, sn_3, sn_4, sn_5, sn_6, sn_7, sn_8, sn_9, sn_10, sn_11, sn_12, sn_13, sn_14, sn_15, sn_16, sn_17, sn_18, sn_19]
    exact hP
  | free =>
    simp only [moved] at e
    split at e
    · cases e
    · rename_i hne
      simp only [not_or, Classical.not_not] at hne
      cases e
      simp only [b_behind, post_cons]
      simp [ex, xB_eq, ev, evs, evb, evt, evo, evi, evf, tst, K.val, Bz.isi, isOwn, post_bind, post_ok, post_lift, post_ite, post_noexc, post_nil, bind_ok, fk_nx, fk_rt, fr_nx, fr_rt, lift_some, sto, stoT, wipeS, z_add, z_adds, z_addt, z_addl, z_sub, z_mul, z_mult, z_mull, z_fdiv, z_mod, z_eq, z_ne, z_eqi, z_eqb, z_eqs, z_eqn, z_lt, z_le, z_gt, z_ge, z_is0, z_is1, z_is2, z_is3, z_is4, z_is5, z_in0, z_in1, z_in2, z_in3, z_in4, z_in5, z_inl, z_int, z_nil, z_nit, z_t0, z_t1, z_t2, z_t3, z_t4, z_t5, z_tr, z_isb, z_isb1, z_isb2, z_isb3, z_isb4, z_isb5, z_addb, z_subb, z_nsb, z_rvt, z_rvl, z_stp, z_srl, z_srt, z_sti, z_stb, z_shl, z_ixt, z_ixl, z_ixr, z_slt, z_sll, z_lent, z_lenl, z_lenr, z_suml, z_sumt, z_maxl, z_maxt, z_minl, z_bi, z_bb, z_tul, z_tut, z_tur, z_lil, z_lit, z_all, z_max2, z_min2, z_kt, z_kl, z_cot, z_col, z_da, z_ds0, z_ds1, z_sql, z_sqt, z_isLr, z_fn, z_fb, z_fi, z_fs, sn_0, sn_1, sn_2, sn_3, sn_4, sn_5, sn_6, sn_7, sn_8, sn_9, sn_10, sn_11, sn_12, sn_13, sn_14, sn_15, sn_16, sn_17, sn_18, sn_19, hpe, Dd.e]
      simp only [q_behind11, post_cons]
      simp [ex, xB_eq, ev, evs, evb, evt, evo, evi, evf, tst, K.val, Bz.isi, isOwn, post_bind, post_ok, post_lift, post_ite, post_noexc, post_nil, bind_ok, fk_nx, fk_rt, fr_nx, fr_rt, lift_some, sto, stoT, wipeS, z_add, z_adds, z_addt, z_addl, z_sub, z_mul, z_mult, z_mull, z_fdiv, z_mod, z_eq, z_ne, z_eqi, z_eqb, z_eqs, z_eqn, z_lt, z_le, z_gt, z_ge, z_is0, z_is1, z_is2, z_is3, z_is4, z_is5, z_in0, z_in1, z_in2, z_in3, z_in4, z_in5, z_inl, z_int, z_nil, z_nit, z_t0, z_t1, z_t2, z_t3, z_t4, z_t5, z_tr, z_isb, z_isb1, z_isb2, z_isb3, z_isb4, z_isb5, z_addb, z_subb, z_nsb, z_rvt, z_rvl, z_stp, z_srl, z_srt, z_sti, z_stb, z_shl, z_ixt, z_ixl, z_ixr, z_slt, z_sll, z_lent, z_lenl, z_lenr, z_suml, z_sumt, z_maxl, z_maxt, z_minl, z_bi, z_bb, z_tul, z_tut, z_tur, z_lil, z_lit, z_all, z_max2, z_min2, z_kt, z_kl, z_cot, z_col, z_da, z_ds0, z_ds1, z_sql, z_sqt, z_isLr, z_fn, z_fb, z_fi, z_fs, sn_0, sn_1, sn_2, sn_3, sn_4, sn_5, sn_6, sn_7, sn_8, sn_9, sn_10, sn_11, sn_12, sn_13, sn_14, sn_15, sn_16, sn_17, sn_18, sn_19, L2.atI, L2.ixN]
      simp only [q_behind10, post_cons]
      simp [ex, xB_eq, ev, evs, evb, evt, evo, evi, evf, tst, K.val, Bz.isi, isOwn, post_bind, post_ok, post_lift, post_ite, post_noexc, post_nil, bind_ok, fk_nx, fk_rt, fr_nx, fr_rt, lift_some, sto, stoT, wipeS, z_add, z_adds, z_addt, z_addl, z_sub, z_mul, z_mult, z_mull, z_fdiv, z_mod, z_eq, z_ne, z_eqi, z_eqb, z_eqs, z_eqn, z_lt, z_le, z_gt, z_ge, z_is0, z_is1, z_is2, z_is3, z_is4, z_is5, z_in0, z_in1, z_in2, z_in3, z_in4, z_in5, z_inl, z_int, z_nil, z_nit, z_t0, z_t1, z_t2, z_t3, z_t4, z_t5, z_tr, z_isb, z_isb1, z_isb2, z_isb3, z_isb4, z_isb5, z_addb, z_subb, z_nsb, z_rvt, z_rvl, z_stp, z_srl, z_srt, z_sti, z_stb, z_shl, z_ixt, z_ixl, z_ixr, z_slt, z_sll, z_lent, z_lenl, z_lenr, z_suml, z_sumt, z_maxl, z_maxt, z_minl, z_bi, z_bb, z_tul, z_tut, z_tur, z_lil, z_lit, z_all, z_max2, z_min2, z_kt, z_kl, z_cot, z_col, z_da, z_ds0, z_ds1, z_sql, z_sqt, z_isLr, z_fn, z_fb, z_fi, z_fs, sn_0, sn_1, sn_2, sn_3, sn_4, sn_5, sn_6, sn_7, sn_8, sn_9, sn_10, sn_11, sn_12, sn_13, sn_14, sn_15, sn_16, sn_17, sn_18, sn_19, L2.atI, L2.ixN]
      simp only [q_behind9, post_cons]
      simp [ex, xB_eq, ev, evs, evb, evt, evo, evi, evf, tst, K.val, Bz.isi, isOwn, post_bind, post_ok, post_lift, post_ite, post_noexc, post_nil, bind_ok, fk_nx, fk_rt, fr_nx, fr_rt, lift_some, sto, stoT, wipeS, z_add, z_adds, z_addt, z_addl, z_sub, z_mul, z_mult, z_mull, z_fdiv, z_mod, z_eq, z_ne, z_eqi, z_eqb, z_eqs, z_eqn, z_lt, z_le, z_gt, z_ge, z_is0, z_is1, z_is2, z_is3, z_is4, z_is5, z_in0, z_in1, z_in2, z_in3, z_in4, z_in5, z_inl, z_int, z_nil, z_nit, z_t0, z_t1, z_t2, z_t3, z_t4, z_t5, z_tr, z_isb, z_isb1, z_isb2, z_isb3, z_isb4, z_isb5, z_addb, z_subb, z_nsb, z_rvt, z_rvl, z_stp, z_srl, z_srt, z_sti, z_stb, z_shl, z_ixt, z_ixl, z_ixr, z_slt, z_sll, z_lent, z_lenl, z_lenr, z_suml, z_sumt, z_maxl, z_maxt, z_minl, z_bi, z_bb, z_tul, z_tut, z_tur, z_lil, z_lit, z_all, z_max2, z_min2, z_kt, z_kl, z_cot, z_col, z_da, z_ds0, z_ds1, z_sql, z_sqt, z_isLr, z_fn, z_fb, z_fi, z_fs, sn_0, sn_1, sn_2, sn_3, sn_4, sn_5, sn_6, sn_7, sn_8, sn_9, sn_10, sn_11, sn_12, sn_13, sn_14, sn_15, sn_16, sn_17, sn_18, sn_19, L2.atI, L2.ixN, z_eqi, hne.1, hne.2, top_ok]
      simp only [q_behind8, post_cons]
      simp [ex, xB_eq, ev, evs, evb, evt, evo, evi, evf, tst, K.val, Bz.isi, isOwn, post_bind, post_ok, post_lift, post_ite, post_noexc, post_nil, bind_ok, fk_nx, fk_rt, fr_nx, fr_rt, lift_some, sto, stoT, wipeS, z_add, z_adds, z_addt, z_addl, z_sub, z_mul, z_mult, z_mull, z_fdiv, z_mod, z_eq, z_ne, z_eqi, z_eqb, z_eqs, z_eqn, z_lt, z_le, z_gt, z_ge, z_is0, z_is1, z_is2, z_is3, z_is4, z_is5, z_in0, z_in1, z_in2, z_in3, z_in4, z_in5, z_inl, z_int, z_nil, z_nit, z_t0, z_t1, z_t2, z_t3, z_t4, z_t5, z_tr, z_isb, z_isb1, z_isb2, z_isb3, z_isb4, z_isb5, z_addb, z_subb, z_nsb, z_rvt, z_rvl, z_stp, z_srl, z_srt, z_sti, z_stb, z_shl, z_ixt, z_ixl, z_ixr, z_slt, z_sll, z_lent, z_lenl, z_lenr, z_suml, z_sumt, z_maxl, z_maxt, z_minl, z_bi, z_bb, z_tul, z_tut, z_tur, z_lil, z_lit, z_all, z_max2, z_min2, z_kt, z_kl, z_cot, z_col, z_da, z_ds0, z_ds1, z_sql, z_sqt, z_isLr, z_fn, z_fb, z_fi, z_fs, sn_0, sn_1, sn_2, sn_3, sn_4, sn_5, sn_6, sn_7, sn_8, sn_9, sn_10, sn_11, sn_12, sn_13, sn_14, sn_15, sn_16, sn_17, sn_18, sn_19, L2.atI, L2.ixN]
      simp only [q_behind6, post_cons]
      simp [ex, xB_eq, ev, evs, evb, evt, evo, evi, evf, tst, K.val, Bz.isi, isOwn, post_bind, post_ok, post_lift, post_ite, post_noexc, post_nil, bind_ok, fk_nx, fk_rt, fr_nx, fr_rt, lift_some, sto, stoT, wipeS, z_add, z_adds, z_addt, z_addl, z_sub, z_mul, z_mult, z_mull, z_fdiv, z_mod, z_eq, z_ne, z_eqi, z_eqb, z_eqs, z_eqn, z_lt, z_le, z_gt, z_ge, z_is0, z_is1, z_is2, z_is3, z_is4, z_is5, z_in0, z_in1, z_in2, z_in3, z_in4, z_in5, z_inl, z_int, z_nil, z_nit, z_t0, z_t1, z_t2, z_t3, z_t4, z_t5, z_tr, z_isb, z_isb1, z_isb2, z_isb3, z_isb4, z_isb5, z_addb, z_subb, z_nsb, z_rvt, z_rvl, z_stp, z_srl, z_srt, z_sti, z_stb, z_shl, z_ixt, z_ixl, z_ixr, z_slt, z_sll, z_lent, z_lenl, z_lenr, z_suml, z_sumt, z_maxl, z_maxt, z_minl, z_bi, z_bb, z_tul, z_tut, z_tur, z_lil, z_lit, z_all, z_max2, z_min2, z_kt, z_kl, z_cot, z_col, z_da, z_ds0, z_ds1, z_sql, z_sqt, z_isLr, z_fn, z_fb, z_fi, z_fs, sn_0, sn_1, sn_2, sn_3, sn_4, sn_5, sn_6, sn_7, sn_8, sn_9, sn_10, sn_11, sn_12, sn_13, sn_14, sn_15, sn_16, sn_17, sn_18, sn_19]
      exact hP
  | pass =>
    simp only [moved] at e
    split at e
    · cases e
    · rename_i hne
      simp only [Classical.not_not] at hne
      cases e
      simp only [b_behind, post_cons]
      simp [ex, xB_eq, ev, evs, evb, evt, evo, evi, evf, tst, K.val, Bz.isi, isOwn, post_bind, post_ok, post_lift, post_ite, post_noexc, post_nil, bind_ok, fk_nx, fk_rt, fr_nx, fr_rt, lift_some, sto, stoT, wipeS, z_add, z_adds, z_addt, z_addl, z_sub, z_mul, z_mult, z_mull, z_fdiv, z_mod, z_eq, z_ne, z_eqi, z_eqb, z_eqs, z_eqn, z_lt, z_le, z_gt, z_ge, z_is0, z_is1, z_is2, z_is3, z_is4, z_is5, z_in0, z_in1, z_in2, z_in3, z_in4, z_in5, z_inl, z_int, z_nil, z_nit, z_t0, z_t1, z_t2, z_t3, z_t4, z_t5, z_tr, z_isb, z_isb1, z_isb2, z_isb3, z_isb4, z_isb5, z_addb, z_subb, z_nsb, z_rvt, z_rvl, z_stp, z_srl, z_srt, z_sti, z_stb, z_shl, z_ixt, z_ixl, z_ixr, z_slt, z_sll, z_lent, z_lenl, z_lenr, z_suml, z_sumt, z_maxl, z_maxt, z_minl, z_bi, z_bb, z_tul, z_tut, z_tur, z_lil, z_lit, z_all, z_max2, z_min2, z_kt, z_kl, z_cot, z_col, z_da, z_ds0, z_ds1, z_sql, z_sqt, z_isLr, z_fn, z_fb, z_fi, z_fs, sn_0, sn_1, sn_2, sn_3, sn_4, sn_5, sn_6, sn_7, sn_8, sn_9, sn_10, sn_11, sn_12, sn_13, sn_14, sn_15, sn_16, sn_17, sn_18, sn_19, hpe, Dd.e]
      simp only [q_behind11, post_cons]
      simp [ex, xB_eq, ev, evs, evb, evt, evo, evi, evf, tst, K.val, Bz.isi, isOwn, post_bind, post_ok, post_lift, post_ite, post_noexc, post_nil, bind_ok, fk_nx, fk_rt, fr_nx, fr_rt, lift_some, sto, stoT, wipeS, z_add, z_adds, z_addt, z_addl, z_sub, z_mul, z_mult, z_mull, z_fdiv, z_mod, z_eq, z_ne, z_eqi, z_eqb, z_eqs, z_eqn, z_lt, z_le, z_gt, z_ge, z_is0, z_is1, z_is2, z_is3, z_is4, z_is5, z_in0, z_in1, z_in2, z_in3, z_in4, z_in5, z_inl, z_int, z_nil, z_nit, z_t0, z_t1, z_t2, z_t3, z_t4, z_t5, z_tr, z_isb, z_isb1, z_isb2, z_isb3, z_isb4, z_isb5, z_addb, z_subb, z_nsb, z_rvt, z_rvl, z_stp, z_srl, z_srt, z_sti, z_stb, z_shl, z_ixt, z_ixl, z_ixr, z_slt, z_sll, z_lent, z_lenl, z_lenr, z_suml, z_sumt, z_maxl, z_maxt, z_minl, z_bi, z_bb, z_tul, z_tut, z_tur, z_lil, z_lit, z_all, z_max2, z_min2, z_kt, z_kl, z_cot, z_col, z_da, z_ds0, z_ds1, z_sql, z_sqt, z_isLr, z_fn, z_fb, z_fi, z_fs, sn_0, sn_1, sn_2, sn_3, sn_4, sn_5, sn_6, sn_7, sn_8, sn_9, sn_10, sn_11, sn_12, sn_13, sn_14, sn_15, sn_16, sn_17, sn_18, sn_19, L2.atI, L2.ixN]
      simp only [q_behind10, post_cons]
      simp [ex, xB_eq, ev, evs, evb, evt, evo, evi, evf, tst, K.val, Bz.isi, isOwn, post_bind, post_ok, post_lift, post_ite, post_noexc, post_nil, bind_ok, fk_nx, fk_rt, fr_nx, fr_rt, lift_some, sto, stoT, wipeS, z_add, z_adds, z_addt, z_addl, z_sub, z_mul, z_mult, z_mull, z_fdiv, z_mod, z_eq, z_ne, z_eqi, z_eqb, z_eqs, z_eqn, z_lt, z_le, z_gt, z_ge, z_is0, z_is1, z_is2, z_is3, z_is4, z_is5, z_in0, z_in1, z_in2, z_in3, z_in4, z_in5, z_inl, z_int, z_nil, z_nit, z_t0, z_t1, z_t2, z_t3, z_t4, z_t5, z_tr, z_isb, z_isb1, z_isb2, z_isb3, z_isb4, z_isb5, z_addb, z_subb, z_nsb, z_rvt, z_rvl, z_stp, z_srl, z_srt, z_sti, z_stb, z_shl, z_ixt, z_ixl, z_ixr, z_slt, z_sll, z_lent, z_lenl, z_lenr, z_suml, z_sumt, z_maxl, z_maxt, z_minl, z_bi, z_bb, z_tul, z_tut, z_tur, z_lil, z_lit, z_all, z_max2, z_min2, z_kt, z_kl, z_cot, z_col, z_da, z_ds0, z_ds1, z_sql, z_sqt, z_isLr, z_fn, z_fb, z_fi, z_fs, sn_0, sn_1, sn_2, sn_3, sn_4, sn_5, sn_6, sn_7, sn_8, sn_9, sn_10, sn_11, sn_12, sn_13, sn_14, sn_15, sn_16, sn_17, sn_18, sn_19, L2.atI, L2.ixN]
      simp only [q_behind9, post_cons]
      simp [ex, xB_eq, ev, evs, evb, evt, evo, evi, evf, tst, K.val, Bz.isi, isOwn, post_bind, post_ok, post_lift, post_ite, post_noexc, post_nil, bind_ok, fk_nx, fk_rt, fr_nx, fr_rt, lift_some, sto, stoT, wipeS, z_add, z_adds, z_addt, z_addl, z_sub, z_mul, z_mult, z_mull, z_fdiv, z_mod, z_eq, z_ne, z_eqi, z_eqb, z_eqs, z_eqn, z_lt, z_le, z_gt, z_ge, z_is0, z_is1, z_is2, z_is3, z_is4, z_is5, z_in0, z_in1, z_in2, z_in3, z_in4, z_in5, z_inl, z_int, z_nil, z_nit, z_t0, z_t1, z_t2, z_t3, z_t4, z_t5, z_tr, z_isb, z_isb1, z_isb2, z_isb3, z_isb4, z_isb5, z_addb, z_subb, z_nsb, z_rvt, z_rvl, z_stp, z_srl, z_srt, z_sti, z_stb, z_shl, z_ixt, z_ixl, z_ixr, z_slt, z_sll, z_lent, z_lenl, z_lenr, z_suml, z_sumt, z_maxl, z_maxt, z_minl, z_bi, z_bb, z_tul, z_tut, z_tur, z_lil, z_lit, z_all, z_max2, z_min2, z_kt, z_kl, z_cot, z_col, z_da, z_ds0, z_ds1, z_sql, z_sqt, z_isLr, z_fn, z_fb, z_fi, z_fs, sn_0, sn_1, sn_2, sn_3, sn_4, sn_5, sn_6, sn_7, sn_8, sn_9, sn_10, sn_11, sn_12, sn_13, sn_14, sn_15, sn_16, sn_17, sn_18, sn_19, L2.atI, L2.ixN, z_eqi, hne]
      simp only [q_behind8, post_cons]
      simp [ex, xB_eq, ev, evs, evb, evt, evo, evi, evf, tst, K.val, Bz.isi, isOwn, post_bind, post_ok, post_lift, post_ite, post_noexc, post_nil, bind_ok, fk_nx, fk_rt, fr_nx, fr_rt, lift_some, sto, stoT, wipeS, z_add, z_adds, z_addt, z_addl, z_sub, z_mul, z_mult, z_mull, z_fdiv, z_mod, z_eq, z_ne, z_eqi, z_eqb, z_eqs, z_eqn, z_lt, z_le, z_gt, z_ge, z_is0, z_is1, z_is2, z_is3, z_is4, z_is5, z_in0, z_in1, z_in2, z_in3, z_in4, z_in5, z_inl, z_int, z_nil, z_nit, z_t0, z_t1, z_t2, z_t3, z_t4, z_t5, z_tr, z_isb, z_isb1, z_isb2, z_isb3, z_isb4, z_isb5, z_addb, z_subb, z_nsb, z_rvt, z_rvl, z_stp, z_srl, z_srt, z_sti, z_stb, z_shl, z_ixt, z_ixl, z_ixr, z_slt, z_sll, z_lent, z_lenl, z_lenr, z_suml, z_sumt, z_maxl, z_maxt, z_minl, z_bi, z_bb, z_tul, z_tut, z_tur, z_lil, z_lit, z_all, z_max2, z_min2, z_kt, z_kl, z_cot, z_col, z_da, z_ds0, z_ds1, z_sql, z_sqt, z_isLr, z_fn, z_fb, z_fi, z_fs, sn_0, sn_1, sn_2, sn_3, sn_4, sn_5, sn_6, sn_7, sn_8, sn_9, sn_10, sn_11, sn_12, sn_13, sn_14, sn_15, sn_16, sn_17, sn_18, sn_19, L2.atI, L2.ixN]
      simp only [q_behind7, post_cons]
      simp [ex, xB_eq, ev, evs, evb, evt, evo, evi, evf, tst, K.val, Bz.isi, isOwn, post_bind, post_ok, post_lift, post_ite, post_noexc, post_nil, bind_ok, fk_nx, fk_rt, fr_nx, fr_rt, lift_some, sto, stoT, wipeS, z_add, z_adds, z_addt, z_addl, z_sub, z_mul, z_mult, z_mull, z_fdiv, z_mod, z_eq, z_ne, z_eqi, z_eqb, z_eqs, z_eqn, z_lt, z_le, z_gt, z_ge, z_is0, z_is1, z_is2, z_is3, z_is4, z_is5, z_in0, z_in1, z_in2, z_in3, z_in4, z_in5, z_inl, z_int, z_nil, z_nit, z_t0, z_t1, z_t2, z_t3, z_t4, z_t5, z_tr, z_isb, z_isb1, z_isb2, z_isb3, z_isb4, z_isb5, z_addb, z_subb, z_nsb, z_rvt, z_rvl, z_stp, z_srl, z_srt, z_sti, z_stb, z_shl, z_ixt, z_ixl, z_ixr, z_slt, z_sll, z_lent, z_lenl, z_lenr, z_suml, z_sumt, z_maxl, z_maxt, z_minl, z_bi, z_bb, z_tul, z_tut, z_tur, z_lil, z_lit, z_all, z_max2, z_min2, z_kt, z_kl, z_cot, z_col, z_da, z_ds0, z_ds1, z_sql, z_sqt, z_isLr, z_fn, z_fb, z_fi, z_fs, sn_0, sn_1, sn_2, sn_3, sn_4, sn_5, sn_6, sn_7, sn_8, sn_9, sn_10, sn_11, sn_12, sn_13, sn_14, sn_15, sn_16, sn_17, sn_18, sn_19]
      exact hP
  | stroke f ps off =>
    simp only [moved] at e
    split at e
    · rename_i hh
      cases e
      have hl : ps.length ≤ 1000 := by have := hd.len; omega
      have hc : cut [PyData.str "stroke", .int f, .tuple (ps.map .int), .bool off] (some 1) none = [.int f, .tuple (ps.map .int), .bool off] := rfl
      have h1 := fun st => there_ok (k := k + 3) (r := ru a b) (p := p) (f := f) (off := off) (st := st) hl
      have h2 := fun st => struck_ok (k := k) (off := off) (st := st) hp hd hb
      rw [there_here hp hd, hh] at h1
      unfold stk at h1 h2
      rw [hpe] at h1 h2
      simp only [b_behind, post_cons]
      simp [ex, xB_eq, ev, evs, evb, evt, evo, evi, evf, tst, K.val, Bz.isi, isOwn, post_bind, post_ok, post_lift, post_ite, post_noexc, post_nil, bind_ok, fk_nx, fk_rt, fr_nx, fr_rt, lift_some, sto, stoT, wipeS, z_add, z_adds, z_addt, z_addl, z_sub, z_mul, z_mult, z_mull, z_fdiv, z_mod, z_eq, z_ne, z_eqi, z_eqb, z_eqs, z_eqn, z_lt, z_le, z_gt, z_ge, z_is0, z_is1, z_is2, z_is3, z_is4, z_is5, z_in0, z_in1, z_in2, z_in3, z_in4, z_in5, z_inl, z_int, z_nil, z_nit, z_t0, z_t1, z_t2, z_t3, z_t4, z_t5, z_tr, z_isb, z_isb1, z_isb2, z_isb3, z_isb4, z_isb5, z_addb, z_subb, z_nsb, z_rvt, z_rvl, z_stp, z_srl, z_srt, z_sti, z_stb, z_shl, z_ixt, z_ixl, z_ixr, z_slt, z_sll, z_lent, z_lenl, z_lenr, z_suml, z_sumt, z_maxl, z_maxt, z_minl, z_bi, z_bb, z_tul, z_tut, z_tur, z_lil, z_lit, z_all, z_max2, z_min2, z_kt, z_kl, z_cot, z_col, z_da, z_ds0, z_ds1, z_sql, z_sqt, z_isLr, z_fn, z_fb, z_fi, z_fs, sn_0, sn_1, sn_2, sn_3, sn_4, sn_5, sn_6, sn_7, sn_8, sn_9, sn_10, sn_11, sn_12, sn_13, sn_14, sn_15, sn_16, sn_17, sn_18, sn_19, hpe, Dd.e]
      simp only [q_behind11, post_cons]
      simp [ex, xB_eq, ev, evs, evb, evt, evo, evi, evf, tst, K.val, Bz.isi, isOwn, post_bind, post_ok, post_lift, post_ite, post_noexc, post_nil, bind_ok, fk_nx, fk_rt, fr_nx, fr_rt, lift_some, sto, stoT, wipeS, z_add, z_adds, z_addt, z_addl, z_sub, z_mul, z_mult, z_mull, z_fdiv, z_mod, z_eq, z_ne, z_eqi, z_eqb, z_eqs, z_eqn, z_lt, z_le, z_gt, z_ge, z_is0, z_is1, z_is2, z_is3, z_is4, z_is5, z_in0, z_in1, z_in2, z_in3, z_in4, z_in5, z_inl, z_int, z_nil, z_nit, z_t0, z_t1, z_t2, z_t3, z_t4, z_t5, z_tr, z_isb, z_isb1, z_isb2, z_isb3, z_isb4, z_isb5, z_addb, z_subb, z_nsb, z_rvt, z_rvl, z_stp, z_srl, z_srt, z_sti, z_stb, z_shl, z_ixt, z_ixl, z_ixr, z_slt, z_sll, z_lent, z_lenl, z_lenr, z_suml, z_sumt, z_maxl, z_maxt, z_minl, z_bi, z_bb, z_tul, z_tut, z_tur, z_lil, z_lit, z_all, z_max2, z_min2, z_kt, z_kl, z_cot, z_col, z_da, z_ds0, z_ds1, z_sql, z_sqt, z_isLr, z_fn, z_fb, z_fi, z_fs, sn_0, sn_1, sn_2, sn_3, sn_4, sn_5, sn_6, sn_7, sn_8, sn_9, sn_10, sn_11, sn_12, sn_13, sn_14, sn_15, sn_16, sn_17, sn_18, sn_19, L2.atI, L2.ixN]
      simp only [q_behind10, post_cons]
      simp [ex, xB_eq, ev, evs, evb, evt, evo, evi, evf, tst, K.val, Bz.isi, isOwn, post_bind, post_ok, post_lift, post_ite, post_noexc, post_nil, bind_ok, fk_nx, fk_rt, fr_nx, fr_rt, lift_some, sto, stoT, wipeS, z_add, z_adds, z_addt, z_addl, z_sub, z_mul, z_mult, z_mull, z_fdiv, z_mod, z_eq, z_ne, z_eqi, z_eqb, z_eqs, z_eqn, z_lt, z_le, z_gt, z_ge, z_is0, z_is1, z_is2, z_is3, z_is4, z_is5, z_in0, z_in1, z_in2, z_in3, z_in4, z_in5, z_inl, z_int, z_nil, z_nit, z_t0, z_t1, z_t2, z_t3, z_t4, z_t5, z_tr, z_isb, z_isb1, z_isb2, z_isb3, z_isb4, z_isb5, z_addb, z_subb, z_nsb, z_rvt, z_rvl, z_stp, z_srl, z_srt, z_sti, z_stb, z_shl, z_ixt, z_ixl, z_ixr, z_slt, z_sll, z_lent, z_lenl, z_lenr, z_suml, z_sumt, z_maxl, z_maxt, z_minl, z_bi, z_bb, z_tul, z_tut, z_tur, z_lil, z_lit, z_all, z_max2, z_min2, z_kt, z_kl, z_cot, z_col, z_da, z_ds0, z_ds1, z_sql, z_sqt, z_isLr, z_fn, z_fb, z_fi, z_fs, sn_0, sn_1, sn_2, sn_3, sn_4, sn_5, sn_6, sn_7, sn_8, sn_9, sn_10, sn_11, sn_12, sn_13, sn_14, sn_15, sn_16, sn_17, sn_18, sn_19, L2.atI, L2.ixN]
      simp only [q_behind4, post_cons]
      simp [ex, xB_eq, ev, evs, evb, evt, evo, evi, evf, tst, K.val, Bz.isi, isOwn, post_bind, post_ok, post_lift, post_ite, post_noexc, post_nil, bind_ok, fk_nx, fk_rt, fr_nx, fr_rt, lift_some, sto, stoT, wipeS, z_add, z_adds, z_addt, z_addl, z_sub, z_mul, z_mult, z_mull, z_fdiv, z_mod, z_eq, z_ne, z_eqi, z_eqb, z_eqs, z_eqn, z_lt, z_le, z_gt, z_ge, z_is0, z_is1, z_is2, z_is3, z_is4, z_is5, z_in0, z_in1, z_in2, z_in3, z_in4, z_in5, z_inl, z_int, z_nil, z_nit, z_t0, z_t1, z_t2, z_t3, z_t4, z_t5, z_tr, z_isb, z_isb1, z_isb2, z_isb3, z_isb4, z_isb5, z_addb, z_subb, z_nsb, z_rvt, z_rvl, z_stp, z_srl, z_srt, z_sti, z_stb, z_shl, z_ixt, z_ixl, z_ixr, z_slt, z_sll, z_lent, z_lenl, z_lenr, z_suml, z_sumt, z_maxl, z_maxt, z_minl, z_bi, z_bb, z_tul, z_tut, z_tur, z_lil, z_lit, z_all, z_max2, z_min2, z_kt, z_kl, z_cot, z_col, z_da, z_ds0, z_ds1, z_sql, z_sqt, z_isLr, z_fn, z_fb, z_fi, z_fs, sn_0, sn_1, sn_2, sn_3, sn_4, sn_5, sn_6, sn_7, sn_8, sn_9, sn_10, sn_11, sn_12, sn_13, sn_14, sn_15, sn_16, sn_17, sn_18, sn_19, hc, h1]
      simp only [q_behind3, post_cons]
      simp [ex, xB_eq, ev, evs, evb, evt, evo, evi, evf, tst, K.val, Bz.isi, isOwn, post_bind, post_ok, post_lift, post_ite, post_noexc, post_nil, bind_ok, fk_nx, fk_rt, fr_nx, fr_rt, lift_some, sto, stoT, wipeS, z_add, z_adds, z_addt, z_addl, z_sub, z_mul, z_mult, z_mull, z_fdiv, z_mod, z_eq, z_ne, z_eqi, z_eqb, z_eqs, z_eqn, z_lt, z_le, z_gt, z_ge, z_is0, z_is1, z_is2, z_is3, z_is4, z_is5, z_in0, z_in1, z_in2, z_in3, z_in4, z_in5, z_inl, z_int, z_nil, z_nit, z_t0, z_t1, z_t2, z_t3, z_t4, z_t5, z_tr, z_isb, z_isb1, z_isb2, z_isb3, z_isb4, z_isb5, z_addb, z_subb, z_nsb, z_rvt, z_rvl, z_stp, z_srl, z_srt, z_sti, z_stb, z_shl, z_ixt, z_ixl, z_ixr, z_slt, z_sll, z_lent, z_lenl, z_lenr, z_suml, z_sumt, z_maxl, z_maxt, z_minl, z_bi, z_bb, z_tul, z_tut, z_tur, z_lil, z_lit, z_all, z_max2, z_min2, z_kt, z_kl, z_cot, z_col, z_da, z_ds0, z_ds1, z_sql, z_sqt, z_isLr, z_fn, z_fb, z_fi, z_fs, sn_0, sn_1, sn_2, sn_3, sn_4, sn_5, sn_6, sn_7, sn_8, sn_9, sn_10, sn_11, sn_12, sn_13, sn_14, sn_15, sn_16, sn_17, sn_18, sn_19, hc, h2]
      exact hP
    · cases e
theorem walked_ok {k : Nat} {a b player : Int} {ds : List Dd} {fo : Fo} {st : Stt} (ha : 1 ≤ a ∧ a ≤ 1000) (hb : 1 ≤ b) (hpl : player = 0 ∨ player = 1) (hd : ∀ d ∈ ds, DdOk a b d) (e : led a b player ds = some fo) : rn Gm (k + 6) 35 [ru a b, .d (frE player ds)] st = .ok (.d fo.e) st := by
  refine Post.eqQ fun P hP => ?_
  rw [run_at (d := ⟨4, 2, b_walked⟩) rfl]
  rw [post_runB]
  refine ⟨rfl, ?_⟩
  unfold frE
  simp only [b_walked, post_cons]
  simp [ex, xB_eq, ev, evs, evb, evt, evo, evi, evf, tst, K.val, Bz.isi, isOwn, post_bind, post_ok, post_lift, post_ite, post_noexc, post_nil, bind_ok, fk_nx, fk_rt, fr_nx, fr_rt, lift_some, sto, stoT, wipeS, z_add, z_adds, z_addt, z_addl, z_sub, z_mul, z_mult, z_mull, z_fdiv, z_mod, z_eq, z_ne, z_eqi, z_eqb, z_eqs, z_eqn, z_lt, z_le, z_gt, z_ge, z_is0, z_is1, z_is2, z_is3, z_is4, z_is5, z_in0, z_in1, z_in2, z_in3, z_in4, z_in5, z_inl, z_int, z_nil, z_nit, z_t0, z_t1, z_t2, z_t3, z_t4, z_t5, z_tr, z_isb, z_isb1, z_isb2, z_isb3, z_isb4, z_isb5, z_addb, z_subb, z_nsb, z_rvt, z_rvl, z_stp, z_srl, z_srt, z_sti, z_stb, z_shl, z_ixt, z_ixl, z_ixr, z_slt, z_sll, z_lent, z_lenl, z_lenr, z_suml, z_sumt, z_maxl, z_maxt, z_minl, z_bi, z_bb, z_tul, z_tut, z_tur, z_lil, z_lit, z_all, z_max2, z_min2, z_kt, z_kl, z_cot, z_col, z_da, z_ds0, z_ds1, z_sql, z_sqt, z_isLr, z_fn, z_fb, z_fi, z_fs, sn_0, sn_1, sn_2, sn_3, sn_4, sn_5, sn_6, sn_7, sn_8, sn_9, sn_10, sn_11, sn_12, sn_13, sn_14, sn_15, sn_16, sn_17, sn_18, sn_19, L2.atI, L2.ixN, firstp_ok]
  simp only [q_walked3, post_cons]
  simp [ex, xB_eq, ev, evs, evb, evt, evo, evi, evf, tst, K.val, Bz.isi, isOwn, post_bind, post_ok, post_lift, post_ite, post_noexc, post_nil, bind_ok, fk_nx, fk_rt, fr_nx, fr_rt, lift_some, sto, stoT, wipeS, z_add, z_adds, z_addt, z_addl, z_sub, z_mul, z_mult, z_mull, z_fdiv, z_mod, z_eq, z_ne, z_eqi, z_eqb, z_eqs, z_eqn, z_lt, z_le, z_gt, z_ge, z_is0, z_is1, z_is2, z_is3, z_is4, z_is5, z_in0, z_in1, z_in2, z_in3, z_in4, z_in5, z_inl, z_int, z_nil, z_nit, z_t0, z_t1, z_t2, z_t3, z_t4, z_t5, z_tr, z_isb, z_isb1, z_isb2, z_isb3, z_isb4, z_isb5, z_addb, z_subb, z_nsb, z_rvt, z_rvl, z_stp, z_srl, z_srt, z_sti, z_stb, z_shl, z_ixt, z_ixl, z_ixr, z_slt, z_sll, z_lent, z_lenl, z_lenr, z_suml, z_sumt, z_maxl, z_maxt, z_minl, z_bi, z_bb, z_tul, z_tut, z_tur, z_lil, z_lit, z_all, z_max2, z_min2, z_kt, z_kl, z_cot, z_col, z_da, z_ds0, z_ds1, z_sql, z_sqt, z_isLr, z_fn, z_fb, z_fi, z_fs, sn_0, sn_1, sn_2, sn_3, sn_4, sn_5, sn_6, sn_7, sn_8, sn_9, sn_10, sn_11, sn_12, sn_13, sn_14, sn_15, sn_16, sn_17, sn_18, sn_19, L2.atI, L2.ixN]
  refine for_post (fun i env s => s = st ∧ ∃ f1 s3, led a b player (ds.take i) = some f1 ∧ env = [.v (ru a b), .v (.d (.tuple [.int player, .tuple (ds.map Dd.e)])), .v (.d f1.e), s3]) _ 0 ⟨rfl, begin0 a player, _, by simp [led], rfl⟩ ?_ ?_
  · rintro i x env s hx ⟨rfl, f1, s3, h1, rfl⟩
    rw [Nat.zero_add] at h1 ⊢
    rw [List.getElem?_map, Option.map_eq_some_iff] at hx
    obtain ⟨d, hx, rfl⟩ := hx
    obtain ⟨g1, p, f2, q1, q2, q3, q4⟩ := led_next e hx
    rw [h1] at q1
    cases q1
    have hm := fun st => behind_ok (k := k) (st := st) (led_ok ha.1 hb hpl h1 p q2) (hd d (List.mem_of_getElem? hx)) hb q3
    have he : L2.atI [oP f1.pl, oI f1.win, .tuple [.int f1.p0, .int f1.p1]] 0 = some p.e := by rw [q2]; rfl
    refine ⟨_, rfl, ?_⟩
    unfold Fo.e
    unfold Fo.e at hm
    simp only [q_walked1, post_cons]
    simp [ex, xB_eq, ev, evs, evb, evt, evo, evi, evf, tst, K.val, Bz.isi, isOwn, post_bind, post_ok, post_lift, post_ite, post_noexc, post_nil, bind_ok, fk_nx, fk_rt, fr_nx, fr_rt, lift_some, sto, stoT, wipeS, z_add, z_adds, z_addt, z_addl, z_sub, z_mul, z_mult, z_mull, z_fdiv, z_mod, z_eq, z_ne, z_eqi, z_eqb, z_eqs, z_eqn, z_lt, z_le, z_gt, z_ge, z_is0, z_is1, z_is2, z_is3, z_is4, z_is5, z_in0, z_in1, z_in2, z_in3, z_in4, z_in5, z_inl, z_int, z_nil, z_nit, z_t0, z_t1, z_t2, z_t3, z_t4, z_t5, z_tr, z_isb, z_isb1, z_isb2, z_isb3, z_isb4, z_isb5, z_addb, z_subb, z_nsb, z_rvt, z_rvl, z_stp, z_srl, z_srt, z_sti, z_stb, z_shl, z_ixt, z_ixl, z_ixr, z_slt, z_sll, z_lent, z_lenl, z_lenr, z_suml, z_sumt, z_maxl, z_maxt, z_minl, z_bi, z_bb, z_tul, z_tut, z_tur, z_lil, z_lit, z_all, z_max2, z_min2, z_kt, z_kl, z_cot, z_col, z_da, z_ds0, z_ds1, z_sql, z_sqt, z_isLr, z_fn, z_fb, z_fi, z_fs, sn_0, sn_1, sn_2, sn_3, sn_4, sn_5, sn_6, sn_7, sn_8, sn_9, sn_10, sn_11, sn_12, sn_13, sn_14, sn_15, sn_16, sn_17, sn_18, sn_19, he, hm]
    exact ⟨f2, q4, rfl, rfl, rfl, rfl⟩
  · rintro env s ⟨rfl, f1, s3, h1, rfl⟩
    rw [Nat.zero_add, List.length_map, List.take_length, e] at h1
    cases h1
    rw [fk_nx]
    simp only [q_walked2, post_cons]
    simp [ex, xB_eq, ev, evs, evb, evt, evo, evi, evf, tst, K.val, Bz.isi, isOwn, post_bind, post_ok, post_lift, post_ite, post_noexc, post_nil, bind_ok, fk_nx, fk_rt, fr_nx, fr_rt, lift_some, sto, stoT, wipeS, z_add, z_adds, z_addt, z_addl, z_sub, z_mul, z_mult, z_mull, z_fdiv, z_mod, z_eq, z_ne, z_eqi, z_eqb, z_eqs, z_eqn, z_lt, z_le, z_gt, z_ge, z_is0, z_is1, z_is2, z_is3, z_is4, z_is5, z_in0, z_in1, z_in2, z_in3, z_in4, z_in5, z_inl, z_int, z_nil, z_nit, z_t0, z_t1, z_t2, z_t3, z_t4, z_t5, z_tr, z_isb, z_isb1, z_isb2, z_isb3, z_isb4, z_isb5, z_addb, z_subb, z_nsb, z_rvt, z_rvl, z_stp, z_srl, z_srt, z_sti, z_stb, z_shl, z_ixt, z_ixl, z_ixr, z_slt, z_sll, z_lent, z_lenl, z_lenr, z_suml, z_sumt, z_maxl, z_maxt, z_minl, z_bi, z_bb, z_tul, z_tut, z_tur, z_lil, z_lit, z_all, z_max2, z_min2, z_kt, z_kl, z_cot, z_col, z_da, z_ds0, z_ds1, z_sql, z_sqt, z_isLr, z_fn, z_fb, z_fi, z_fs, sn_0, sn_1, sn_2, sn_3, sn_4, sn_5, sn_6, sn_7, sn_8, sn_9, sn_10, sn_11, sn_12, sn_13, sn_14, sn_15, sn_16, sn_17, sn_18, sn_19]
    exact hP
theorem placeof_ok {k : Nat} {a b player : Int} {ds : List Dd} {fo : Fo} {st : Stt} (ha : 1 ≤ a ∧ a ≤ 1000) (hb : 1 ≤ b) (hpl : player = 0 ∨ player = 1) (hd : ∀ d ∈ ds, DdOk a b d) (e : led a b player ds = some fo) : rn Gm (k + 7) 36 [ru a b, .d (frE player ds)] st = .ok (.d (oP fo.pl)) st := by
  refine Post.eqQ fun P hP => ?_
  rw [run_at (d := ⟨2, 2, b_place_of⟩) rfl]
  rw [post_runB]
  refine ⟨rfl, ?_⟩
  have h := fun st => walked_ok (k := k) (st := st) ha hb hpl hd e
  unfold Fo.e at h
  simp only [b_place_of, post_cons]
  simp [ex, xB_eq, ev, evs, evb, evt, evo, evi, evf, tst, K.val, Bz.isi, isOwn, post_bind, post_ok, post_lift, post_ite, post_noexc, post_nil, bind_ok, fk_nx, fk_rt, fr_nx, fr_rt, lift_some, sto, stoT, wipeS, z_add, z_adds, z_addt, z_addl, z_sub, z_mul, z_mult, z_mull, z_fdiv, z_mod, z_eq, z_ne, z_eqi, z_eqb, z_eqs, z_eqn, z_lt, z_le, z_gt, z_ge, z_is0, z_is1, z_is2, z_is3, z_is4, z_is5, z_in0, z_in1, z_in2, z_in3, z_in4, z_in5, z_inl, z_int, z_nil, z_nit, z_t0, z_t1, z_t2, z_t3, z_t4, z_t5, z_tr, z_isb, z_isb1, z_isb2, z_isb3, z_isb4, z_isb5, z_addb, z_subb, z_nsb, z_rvt, z_rvl, z_stp, z_srl, z_srt, z_sti, z_stb, z_shl, z_ixt, z_ixl, z_ixr, z_slt, z_sll, z_lent, z_lenl, z_lenr, z_suml, z_sumt, z_maxl, z_maxt, z_minl, z_bi, z_bb, z_tul, z_tut, z_tur, z_lil, z_lit, z_all, z_max2, z_min2, z_kt, z_kl, z_cot, z_col, z_da, z_ds0, z_ds1, z_sql, z_sqt, z_isLr, z_fn, z_fb, z_fi, z_fs, sn_0, sn_1, sn_2, sn_3, sn_4, sn_5, sn_6, sn_7, sn_8, sn_9, sn_10, sn_11, sn_12, sn_13, sn_14, sn_15, sn_16, sn_17, sn_18, sn_19, h, L2.atI, L2.ixN]
  exact hP
theorem pointsin_ok {k : Nat} {a b player : Int} {ds : List Dd} {fo : Fo} {st : Stt} (ha : 1 ≤ a ∧ a ≤ 1000) (hb : 1 ≤ b) (hpl : player = 0 ∨ player = 1) (hd : ∀ d ∈ ds, DdOk a b d) (e : led a b player ds = some fo) : rn Gm (k + 7) 37 [ru a b, .d (frE player ds)] st = .ok (.d (.tuple [.int fo.p0, .int fo.p1])) st := by
  refine Post.eqQ fun P hP => ?_
  rw [run_at (d := ⟨2, 2, b_points_in⟩) rfl]
  rw [post_runB]
  refine ⟨rfl, ?_⟩
  have h := fun st => walked_ok (k := k) (st := st) ha hb hpl hd e
  unfold Fo.e at h
  simp only [b_points_in, post_cons]
  simp [ex, xB_eq, ev, evs, evb, evt, evo, evi, evf, tst, K.val, Bz.isi, isOwn, post_bind, post_ok, post_lift, post_ite, post_noexc, post_nil, bind_ok, fk_nx, fk_rt, fr_nx, fr_rt, lift_some, sto, stoT, wipeS, z_add, z_adds, z_addt, z_addl, z_sub, z_mul, z_mult, z_mull, z_fdiv, z_mod, z_eq, z_ne, z_eqi, z_eqb, z_eqs, z_eqn, z_lt, z_le, z_gt, z_ge, z_is0, z_is1, z_is2, z_is3, z_is4, z_is5, z_in0, z_in1, z_in2, z_in3, z_in4, z_in5, z_inl, z_int, z_nil, z_nit, z_t0, z_t1, z_t2, z_t3, z_t4, z_t5, z_tr, z_isb, z_isb1, z_isb2, z_isb3, z_isb4, z_isb5, z_addb, z_subb, z_nsb, z_rvt, z_rvl, z_stp, z_srl, z_srt, z_sti, z_stb, z_shl, z_ixt, z_ixl, z_ixr, z_slt, z_sll, z_lent, z_lenl, z_lenr, z_suml, z_sumt, z_maxl, z_maxt, z_minl, z_bi, z_bb, z_tul, z_tut, z_tur, z_lil, z_lit, z_all, z_max2, z_min2, z_kt, z_kl, z_cot, z_col, z_da, z_ds0, z_ds1, z_sql, z_sqt, z_isLr, z_fn, z_fb, z_fi, z_fs, sn_0, sn_1, sn_2, sn_3, sn_4, sn_5, sn_6, sn_7, sn_8, sn_9, sn_10, sn_11, sn_12, sn_13, sn_14, sn_15, sn_16, sn_17, sn_18, sn_19, h, L2.atI, L2.ixN]
  exact hP
theorem winnerof_ok {k : Nat} {a b player : Int} {ds : List Dd} {fo : Fo} {st : Stt} (ha : 1 ≤ a ∧ a ≤ 1000) (hb : 1 ≤ b) (hpl : player = 0 ∨ player = 1) (hd : ∀ d ∈ ds, DdOk a b d) (e : led a b player ds = some fo) : rn Gm (k + 7) 38 [ru a b, .d (frE player ds)] st = .ok (.d (oI fo.win)) st := by
  refine Post.eqQ fun P hP => ?_
  rw [run_at (d := ⟨2, 2, b_winner_of⟩) rfl]
  rw [post_runB]
  refine ⟨rfl, ?_⟩
  have h := fun st => walked_ok (k := k) (st := st) ha hb hpl hd e
  unfold Fo.e at h
  simp only [b_winner_of, post_cons]
  simp [ex, xB_eq, ev, evs, evb, evt, evo, evi, evf, tst, K.val, Bz.isi, isOwn, post_bind, post_ok, post_lift, post_ite, post_noexc, post_nil, bind_ok, fk_nx, fk_rt, fr_nx, fr_rt, lift_some, sto, stoT, wipeS, z_add, z_adds, z_addt, z_addl, z_sub, z_mul, z_mult, z_mull, z_fdiv, z_mod, z_eq, z_ne, z_eqi, z_eqb, z_eqs, z_eqn, z_lt, z_le, z_gt, z_ge, z_is0, z_is1, z_is2, z_is3, z_is4, z_is5, z_in0, z_in1, z_in2, z_in3, z_in4, z_in5, z_inl, z_int, z_nil, z_nit, z_t0, z_t1, z_t2, z_t3, z_t4, z_t5, z_tr, z_isb, z_isb1, z_isb2, z_isb3, z_isb4, z_isb5, z_addb, z_subb, z_nsb, z_rvt, z_rvl, z_stp, z_srl, z_srt, z_sti, z_stb, z_shl, z_ixt, z_ixl, z_ixr, z_slt, z_sll, z_lent, z_lenl, z_lenr, z_suml, z_sumt, z_maxl, z_maxt, z_minl, z_bi, z_bb, z_tul, z_tut, z_tur, z_lil, z_lit, z_all, z_max2, z_min2, z_kt, z_kl, z_cot, z_col, z_da, z_ds0, z_ds1, z_sql, z_sqt, z_isLr, z_fn, z_fb, z_fi, z_fs, sn_0, sn_1, sn_2, sn_3, sn_4, sn_5, sn_6, sn_7, sn_8, sn_9, sn_10, sn_11, sn_12, sn_13, sn_14, sn_15, sn_16, sn_17, sn_18, sn_19, h, L2.atI, L2.ixN]
  exact hP
theorem rules_ok {k : Nat} {ns : Sc} {n : Nat} (hn : n < 999999) : Post (rn Gm (k + 3) 10 [.ref 0, .ref 1] (Tw ns n)) fun v s => ∃ a b : Int, v = ru a b ∧ 1 ≤ a ∧ a ≤ 6 ∧ 2 ≤ b ∧ b ≤ 6 ∧ s = Tw ns (n + 2) := by
  rw [run_at (d := ⟨2, 2, b_law_drawn_rules⟩) rfl]
  rw [post_runB]
  refine ⟨rfl, ?_⟩
  simp only [b_law_drawn_rules, post_cons]
  simp [ex, xB_eq, ev, evs, evb, evt, evo, evi, evf, tst, K.val, Bz.isi, isOwn, post_bind, post_ok, post_lift, post_ite, post_noexc, post_nil, bind_ok, fk_nx, fk_rt, fr_nx, fr_rt, lift_some, sto, stoT, wipeS, z_add, z_adds, z_addt, z_addl, z_sub, z_mul, z_mult, z_mull, z_fdiv, z_mod, z_eq, z_ne, z_eqi, z_eqb, z_eqs, z_eqn, z_lt, z_le, z_gt, z_ge, z_is0, z_is1, z_is2, z_is3, z_is4, z_is5, z_in0, z_in1, z_in2, z_in3, z_in4, z_in5, z_inl, z_int, z_nil, z_nit, z_t0, z_t1, z_t2, z_t3, z_t4, z_t5, z_tr, z_isb, z_isb1, z_isb2, z_isb3, z_isb4, z_isb5, z_addb, z_subb, z_nsb, z_rvt, z_rvl, z_stp, z_srl, z_srt, z_sti, z_stb, z_shl, z_ixt, z_ixl, z_ixr, z_slt, z_sll, z_lent, z_lenl, z_lenr, z_suml, z_sumt, z_maxl, z_maxt, z_minl, z_bi, z_bb, z_tul, z_tut, z_tur, z_lil, z_lit, z_all, z_max2, z_min2, z_kt, z_kl, z_cot, z_col, z_da, z_ds0, z_ds1, z_sql, z_sqt, z_isLr, z_fn, z_fb, z_fi, z_fs, sn_0, sn_1, sn_2, sn_3, sn_4, sn_5, sn_6, sn_7, sn_8, sn_9, sn_10, sn_11, sn_12, sn_13, sn_14, sn_15, sn_16, sn_17, sn_18, sn_19]
  refine (pick_ok (by simp) (by omega)).imp ?_
  rintro _ _ ⟨x, rfl, hx, rfl⟩
  refine (pick_ok (by simp) (by omega)).imp ?_
  rintro _ _ ⟨y, rfl, hy, rfl⟩
  simp only [List.mem_cons, List.not_mem_nil, or_false] at hx hy
  obtain ⟨a, rfl, ha⟩ : ∃ a : Int, x = .int a ∧ 1 ≤ a ∧ a ≤ 6 := by
    rcases hx with rfl | rfl | rfl | rfl | rfl | rfl <;> exact ⟨_, rfl, by omega, by omega⟩
  obtain ⟨b, rfl, hb⟩ : ∃ a : Int, y = .int a ∧ 2 ≤ a ∧ a ≤ 6 := by
    rcases hy with rfl | rfl | rfl | rfl | rfl <;> exact ⟨_, rfl, by omega, by omega⟩
  simp [ex, xB_eq, ev, evs, evb, evt, evo, evi, evf, tst, K.val, Bz.isi, isOwn, post_bind, post_ok, post_lift, post_ite, post_noexc, post_nil, bind_ok, fk_nx, fk_rt, fr_nx, fr_rt, lift_some, sto, stoT, wipeS, z_add, z_adds, z_addt, z_addl, z_sub, z_mul, z_mult, z_mull, z_fdiv, z_mod, z_eq, z_ne, z_eqi, z_eqb, z_eqs, z_eqn, z_lt, z_le, z_gt, z_ge, z_is0, z_is1, z_is2, z_is3, z_is4, z_is5, z_in0, z_in1, z_in2, z_in3, z_in4, z_in5, z_inl, z_int, z_nil, z_nit, z_t0, z_t1, z_t2, z_t3, z_t4, z_t5, z_tr, z_isb, z_isb1, z_isb2, z_isb3, z_isb4, z_isb5, z_addb, z_subb, z_nsb, z_rvt, z_rvl, z_stp, z_srl, z_srt, z_sti, z_stb, z_shl, z_ixt, z_ixl, z_ixr, z_slt, z_sll, z_lent, z_lenl, z_lenr, z_suml, z_sumt, z_maxl, z_maxt, z_minl, z_bi, z_bb, z_tul, z_tut, z_tur, z_lil, z_lit, z_all, z_max2, z_min2, z_kt, z_kl, z_cot, z_col, z_da, z_ds0, z_ds1, z_sql, z_sqt, z_isLr, z_fn, z_fb, z_fi, z_fs, sn_0, sn_1, sn_2, sn_3, sn_4, sn_5, sn_6, sn_7, sn_8, sn_9, sn_10, sn_11, sn_12, sn_13, sn_14, sn_15, sn_16, sn_17, sn_18, sn_19]
  exact ⟨a, b, ⟨rfl, rfl⟩, ha.1, ha.2, hb.1, hb.2⟩
/-- a frame that was drawn -/
structure FrOk (a b player : Int) (ds : List Dd) (fo : Fo) : Prop where
  pl : player = 0 ∨ player = 1
  led : led a b player ds = some fo
  ok : ∀ d ∈ ds, DdOk a b d
theorem eq_now {f : Fo} : eqD f.e (.str "now") = some false := by
  unfold eqD
  rw [if_pos (by simp [PyData.depth])]
  rfl
theorem whole_ok {k : Nat} {i : Int} {st : Stt} : rn Gm (k + 1) 11 [.d (.int i)] st = .ok (.d (.bool true)) st := by
  refine Post.eqQ fun P hP => ?_
  rw [run_at (d := ⟨1, 1, b_is_whole⟩) rfl]
  rw [post_runB]
  refine ⟨rfl, ?_⟩
  simp only [b_is_whole, post_cons]
  simp [ex, xB_eq, ev, evs, evb, evt, evo, evi, evf, tst, K.val, Bz.isi, isOwn, post_bind, post_ok, post_lift, post_ite, post_noexc, post_nil, bind_ok, fk_nx, fk_rt, fr_nx, fr_rt, lift_some, sto, stoT, wipeS, z_add, z_adds, z_addt, z_addl, z_sub, z_mul, z_mult, z_mull, z_fdiv, z_mod, z_eq, z_ne, z_eqi, z_eqb, z_eqs, z_eqn, z_lt, z_le, z_gt, z_ge, z_is0, z_is1, z_is2, z_is3, z_is4, z_is5, z_in0, z_in1, z_in2, z_in3, z_in4, z_in5, z_inl, z_int, z_nil, z_nit, z_t0, z_t1, z_t2, z_t3, z_t4, z_t5, z_tr, z_isb, z_isb1, z_isb2, z_isb3, z_isb4, z_isb5, z_addb, z_subb, z_nsb, z_rvt, z_rvl, z_stp, z_srl, z_srt, z_sti, z_stb, z_shl, z_ixt, z_ixl, z_ixr, z_slt, z_sll, z_lent, z_lenl, z_lenr, z_suml, z_sumt, z_maxl, z_maxt, z_minl, z_bi, z_bb, z_tul, z_tut, z_tur, z_lil, z_lit, z_all, z_max2, z_min2, z_kt, z_kl, z_cot, z_col, z_da, z_ds0, z_ds1, z_sql, z_sqt, z_isLr, z_fn, z_fb, z_fi, z_fs, sn_0, sn_1, sn_2, sn_3, sn_4, sn_5, sn_6, sn_7, sn_8, sn_9, sn_10, sn_11, sn_12, sn_13, sn_14, sn_15, sn_16, sn_17, sn_18, sn_19]
  exact hP
theorem isstroke_ok {k : Nat} {a b f : Int} {ps : List Int} {off : Bool} {st : Stt} (h : StOk a b f ps) : rn Gm (k + 2) 12 [ru a b, .d (stk f ps off)] st = .ok (.d (.bool true)) st := by
  refine Post.eqQ fun P hP => ?_
  rw [run_at (d := ⟨6, 2, b_is_stroke⟩) rfl]
  rw [post_runB]
  refine ⟨rfl, ?_⟩
  have hf := h.fb
  have hf0 : 0 ≤ f := hf.1
  have hf1 : f ≤ b + 1 := hf.2
  unfold stk
  simp only [b_is_stroke, post_cons]
  simp [ex, xB_eq, ev, evs, evb, evt, evo, evi, evf, tst, K.val, Bz.isi, isOwn, post_bind, post_ok, post_lift, post_ite, post_noexc, post_nil, bind_ok, fk_nx, fk_rt, fr_nx, fr_rt, lift_some, sto, stoT, wipeS, z_add, z_adds, z_addt, z_addl, z_sub, z_mul, z_mult, z_mull, z_fdiv, z_mod, z_eq, z_ne, z_eqi, z_eqb, z_eqs, z_eqn, z_lt, z_le, z_gt, z_ge, z_is0, z_is1, z_is2, z_is3, z_is4, z_is5, z_in0, z_in1, z_in2, z_in3, z_in4, z_in5, z_inl, z_int, z_nil, z_nit, z_t0, z_t1, z_t2, z_t3, z_t4, z_t5, z_tr, z_isb, z_isb1, z_isb2, z_isb3, z_isb4, z_isb5, z_addb, z_subb, z_nsb, z_rvt, z_rvl, z_stp, z_srl, z_srt, z_sti, z_stb, z_shl, z_ixt, z_ixl, z_ixr, z_slt, z_sll, z_lent, z_lenl, z_lenr, z_suml, z_sumt, z_maxl, z_maxt, z_minl, z_bi, z_bb, z_tul, z_tut, z_tur, z_lil, z_lit, z_all, z_max2, z_min2, z_kt, z_kl, z_cot, z_col, z_da, z_ds0, z_ds1, z_sql, z_sqt, z_isLr, z_fn, z_fb, z_fi, z_fs, sn_0, sn_1, sn_2, sn_3, sn_4, sn_5, sn_6, sn_7, sn_8, sn_9, sn_10, sn_11, sn_12, sn_13, sn_14, sn_15, sn_16, sn_17, sn_18, sn_19, L2.atI, L2.ixN, z_eqi]
  simp only [q_is_stroke10, post_cons]
  simp [ex, xB_eq, ev, evs, evb, evt, evo, evi, evf, tst, K.val, Bz.isi, isOwn, post_bind, post_ok, post_lift, post_ite, post_noexc, post_nil, bind_ok, fk_nx, fk_rt, fr_nx, fr_rt, lift_some, sto, stoT, wipeS, z_add, z_adds, z_addt, z_addl, z_sub, z_mul, z_mult, z_mull, z_fdiv, z_mod, z_eq, z_ne, z_eqi, z_eqb, z_eqs, z_eqn, z_lt, z_le, z_gt, z_ge, z_is0, z_is1, z_is2, z_is3, z_is4, z_is5, z_in0, z_in1, z_in2, z_in3, z_in4, z_in5, z_inl, z_int, z_nil, z_nit, z_t0, z_t1, z_t2, z_t3, z_t4, z_t5, z_tr, z_isb, z_isb1, z_isb2, z_isb3, z_isb4, z_isb5, z_addb, z_subb, z_nsb, z_rvt, z_rvl, z_stp, z_srl, z_srt, z_sti, z_stb, z_shl, z_ixt, z_ixl, z_ixr, z_slt, z_sll, z_lent, z_lenl, z_lenr, z_suml, z_sumt, z_maxl, z_maxt, z_minl, z_bi, z_bb, z_tul, z_tut, z_tur, z_lil, z_lit, z_all, z_max2, z_min2, z_kt, z_kl, z_cot, z_col, z_da, z_ds0, z_ds1, z_sql, z_sqt, z_isLr, z_fn, z_fb, z_fi, z_fs, sn_0, sn_1, sn_2, sn_3, sn_4, sn_5, sn_6, sn_7, sn_8, sn_9, sn_10, sn_11, sn_12, sn_13, sn_14, sn_15, sn_16, sn_17, sn_18, sn_19, L2.atI, L2.ixN]
  simp only [q_is_stroke9, post_cons]
  simp [ex, xB_eq, ev, evs, evb, evt, evo, evi, evf, tst, K.val, Bz.isi, isOwn, post_bind, post_ok, post_lift, post_ite, post_noexc, post_nil, bind_ok, fk_nx, fk_rt, fr_nx, fr_rt, lift_some, sto, stoT, wipeS, z_add, z_adds, z_addt, z_addl, z_sub, z_mul, z_mult, z_mull, z_fdiv, z_mod, z_eq, z_ne, z_eqi, z_eqb, z_eqs, z_eqn, z_lt, z_le, z_gt, z_ge, z_is0, z_is1, z_is2, z_is3, z_is4, z_is5, z_in0, z_in1, z_in2, z_in3, z_in4, z_in5, z_inl, z_int, z_nil, z_nit, z_t0, z_t1, z_t2, z_t3, z_t4, z_t5, z_tr, z_isb, z_isb1, z_isb2, z_isb3, z_isb4, z_isb5, z_addb, z_subb, z_nsb, z_rvt, z_rvl, z_stp, z_srl, z_srt, z_sti, z_stb, z_shl, z_ixt, z_ixl, z_ixr, z_slt, z_sll, z_lent, z_lenl, z_lenr, z_suml, z_sumt, z_maxl, z_maxt, z_minl, z_bi, z_bb, z_tul, z_tut, z_tur, z_lil, z_lit, z_all, z_max2, z_min2, z_kt, z_kl, z_cot, z_col, z_da, z_ds0, z_ds1, z_sql, z_sqt, z_isLr, z_fn, z_fb, z_fi, z_fs, sn_0, sn_1, sn_2, sn_3, sn_4, sn_5, sn_6, sn_7, sn_8, sn_9, sn_10, sn_11, sn_12, sn_13, sn_14, sn_15, sn_16, sn_17, sn_18, sn_19, whole_ok, top_ok, hf0, hf1]
  simp only [q_is_stroke8, post_cons]
  simp [ex, xB_eq, ev, evs, evb, evt, evo, evi, evf, tst, K.val, Bz.isi, isOwn, post_bind, post_ok, post_lift, post_ite, post_noexc, post_nil, bind_ok, fk_nx, fk_rt, fr_nx, fr_rt, lift_some, sto, stoT, wipeS, z_add, z_adds, z_addt, z_addl, z_sub, z_mul, z_mult, z_mull, z_fdiv, z_mod, z_eq, z_ne, z_eqi, z_eqb, z_eqs, z_eqn, z_lt, z_le, z_gt, z_ge, z_is0, z_is1, z_is2, z_is3, z_is4, z_is5, z_in0, z_in1, z_in2, z_in3, z_in4, z_in5, z_inl, z_int, z_nil, z_nit, z_t0, z_t1, z_t2, z_t3, z_t4, z_t5, z_tr, z_isb, z_isb1, z_isb2, z_isb3, z_isb4, z_isb5, z_addb, z_subb, z_nsb, z_rvt, z_rvl, z_stp, z_srl, z_srt, z_sti, z_stb, z_shl, z_ixt, z_ixl, z_ixr, z_slt, z_sll, z_lent, z_lenl, z_lenr, z_suml, z_sumt, z_maxl, z_maxt, z_minl, z_bi, z_bb, z_tul, z_tut, z_tur, z_lil, z_lit, z_all, z_max2, z_min2, z_kt, z_kl, z_cot, z_col, z_da, z_ds0, z_ds1, z_sql, z_sqt, z_isLr, z_fn, z_fb, z_fi, z_fs, sn_0, sn_1, sn_2, sn_3, sn_4, sn_5, sn_6, sn_7, sn_8, sn_9, sn_10, sn_11, sn_12, sn_13, sn_14, sn_15, sn_16, sn_17, sn_18, sn_19]
  simp only [q_is_stroke7, post_cons]
  simp [ex, xB_eq, ev, evs, evb, evt, evo, evi, evf, tst, K.val, Bz.isi, isOwn, post_bind, post_ok, post_lift, post_ite, post_noexc, post_nil, bind_ok, fk_nx, fk_rt, fr_nx, fr_rt, lift_some, sto, stoT, wipeS, z_add, z_adds, z_addt, z_addl, z_sub, z_mul, z_mult, z_mull, z_fdiv, z_mod, z_eq, z_ne, z_eqi, z_eqb, z_eqs, z_eqn, z_lt, z_le, z_gt, z_ge, z_is0, z_is1, z_is2, z_is3, z_is4, z_is5, z_in0, z_in1, z_in2, z_in3, z_in4, z_in5, z_inl, z_int, z_nil, z_nit, z_t0, z_t1, z_t2, z_t3, z_t4, z_t5, z_tr, z_isb, z_isb1, z_isb2, z_isb3, z_isb4, z_isb5, z_addb, z_subb, z_nsb, z_rvt, z_rvl, z_stp, z_srl, z_srt, z_sti, z_stb, z_shl, z_ixt, z_ixl, z_ixr, z_slt, z_sll, z_lent, z_lenl, z_lenr, z_suml, z_sumt, z_maxl, z_maxt, z_minl, z_bi, z_bb, z_tul, z_tut, z_tur, z_lil, z_lit, z_all, z_max2, z_min2, z_kt, z_kl, z_cot, z_col, z_da, z_ds0, z_ds1, z_sql, z_sqt, z_isLr, z_fn, z_fb, z_fi, z_fs, sn_0, sn_1, sn_2, sn_3, sn_4, sn_5, sn_6, sn_7, sn_8, sn_9, sn_10, sn_11, sn_12, sn_13, sn_14, sn_15, sn_16, sn_17, sn_18, sn_19]
  refine for_post (fun i env s => s = st ∧ ∃ (last : Int) (s5 : Sl), (∀ j, i ≤ j → ∀ y, ps[j]? = some y → last < y ∨ (last = 1 ∧ y = 1)) ∧ env = [.v (ru a b), .v (.d (.tuple [.int f, .tuple (ps.map .int), .bool off])), .v (.d (.int f)), .v (.d (.tuple (ps.map .int))), .v (.d (.int last)), s5]) _ 0 ⟨rfl, 0, _, fun j _ y hy => .inl (by have := h.mem y (List.mem_of_getElem? hy); omega), rfl⟩ ?_ ?_
  · rintro i x env s hx ⟨rfl, last, s5, hl, rfl⟩
    rw [Nat.zero_add] at *
    rw [List.getElem?_map, Option.map_eq_some_iff] at hx
    obtain ⟨y, hy, rfl⟩ := hx
    have hy1 := h.mem y (List.mem_of_getElem? hy)
    have y1 : 1 ≤ y := hy1.1
    have y2 : y ≤ b + 1 := hy1.2
    have hly := hl i (Nat.le_refl _) y hy
    have y3 : ¬ y < last := by omega
    refine ⟨_, rfl, ?_⟩
    have hnx : ∀ j, i + 1 ≤ j → ∀ z, ps[j]? = some z → y < z ∨ (y = 1 ∧ z = 1) := by
      intro j hj z hz
      obtain ⟨hi2, e1⟩ := List.getElem?_eq_some_iff.mp hy
      obtain ⟨hj2, e2⟩ := List.getElem?_eq_some_iff.mp hz
      have := List.pairwise_iff_getElem.mp h.so i j hi2 hj2 (by omega)
      rw [e1, e2] at this
      exact this
    by_cases h1 : y = last
    · have y4 : ¬ 1 < y := by omega
      have y5 : ¬ 1 < last := by omega
      subst h1
      simp only [q_is_stroke5, post_cons]
      simp [ex, xB_eq, ev, evs, evb, evt, evo, evi, evf, tst, K.val, Bz.isi, isOwn, post_bind, post_ok, post_lift, post_ite, post_noexc, post_nil, bind_ok, fk_nx, fk_rt, fr_nx, fr_rt, lift_some, sto, stoT, wipeS, z_add, z_adds, z_addt, z_addl, z_sub, z_mul, z_mult, z_mull, z_fdiv, z_mod, z_eq, z_ne, z_eqi, z_eqb, z_eqs, z_eqn, z_lt, z_le, z_gt, z_ge, z_is0, z_is1, z_is2, z_is3, z_is4, z_is5, z_in0, z_in1, z_in2, z_in3, z_in4, z_in5, z_inl, z_int, z_nil, z_nit, z_t0, z_t1, z_t2, z_t3, z_t4, z_t5, z_tr, z_isb, z_isb1, z_isb2, z_isb3, z_isb4, z_isb5, z_addb, z_subb, z_nsb, z_rvt, z_rvl, z_stp, z_srl, z_srt, z_sti, z_stb, z_shl, z_ixt, z_ixl, z_ixr, z_slt, z_sll, z_lent, z_lenl, z_lenr, z_suml, z_sumt, z_maxl, z_maxt, z_minl, z_bi, z_bb, z_tul, z_tut, z_tur, z_lil, z_lit, z_all, z_max2, z_min2, z_kt, z_kl, z_cot, z_col, z_da, z_ds0, z_ds1, z_sql, z_sqt, z_isLr, z_fn, z_fb, z_fi, z_fs, sn_0, sn_1, sn_2, sn_3, sn_4, sn_5, sn_6, sn_7, sn_8, sn_9, sn_10, sn_11, sn_12, sn_13, sn_14, sn_15, sn_16, sn_17, sn_18, sn_19, whole_ok, top_ok, y1, y2, y3, z_eqi, y4]
      simp only [q_is_stroke4, post_cons]
      simp [ex, xB_eq, ev, evs, evb, evt, evo, evi, evf, tst, K.val, Bz.isi, isOwn, post_bind, post_ok, post_lift, post_ite, post_noexc, post_nil, bind_ok, fk_nx, fk_rt, fr_nx, fr_rt, lift_some, sto, stoT, wipeS, z_add, z_adds, z_addt, z_addl, z_sub, z_mul, z_mult, z_mull, z_fdiv, z_mod, z_eq, z_ne, z_eqi, z_eqb, z_eqs, z_eqn, z_lt, z_le, z_gt, z_ge, z_is0, z_is1, z_is2, z_is3, z_is4, z_is5, z_in0, z_in1, z_in2, z_in3, z_in4, z_in5, z_inl, z_int, z_nil, z_nit, z_t0, z_t1, z_t2, z_t3, z_t4, z_t5, z_tr, z_isb, z_isb1, z_isb2, z_isb3, z_isb4, z_isb5, z_addb, z_subb, z_nsb, z_rvt, z_rvl, z_stp, z_srl, z_srt, z_sti, z_stb, z_shl, z_ixt, z_ixl, z_ixr, z_slt, z_sll, z_lent, z_lenl, z_lenr, z_suml, z_sumt, z_maxl, z_maxt, z_minl, z_bi, z_bb, z_tul, z_tut, z_tur, z_lil, z_lit, z_all, z_max2, z_min2, z_kt, z_kl, z_cot, z_col, z_da, z_ds0, z_ds1, z_sql, z_sqt, z_isLr, z_fn, z_fb, z_fi, z_fs, sn_0, sn_1, sn_2, sn_3, sn_4, sn_5, sn_6, sn_7, sn_8, sn_9, sn_10, sn_11, sn_12, sn_13, sn_14, sn_15, sn_16, sn_17, sn_18, sn_19]
      exact hnx
    · simp only [q_is_stroke5, post_cons]
      simp [ex, xB_eq, ev, evs, evb, evt, evo, evi, evf, tst, K.val, Bz.isi, isOwn, post_bind, post_ok, post_lift, post_ite, post_noexc, post_nil, bind_ok, fk_nx, fk_rt, fr_nx, fr_rt, lift_some, sto, stoT, wipeS, z_add, z_adds, z_addt, z_addl, z_sub, z_mul, z_mult, z_mull, z_fdiv, z_mod, z_eq, z_ne, z_eqi, z_eqb, z_eqs, z_eqn, z_lt, z_le, z_gt, z_ge, z_is0, z_is1, z_is2, z_is3, z_is4, z_is5, z_in0, z_in1, z_in2, z_in3, z_in4, z_in5, z_inl, z_int, z_nil, z_nit, z_t0, z_t1, z_t2, z_t3, z_t4, z_t5, z_tr, z_isb, z_isb1, z_isb2, z_isb3, z_isb4, z_isb5, z_addb, z_subb, z_nsb, z_rvt, z_rvl, z_stp, z_srl, z_srt, z_sti, z_stb, z_shl, z_ixt, z_ixl, z_ixr, z_slt, z_sll, z_lent, z_lenl, z_lenr, z_suml, z_sumt, z_maxl, z_maxt, z_minl, z_bi, z_bb, z_tul, z_tut, z_tur, z_lil, z_lit, z_all, z_max2, z_min2, z_kt, z_kl, z_cot, z_col, z_da, z_ds0, z_ds1, z_sql, z_sqt, z_isLr, z_fn, z_fb, z_fi, z_fs, sn_0, sn_1, sn_2, sn_3, sn_4, sn_5, sn_6, sn_7, sn_8, sn_9, sn_10, sn_11, sn_12, sn_13, sn_14, sn_15, sn_16, sn_17, sn_18, sn_19, whole_ok, top_ok, y1, y2, y3, z_eqi, h1]
      simp only [q_is_stroke4, post_cons]
      simp [ex, xB_eq, ev, evs, evb, evt, evo, evi, evf, tst, K.val, Bz.isi, isOwn, post_bind, post_ok, post_lift, post_ite, post_noexc, post_nil, bind_ok, fk_nx, fk_rt, fr_nx, fr_rt, lift_some, sto, stoT, wipeS, z_add, z_adds, z_addt, z_addl, z_sub, z_mul, z_mult, z_mull, z_fdiv, z_mod, z_eq, z_ne, z_eqi, z_eqb, z_eqs, z_eqn, z_lt, z_le, z_gt, z_ge, z_is0, z_is1, z_is2, z_is3, z_is4, z_is5, z_in0, z_in1, z_in2, z_in3, z_in4, z_in5, z_inl, z_int, z_nil, z_nit, z_t0, z_t1, z_t2, z_t3, z_t4, z_t5, z_tr, z_isb, z_isb1, z_isb2, z_isb3, z_isb4, z_isb5, z_addb, z_subb, z_nsb, z_rvt, z_rvl, z_stp, z_srl, z_srt, z_sti, z_stb, z_shl, z_ixt, z_ixl, z_ixr, z_slt, z_sll, z_lent, z_lenl, z_lenr, z_suml, z_sumt, z_maxl, z_maxt, z_minl, z_bi, z_bb, z_tul, z_tut, z_tur, z_lil, z_lit, z_all, z_max2, z_min2, z_kt, z_kl, z_cot, z_col, z_da, z_ds0, z_ds1, z_sql, z_sqt, z_isLr, z_fn, z_fb, z_fi, z_fs, sn_0, sn_1, sn_2, sn_3, sn_4, sn_5, sn_6, sn_7, sn_8, sn_9, sn_10, sn_11, sn_12, sn_13, sn_14, sn_15, sn_16, sn_17, sn_18, sn_19]
      exact hnx
  · rintro env s ⟨rfl, last, s5, hl, rfl⟩
    rw [fk_nx]
    have hc := h.cnt
    by_cases h0 : 0 < f
    · simp only [q_is_stroke6, post_cons]
      simp [ex, xB_eq, ev, evs, evb, evt, evo, evi, evf, tst, K.val, Bz.isi, isOwn, post_bind, post_ok, post_lift, post_ite, post_noexc, post_nil, bind_ok, fk_nx, fk_rt, fr_nx, fr_rt, lift_some, sto, stoT, wipeS, z_add, z_adds, z_addt, z_addl, z_sub, z_mul, z_mult, z_mull, z_fdiv, z_mod, z_eq, z_ne, z_eqi, z_eqb, z_eqs, z_eqn, z_lt, z_le, z_gt, z_ge, z_is0, z_is1, z_is2, z_is3, z_is4, z_is5, z_in0, z_in1, z_in2, z_in3, z_in4, z_in5, z_inl, z_int, z_nil, z_nit, z_t0, z_t1, z_t2, z_t3, z_t4, z_t5, z_tr, z_isb, z_isb1, z_isb2, z_isb3, z_isb4, z_isb5, z_addb, z_subb, z_nsb, z_rvt, z_rvl, z_stp, z_srl, z_srt, z_sti, z_stb, z_shl, z_ixt, z_ixl, z_ixr, z_slt, z_sll, z_lent, z_lenl, z_lenr, z_suml, z_sumt, z_maxl, z_maxt, z_minl, z_bi, z_bb, z_tul, z_tut, z_tur, z_lil, z_lit, z_all, z_max2, z_min2, z_kt, z_kl, z_cot, z_col, z_da, z_ds0, z_ds1, z_sql, z_sqt, z_isLr, z_fn, z_fb, z_fi, z_fs, sn_0, sn_1, sn_2, sn_3, sn_4, sn_5, sn_6, sn_7, sn_8, sn_9, sn_10, sn_11, sn_12, sn_13, sn_14, sn_15, sn_16, sn_17, sn_18, sn_19, L2.atI, L2.ixN, flats, ← List.countP_map, countP_ints, hc, h0]
      exact hP
    · have hn := h.no (by omega)
      subst hn
      simp only [List.count_nil, Int.natCast_zero] at hc
      simp only [q_is_stroke6, post_cons]
      simp [ex, xB_eq, ev, evs, evb, evt, evo, evi, evf, tst, K.val, Bz.isi, isOwn, post_bind, post_ok, post_lift, post_ite, post_noexc, post_nil, bind_ok, fk_nx, fk_rt, fr_nx, fr_rt, lift_some, sto, stoT, wipeS, z_add, z_adds, z_addt, z_addl, z_sub, z_mul, z_mult, z_mull, z_fdiv, z_mod, z_eq, z_ne, z_eqi, z_eqb, z_eqs, z_eqn, z_lt, z_le, z_gt, z_ge, z_is0, z_is1, z_is2, z_is3, z_is4, z_is5, z_in0, z_in1, z_in2, z_in3, z_in4, z_in5, z_inl, z_int, z_nil, z_nit, z_t0, z_t1, z_t2, z_t3, z_t4, z_t5, z_tr, z_isb, z_isb1, z_isb2, z_isb3, z_isb4, z_isb5, z_addb, z_subb, z_nsb, z_rvt, z_rvl, z_stp, z_srl, z_srt, z_sti, z_stb, z_shl, z_ixt, z_ixl, z_ixr, z_slt, z_sll, z_lent, z_lenl, z_lenr, z_suml, z_sumt, z_maxl, z_maxt, z_minl, z_bi, z_bb, z_tul, z_tut, z_tur, z_lil, z_lit, z_all, z_max2, z_min2, z_kt, z_kl, z_cot, z_col, z_da, z_ds0, z_ds1, z_sql, z_sqt, z_isLr, z_fn, z_fb, z_fi, z_fs, sn_0, sn_1, sn_2, sn_3, sn_4, sn_5, sn_6, sn_7, sn_8, sn_9, sn_10, sn_11, sn_12, sn_13, sn_14, sn_15, sn_16, sn_17, sn_18, sn_19, L2.atI, L2.ixN, hc, h0, eqv_nilT]
      exact hP
theorem isdeed_ok {k : Nat} {a b : Int} {d : Dd} {st : Stt} (h : DdOk a b d) : rn Gm (k + 3) 62 [ru a b, .d d.e] st = .ok (.d (.bool true)) st := by
  refine Post.eqQ fun P hP => ?_
  rw [run_at (d := ⟨2, 2, b_is_deed⟩) rfl]
  rw [post_runB]
  refine ⟨rfl, ?_⟩
  cases d with
  | give =>
    simp only [b_is_deed, post_cons]
    simp [ex, xB_eq, ev, evs, evb, evt, evo, evi, evf, tst, K.val, Bz.isi, isOwn, post_bind, post_ok, post_lift, post_ite, post_noexc, post_nil, bind_ok, fk_nx, fk_rt, fr_nx, fr_rt, lift_some, sto, stoT, wipeS, z_add, z_adds, z_addt, z_addl, z_sub, z_mul, z_mult, z_mull, z_fdiv, z_mod, z_eq, z_ne, z_eqi, z_eqb, z_eqs, z_eqn, z_lt, z_le, z_gt, z_ge, z_is0, z_is1, z_is2, z_is3, z_is4, z_is5, z_in0, z_in1, z_in2, z_in3, z_in4, z_in5, z_inl, z_int, z_nil, z_nit, z_t0, z_t1, z_t2, z_t3, z_t4, z_t5, z_tr, z_isb, z_isb1, z_isb2, z_isb3, z_isb4, z_isb5, z_addb, z_subb, z_nsb, z_rvt, z_rvl, z_stp, z_srl, z_srt, z_sti, z_stb, z_shl, z_ixt, z_ixl, z_ixr, z_slt, z_sll, z_lent, z_lenl, z_lenr, z_suml, z_sumt, z_maxl, z_maxt, z_minl, z_bi, z_bb, z_tul, z_tut, z_tur, z_lil, z_lit, z_all, z_max2, z_min2, z_kt, z_kl, z_cot, z_col, z_da, z_ds0, z_ds1, z_sql, z_sqt, z_isLr, z_fn, z_fb, z_fi, z_fs, sn_0, sn_1, sn_2, sn_3, sn_4, sn_5, sn_6, sn_7, sn_8, sn_9, sn_10, sn_11, sn_12, sn_13, sn_14, sn_15, sn_16, sn_17, sn_18, sn_19, L2.atI, L2.ixN, Dd.e]
    simp only [q_is_deed4, post_cons]
    simp [ex, xB_eq, ev, evs, evb, evt, evo, evi, evf, tst, K.val, Bz.isi, isOwn, post_bind, post_ok, post_lift, post_ite, post_noexc, post_nil, bind_ok, fk_nx, fk_rt, fr_nx, fr_rt, lift_some, sto, stoT, wipeS, z_add, z_adds, z_addt, z_addl, z_sub, z_mul, z_mult, z_mull, z_fdiv, z_mod, z_eq, z_ne, z_eqi, z_eqb, z_eqs, z_eqn, z_lt, z_le, z_gt, z_ge, z_is0, z_is1, z_is2, z_is3, z_is4, z_is5, z_in0, z_in1, z_in2, z_in3, z_in4, z_in5, z_inl, z_int, z_nil, z_nit, z_t0, z_t1, z_t2, z_t3, z_t4, z_t5, z_tr, z_isb, z_isb1, z_isb2, z_isb3, z_isb4, z_isb5, z_addb, z_subb, z_nsb, z_rvt, z_rvl, z_stp, z_srl, z_srt, z_sti, z_stb, z_shl, z_ixt, z_ixl, z_ixr, z_slt, z_sll, z_lent, z_lenl, z_lenr, z_suml, z_sumt, z_maxl, z_maxt, z_minl, z_bi, z_bb, z_tul, z_tut, z_tur, z_lil, z_lit, z_all, z_max2, z_min2, z_kt, z_kl, z_cot, z_col, z_da, z_ds0, z_ds1, z_sql, z_sqt, z_isLr, z_fn, z_fb, z_fi, z_fs, sn_0, sn_1, sn_2, sn_3, sn_4, sn_5, sn_6, sn_7, sn_8, sn_9, sn_10, sn_11, sn_12, sn_13, sn_14, sn_15, sn_16, sn_17, sn_18, sn_19, L2.atI, L2.ixN]
    simp only [q_is_deed3, post_cons]
    simp [ex, xB_eq, ev, evs, evb, evt, evo, evi, evf, tst, K.val, Bz.isi, isOwn, post_bind, post_ok, post_lift, post_ite, post_noexc, post_nil, bind_ok, fk_nx, fk_rt, fr_nx, fr_rt, lift_some, sto, stoT, wipeS, z_add, z_adds, z_addt, z_addl, z_sub, z_mul, z_mult, z_mull, z_fdiv, z_mod, z_eq, z_ne, z_eqi, z_eqb, z_eqs, z_eqn, z_lt, z_le, z_gt, z_ge, z_is0, z_is1, z_is2, z_is3, z_is4, z_is5, z_in0, z_in1, z_in2, z_in3, z_in4, z_in5, z_inl, z_int, z_nil, z_nit, z_t0, z_t1, z_t2, z_t3, z_t4, z_t5, z_tr, z_isb, z_isb1, z_isb2, z_isb3, z_isb4, z_isb5, z_addb, z_subb, z_nsb, z_rvt, z_rvl, z_stp, z_srl, z_srt, z_sti, z_stb, z_shl, z_ixt, z_ixl, z_ixr, z_slt, z_sll, z_lent, z_lenl, z_lenr, z_suml, z_sumt, z_maxl, z_maxt, z_minl, z_bi, z_bb, z_tul, z_tut, z_tur, z_lil, z_lit, z_all, z_max2, z_min2, z_kt, z_kl, z_cot, z_col, z_da, z_ds0, z_ds1, z_sql, z_sqt, z_isLr, z_fn, z_fb, z_fi, z_fs, sn_0, sn_1, sn_2, sn_3, sn_4, sn_5, sn_6, sn_7, sn_8, sn_9, sn_10, sn_11, sn_12, sn_13, sn_14, sn_15, sn_16, sn_17, sn_18, sn_19, L2.atI, L2.ixN, z_eqi, inD, PyData.eqv]
    exact hP
  | free =>
    simp only [b_is_deed, post_cons]
    simp [ex, xB_eq, ev, evs, evb, evt, evo, evi, evf, tst, K.val, Bz.isi, isOwn, post_bind, post_ok, post_lift, post_ite, post_noexc, post_nil, bind_ok, fk_nx, fk_rt, fr_nx, fr_rt, lift_some, sto, stoT, wipeS, z_add, z_adds, z_addt, z_addl, z_sub, z_mul, z_mult, z_mull, z_fdiv, z_mod, z_eq, z_ne, z_eqi, z_eqb, z_eqs, z_eqn, z_lt, z_le, z_gt, z_ge, z_is0, z_is1, z_is2, z_is3, z_is4, z_is5, z_in0, z_in1, z_in2, z_in3, z_in4, z_in5, z_inl, z_int, z_nil, z_nit, z_t0, z_t1, z_t2, z_t3, z_t4, z_t5, z_tr, z_isb, z_isb1, z_isb2, z_isb3, z_isb4, z_isb5, z_addb, z_subb, z_nsb, z_rvt, z_rvl, z_stp, z_srl, z_srt, z_sti, z_stb, z_shl, z_ixt, z_ixl, z_ixr, z_slt, z_sll, z_lent, z_lenl, z_lenr, z_suml, z_sumt, z_maxl, z_maxt, z_minl, z_bi, z_bb, z_tul, z_tut, z_tur, z_lil, z_lit, z_all, z_max2, z_min2, z_kt, z_kl, z_cot, z_col, z_da, z_ds0, z_ds1, z_sql, z_sqt, z_isLr, z_fn, z_fb, z_fi, z_fs, sn_0, sn_1, sn_2, sn_3, sn_4, sn_5, sn_6, sn_7, sn_8, sn_9, sn_10, sn_11, sn_12, sn_13, sn_14, sn_15, sn_16, sn_17, sn_18, sn_19, L2.atI, L2.ixN, Dd.e]
    simp only [q_is_deed4, post_cons]
    simp [ex, xB_eq, ev, evs, evb, evt, evo, evi, evf, tst, K.val, Bz.isi, isOwn, post_bind, post_ok, post_lift, post_ite, post_noexc, post_nil, bind_ok, fk_nx, fk_rt, fr_nx, fr_rt, lift_some, sto, stoT, wipeS, z_add, z_adds, z_addt, z_addl, z_sub, z_mul, z_mult, z_mull, z_fdiv, z_mod, z_eq, z_ne, z_eqi, z_eqb, z_eqs, z_eqn, z_lt, z_le, z_gt, z_ge, z_is0, z_is1, z_is2, z_is3, z_is4, z_is5, z_in0, z_in1, z_in2, z_in3, z_in4, z_in5, z_inl, z_int, z_nil, z_nit, z_t0, z_t1, z_t2, z_t3, z_t4, z_t5, z_tr, z_isb, z_isb1, z_isb2, z_isb3, z_isb4, z_isb5, z_addb, z_subb, z_nsb, z_rvt, z_rvl, z_stp, z_srl, z_srt, z_sti, z_stb, z_shl, z_ixt, z_ixl, z_ixr, z_slt, z_sll, z_lent, z_lenl, z_lenr, z_suml, z_sumt, z_maxl, z_maxt, z_minl, z_bi, z_bb, z_tul, z_tut, z_tur, z_lil, z_lit, z_all, z_max2, z_min2, z_kt, z_kl, z_cot, z_col, z_da, z_ds0, z_ds1, z_sql, z_sqt, z_isLr, z_fn, z_fb, z_fi, z_fs, sn_0, sn_1, sn_2, sn_3, sn_4, sn_5, sn_6, sn_7, sn_8, sn_9, sn_10, sn_11, sn_12, sn_13, sn_14, sn_15, sn_16, sn_17, sn_18, sn_19, L2.atI, L2.ixN]
    simp only [q_is_deed3, post_cons]
    simp [ex, xB_eq, ev, evs, evb, evt, evo, evi, evf, tst, K.val, Bz.isi, isOwn, post_bind, post_ok, post_lift, post_ite, post_noexc, post_nil, bind_ok, fk_nx, fk_rt, fr_nx, fr_rt, lift_some, sto, stoT, wipeS, z_add, z_adds, z_addt, z_addl, z_sub, z_mul, z_mult, z_mull, z_fdiv, z_mod, z_eq, z_ne, z_eqi, z_eqb, z_eqs, z_eqn, z_lt, z_le, z_gt, z_ge, z_is0, z_is1, z_is2, z_is3, z_is4, z_is5, z_in0, z_in1, z_in2, z_in3, z_in4, z_in5, z_inl, z_int, z_nil, z_nit, z_t0, z_t1, z_t2, z_t3, z_t4, z_t5, z_tr, z_isb, z_isb1, z_isb2, z_isb3, z_isb4, z_isb5, z_addb, z_subb, z_nsb, z_rvt, z_rvl, z_stp, z_srl, z_srt, z_sti, z_stb, z_shl, z_ixt, z_ixl, z_ixr, z_slt, z_sll, z_lent, z_lenl, z_lenr, z_suml, z_sumt, z_maxl, z_maxt, z_minl, z_bi, z_bb, z_tul, z_tut, z_tur, z_lil, z_lit, z_all, z_max2, z_min2, z_kt, z_kl, z_cot, z_col, z_da, z_ds0, z_ds1, z_sql, z_sqt, z_isLr, z_fn, z_fb, z_fi, z_fs, sn_0, sn_1, sn_2, sn_3, sn_4, sn_5, sn_6, sn_7, sn_8, sn_9, sn_10, sn_11, sn_12, sn_13, sn_14, sn_15, sn_16, sn_17, sn_18, sn_19, L2.atI, L2.ixN, z_eqi, inD, PyData.eqv]
    exact hP
  | pass =>
    simp only [b_is_deed, post_cons]
    simp [ex, xB_eq, ev, evs, evb, evt, evo, evi, evf, tst, K.val, Bz.isi, isOwn, post_bind, post_ok, post_lift, post_ite, post_noexc, post_nil, bind_ok, fk_nx, fk_rt, fr_nx, fr_rt, lift_some, sto, stoT, wipeS, z_add, z_adds, z_addt, z_addl, z_sub, z_mul, z_mult, z_mull, z_fdiv, z_mod, z_eq, z_ne, z_eqi, z_eqb, z_eqs, z_eqn, z_lt, z_le, z_gt, z_ge, z_is0, z_is1, z_is2, z_is3, z_is4, z_is5, z_in0, z_in1, z_in2, z_in3, z_in4, z_in5, z_inl, z_int, z_nil, z_nit, z_t0, z_t1, z_t2, z_t3, z_t4, z_t5, z_tr, z_isb, z_isb1, z_isb2, z_isb3, z_isb4, z_isb5, z_addb, z_subb, z_nsb, z_rvt, z_rvl, z_stp, z_srl, z_srt, z_sti, z_stb, z_shl, z_ixt, z_ixl, z_ixr, z_slt, z_sll, z_lent, z_lenl, z_lenr, z_suml, z_sumt, z_maxl, z_maxt, z_minl, z_bi, z_bb, z_tul, z_tut, z_tur, z_lil, z_lit, z_all, z_max2, z_min2, z_kt, z_kl, z_cot, z_col, z_da, z_ds0, z_ds1, z_sql, z_sqt, z_isLr, z_fn, z_fb, z_fi, z_fs, sn_0, sn_1, sn_2, sn_3, sn_4, sn_5, sn_6, sn_7, sn_8, sn_9, sn_10, sn_11, sn_12, sn_13, sn_14, sn_15, sn_16, sn_17, sn_18, sn_19, L2.atI, L2.ixN, Dd.e]
    simp only [q_is_deed4, post_cons]
    simp [ex, xB_eq, ev, evs, evb, evt, evo, evi, evf, tst, K.val, Bz.isi, isOwn, post_bind, post_ok, post_lift, post_ite, post_noexc, post_nil, bind_ok, fk_nx, fk_rt, fr_nx, fr_rt, lift_some, sto, stoT, wipeS, z_add, z_adds, z_addt, z_addl, z_sub, z_mul, z_mult, z_mull, z_fdiv, z_mod, z_eq, z_ne, z_eqi, z_eqb, z_eqs, z_eqn, z_lt, z_le, z_gt, z_ge, z_is0, z_is1, z_is2, z_is3, z_is4, z_is5, z_in0, z_in1, z_in2, z_in3, z_in4, z_in5, z_inl, z_int, z_nil, z_nit, z_t0, z_t1, z_t2, z_t3, z_t4, z_t5, z_tr, z_isb, z_isb1, z_isb2, z_isb3, z_isb4, z_isb5, z_addb, z_subb, z_nsb, z_rvt, z_rvl, z_stp, z_srl, z_srt, z_sti, z_stb, z_shl, z_ixt, z_ixl, z_ixr, z_slt, z_sll, z_lent, z_lenl, z_lenr, z_suml, z_sumt, z_maxl, z_maxt, z_minl, z_bi, z_bb, z_tul, z_tut, z_tur, z_lil, z_lit, z_all, z_max2, z_min2, z_kt, z_kl, z_cot, z_col, z_da, z_ds0, z_ds1, z_sql, z_sqt, z_isLr, z_fn, z_fb, z_fi, z_fs, sn_0, sn_1, sn_2, sn_3, sn_4, sn_5, sn_6, sn_7, sn_8, sn_9, sn_10, sn_11, sn_12, sn_13, sn_14, sn_15, sn_16, sn_17, sn_18, sn_19, L2.atI, L2.ixN]
    simp only [q_is_deed3, post_cons]
    simp [ex, xB_eq, ev, evs, evb, evt, evo, evi, evf, tst, K.val, Bz.isi, isOwn, post_bind, post_ok, post_lift, post_ite, post_noexc, post_nil, bind_ok, fk_nx, fk_rt, fr_nx, fr_rt, lift_some, sto, stoT, wipeS, z_add, z_adds, z_addt, z_addl, z_sub, z_mul, z_mult, z_mull, z_fdiv, z_mod, z_eq, z_ne, z_eqi, z_eqb, z_eqs, z_eqn, z_lt, z_le, z_gt, z_ge, z_is0, z_is1, z_is2, z_is3, z_is4, z_is5, z_in0, z_in1, z_in2, z_in3, z_in4, z_in5, z_inl, z_int, z_nil, z_nit, z_t0, z_t1, z_t2, z_t3, z_t4, z_t5, z_tr, z_isb, z_isb1, z_isb2, z_isb3, z_isb4, z_isb5, z_addb, z_subb, z_nsb, z_rvt, z_rvl, z_stp, z_srl, z_srt, z_sti, z_stb, z_shl, z_ixt, z_ixl, z_ixr, z_slt, z_sll, z_lent, z_lenl, z_lenr, z_suml, z_sumt, z_maxl, z_maxt, z_minl, z_bi, z_bb, z_tul, z_tut, z_tur, z_lil, z_lit, z_all, z_max2, z_min2, z_kt, z_kl, z_cot, z_col, z_da, z_ds0, z_ds1, z_sql, z_sqt, z_isLr, z_fn, z_fb, z_fi, z_fs, sn_0, sn_1, sn_2, sn_3, sn_4, sn_5, sn_6, sn_7, sn_8, sn_9, sn_10, sn_11, sn_12, sn_13, sn_14, sn_15, sn_16, sn_17, sn_18, sn_19, L2.atI, L2.ixN, z_eqi, inD, PyData.eqv]
    exact hP
  | stroke f ps off =>
    have hc : cut [PyData.str "stroke", .int f, .tuple (ps.map .int), .bool off] (some 1) none = [.int f, .tuple (ps.map .int), .bool off] := rfl
    have hs := fun st => isstroke_ok (k := k) (off := off) (st := st) h
    unfold stk at hs
    simp only [b_is_deed, post_cons]
    simp [ex, xB_eq, ev, evs, evb, evt, evo, evi, evf, tst, K.val, Bz.isi, isOwn, post_bind, post_ok, post_lift, post_ite, post_noexc, post_nil, bind_ok, fk_nx, fk_rt, fr_nx, fr_rt, lift_some, sto, stoT, wipeS, z_add, z_adds, z_addt, z_addl, z_sub, z_mul, z_mult, z_mull, z_fdiv, z_mod, z_eq, z_ne, z_eqi, z_eqb, z_eqs, z_eqn, z_lt, z_le, z_gt, z_ge, z_is0, z_is1, z_is2, z_is3, z_is4, z_is5, z_in0, z_in1, z_in2, z_in3, z_in4, z_in5, z_inl, z_int, z_nil, z_nit, z_t0, z_t1, z_t2, z_t3, z_t4, z_t5, z_tr, z_isb, z_isb1, z_isb2, z_isb3, z_isb4, z_isb5, z_addb, z_subb, z_nsb, z_rvt, z_rvl, z_stp, z_srl, z_srt, z_sti, z_stb, z_shl, z_ixt, z_ixl, z_ixr, z_slt, z_sll, z_lent, z_lenl, z_lenr, z_suml, z_sumt, z_maxl, z_maxt, z_minl, z_bi, z_bb, z_tul, z_tut, z_tur, z_lil, z_lit, z_all, z_max2, z_min2, z_kt, z_kl, z_cot, z_col, z_da, z_ds0, z_ds1, z_sql, z_sqt, z_isLr, z_fn, z_fb, z_fi, z_fs, sn_0, sn_1, sn_2, sn_3, sn_4, sn_5, sn_6, sn_7, sn_8, sn_9, sn_10, sn_11, sn_12, sn_13, sn_14, sn_15, sn_16, sn_17, sn_18, sn_19, L2.atI, L2.ixN, Dd.e]
    simp only [q_is_deed4, post_cons]
    simp [ex, xB_eq, ev, evs, evb, evt, evo, evi, evf, tst, K.val, Bz.isi, isOwn, post_bind, post_ok, post_lift, post_ite, post_noexc, post_nil, bind_ok, fk_nx, fk_rt, fr_nx, fr_rt, lift_some, sto, stoT, wipeS, z_add, z_adds, z_addt, z_addl, z_sub, z_mul, z_mult, z_mull, z_fdiv, z_mod, z_eq, z_ne, z_eqi, z_eqb, z_eqs, z_eqn, z_lt, z_le, z_gt, z_ge, z_is0, z_is1, z_is2, z_is3, z_is4, z_is5, z_in0, z_in1, z_in2, z_in3, z_in4, z_in5, z_inl, z_int, z_nil, z_nit, z_t0, z_t1, z_t2, z_t3, z_t4, z_t5, z_tr, z_isb, z_isb1, z_isb2, z_isb3, z_isb4, z_isb5, z_addb, z_subb, z_nsb, z_rvt, z_rvl, z_stp, z_srl, z_srt, z_sti, z_stb, z_shl, z_ixt, z_ixl, z_ixr, z_slt, z_sll, z_lent, z_lenl, z_lenr, z_suml, z_sumt, z_maxl, z_maxt, z_minl, z_bi, z_bb, z_tul, z_tut, z_tur, z_lil, z_lit, z_all, z_max2, z_min2, z_kt, z_kl, z_cot, z_col, z_da, z_ds0, z_ds1, z_sql, z_sqt, z_isLr, z_fn, z_fb, z_fi, z_fs, sn_0, sn_1, sn_2, sn_3, sn_4, sn_5, sn_6, sn_7, sn_8, sn_9, sn_10, sn_11, sn_12, sn_13, sn_14, sn_15, sn_16, sn_17, sn_18, sn_19, L2.atI, L2.ixN]
    simp only [q_is_deed2, post_cons]
    simp [ex, xB_eq, ev, evs, evb, evt, evo, evi, evf, tst, K.val, Bz.isi, isOwn, post_bind, post_ok, post_lift, post_ite, post_noexc, post_nil, bind_ok, fk_nx, fk_rt, fr_nx, fr_rt, lift_some, sto, stoT, wipeS, z_add, z_adds, z_addt, z_addl, z_sub, z_mul, z_mult, z_mull, z_fdiv, z_mod, z_eq, z_ne, z_eqi, z_eqb, z_eqs, z_eqn, z_lt, z_le, z_gt, z_ge, z_is0, z_is1, z_is2, z_is3, z_is4, z_is5, z_in0, z_in1, z_in2, z_in3, z_in4, z_in5, z_inl, z_int, z_nil, z_nit, z_t0, z_t1, z_t2, z_t3, z_t4, z_t5, z_tr, z_isb, z_isb1, z_isb2, z_isb3, z_isb4, z_isb5, z_addb, z_subb, z_nsb, z_rvt, z_rvl, z_stp, z_srl, z_srt, z_sti, z_stb, z_shl, z_ixt, z_ixl, z_ixr, z_slt, z_sll, z_lent, z_lenl, z_lenr, z_suml, z_sumt, z_maxl, z_maxt, z_minl, z_bi, z_bb, z_tul, z_tut, z_tur, z_lil, z_lit, z_all, z_max2, z_min2, z_kt, z_kl, z_cot, z_col, z_da, z_ds0, z_ds1, z_sql, z_sqt, z_isLr, z_fn, z_fb, z_fi, z_fs, sn_0, sn_1, sn_2, sn_3, sn_4, sn_5, sn_6, sn_7, sn_8, sn_9, sn_10, sn_11, sn_12, sn_13, sn_14, sn_15, sn_16, sn_17, sn_18, sn_19, hc, hs]
    exact hP
theorem behind_not {k : Nat} {a b : Int} {p : Pl} {d : Dd} {st : Stt} (hp : PlOk a b p) (hd : DdOk a b d) (e : moved b p d = none) : rn Gm (k + 5) 34 [ru a b, .d p.e, .d d.e] st = .exc "NotNow" st := by
  refine Px.eq ?_
  rw [run_at (d := ⟨9, 3, b_behind⟩) rfl]
  rw [px_runB]
  refine ⟨rfl, ?_⟩
  have hpe : p.e = .tuple [.int p.up, .int p.on, .int p.reds, .int p.low, .tuple [.int p.p0, .int p.p1], .int p.free] := rfl
  cases d with
  | give => simp only [moved] at e; cases e
  | free =>
    simp only [moved] at e
    split at e
    · rename_i hne
      simp only [b_behind, px_cons]
      simp [ex, xB_eq, ev, evs, evb, evt, evo, evi, evf, tst, K.val, Bz.isi, isOwn, post_bind, post_ok, post_lift, post_ite, post_noexc, post_nil, bind_ok, fk_nx, fk_rt, fr_nx, fr_rt, lift_some, sto, stoT, wipeS, z_add, z_adds, z_addt, z_addl, z_sub, z_mul, z_mult, z_mull, z_fdiv, z_mod, z_eq, z_ne, z_eqi, z_eqb, z_eqs, z_eqn, z_lt, z_le, z_gt, z_ge, z_is0, z_is1, z_is2, z_is3, z_is4, z_is5, z_in0, z_in1, z_in2, z_in3, z_in4, z_in5, z_inl, z_int, z_nil, z_nit, z_t0, z_t1, z_t2, z_t3, z_t4, z_t5, z_tr, z_isb, z_isb1, z_isb2, z_isb3, z_isb4, z_isb5, z_addb, z_subb, z_nsb, z_rvt, z_rvl, z_stp, z_srl, z_srt, z_sti, z_stb, z_shl, z_ixt, z_ixl, z_ixr, z_slt, z_sll, z_lent, z_lenl, z_lenr, z_suml, z_sumt, z_maxl, z_maxt, z_minl, z_bi, z_bb, z_tul, z_tut, z_tur, z_lil, z_lit, z_all, z_max2, z_min2, z_kt, z_kl, z_cot, z_col, z_da, z_ds0, z_ds1, z_sql, z_sqt, z_isLr, z_fn, z_fb, z_fi, z_fs, sn_0, sn_1, sn_2, sn_3, sn_4, sn_5, sn_6, sn_7, sn_8, sn_9, sn_10, sn_11, sn_12, sn_13, sn_14, sn_15, sn_16, sn_17, sn_18, sn_19, px_bind, px_ok, px_exc, px_lift, px_ite, px_nil, px_stuck, fx_nx, fx_rt, post_exc, post_stuck, bind_exc, hpe, Dd.e]
      simp only [q_behind11, px_cons]
      simp [ex, xB_eq, ev, evs, evb, evt, evo, evi, evf, tst, K.val, Bz.isi, isOwn, post_bind, post_ok, post_lift, post_ite, post_noexc, post_nil, bind_ok, fk_nx, fk_rt, fr_nx, fr_rt, lift_some, sto, stoT, wipeS, z_add, z_adds, z_addt, z_addl, z_sub, z_mul, z_mult, z_mull, z_fdiv, z_mod, z_eq, z_ne, z_eqi, z_eqb, z_eqs, z_eqn, z_lt, z_le, z_gt, z_ge, z_is0, z_is1, z_is2, z_is3, z_is4, z_is5, z_in0, z_in1, z_in2, z_in3, z_in4, z_in5, z_inl, z_int, z_nil, z_nit, z_t0, z_t1, z_t2, z_t3, z_t4, z_t5, z_tr, z_isb, z_isb1, z_isb2, z_isb3, z_isb4, z_isb5, z_addb, z_subb, z_nsb, z_rvt, z_rvl, z_stp, z_srl, z_srt, z_sti, z_stb, z_shl, z_ixt, z_ixl, z_ixr, z_slt, z_sll, z_lent, z_lenl, z_lenr, z_suml, z_sumt, z_maxl, z_maxt, z_minl, z_bi, z_bb, z_tul, z_tut, z_tur, z_lil, z_lit, z_all, z_max2, z_min2, z_kt, z_kl, z_cot, z_col, z_da, z_ds0, z_ds1, z_sql, z_sqt, z_isLr, z_fn, z_fb, z_fi, z_fs, sn_0, sn_1, sn_2, sn_3, sn_4, sn_5, sn_6, sn_7, sn_8, sn_9, sn_10, sn_11, sn_12, sn_13, sn_14, sn_15, sn_16, sn_17, sn_18, sn_19, px_bind, px_ok, px_exc, px_lift, px_ite, px_nil, px_stuck, fx_nx, fx_rt, post_exc, post_stuck, bind_exc, L2.atI, L2.ixN]
      simp only [q_behind10, px_cons]
      simp [ex, xB_eq, ev, evs, evb, evt, evo, evi, evf, tst, K.val, Bz.isi, isOwn, post_bind, post_ok, post_lift, post_ite, post_noexc, post_nil, bind_ok, fk_nx, fk_rt, fr_nx, fr_rt, lift_some, sto, stoT, wipeS, z_add, z_adds, z_addt, z_addl, z_sub, z_mul, z_mult, z_mull, z_fdiv, z_mod, z_eq, z_ne, z_eqi, z_eqb, z_eqs, z_eqn, z_lt, z_le, z_gt, z_ge, z_is0, z_is1, z_is2, z_is3, z_is4, z_is5, z_in0, z_in1, z_in2, z_in3, z_in4, z_in5, z_inl, z_int, z_nil, z_nit, z_t0, z_t1, z_t2, z_t3, z_t4, z_t5, z_tr, z_isb, z_isb1, z_isb2, z_isb3, z_isb4, z_isb5, z_addb, z_subb, z_nsb, z_rvt, z_rvl, z_stp, z_srl, z_srt, z_sti, z_stb, z_shl, z_ixt, z_ixl, z_ixr, z_slt, z_sll, z_lent, z_lenl, z_lenr, z_suml, z_sumt, z_maxl, z_maxt, z_minl, z_bi, z_bb, z_tul, z_tut, z_tur, z_lil, z_lit, z_all, z_max2, z_min2, z_kt, z_kl, z_cot, z_col, z_da, z_ds0, z_ds1, z_sql, z_sqt, z_isLr, z_fn, z_fb, z_fi, z_fs, sn_0, sn_1, sn_2, sn_3, sn_4, sn_5, sn_6, sn_7, sn_8, sn_9, sn_10, sn_11, sn_12, sn_13, sn_14, sn_15, sn_16, sn_17, sn_18, sn_19, px_bind, px_ok, px_exc, px_lift, px_ite, px_nil, px_stuck, fx_nx, fx_rt, post_exc, post_stuck, bind_exc, L2.atI, L2.ixN]
      by_cases h1 : p.free = 1
      · have h2 : p.on = b + 1 := by omega
        simp only [q_behind9, px_cons]
        simp [ex, xB_eq, ev, evs, evb, evt, evo, evi, evf, tst, K.val, Bz.isi, isOwn, post_bind, post_ok, post_lift, post_ite, post_noexc, post_nil, bind_ok, fk_nx, fk_rt, fr_nx, fr_rt, lift_some, sto, stoT, wipeS, z_add, z_adds, z_addt, z_addl, z_sub, z_mul, z_mult, z_mull, z_fdiv, z_mod, z_eq, z_ne, z_eqi, z_eqb, z_eqs, z_eqn, z_lt, z_le, z_gt, z_ge, z_is0, z_is1, z_is2, z_is3, z_is4, z_is5, z_in0, z_in1, z_in2, z_in3, z_in4, z_in5, z_inl, z_int, z_nil, z_nit, z_t0, z_t1, z_t2, z_t3, z_t4, z_t5, z_tr, z_isb, z_isb1, z_isb2, z_isb3, z_isb4, z_isb5, z_addb, z_subb, z_nsb, z_rvt, z_rvl, z_stp, z_srl, z_srt, z_sti, z_stb, z_shl, z_ixt, z_ixl, z_ixr, z_slt, z_sll, z_lent, z_lenl, z_lenr, z_suml, z_sumt, z_maxl, z_maxt, z_minl, z_bi, z_bb, z_tul, z_tut, z_tur, z_lil, z_lit, z_all, z_max2, z_min2, z_kt, z_kl, z_cot, z_col, z_da, z_ds0, z_ds1, z_sql, z_sqt, z_isLr, z_fn, z_fb, z_fi, z_fs, sn_0, sn_1, sn_2, sn_3, sn_4, sn_5, sn_6, sn_7, sn_8, sn_9, sn_10, sn_11, sn_12, sn_13, sn_14, sn_15, sn_16, sn_17, sn_18, sn_19, px_bind, px_ok, px_exc, px_lift, px_ite, px_nil, px_stuck, fx_nx, fx_rt, post_exc, post_stuck, bind_exc, L2.atI, L2.ixN, z_eqi, h1, h2, top_ok]
        simp only [q_behind5, px_cons]
        simp [ex, xB_eq, ev, evs, evb, evt, evo, evi, evf, tst, K.val, Bz.isi, isOwn, post_bind, post_ok, post_lift, post_ite, post_noexc, post_nil, bind_ok, fk_nx, fk_rt, fr_nx, fr_rt, lift_some, sto, stoT, wipeS, z_add, z_adds, z_addt, z_addl, z_sub, z_mul, z_mult, z_mull, z_fdiv, z_mod, z_eq, z_ne, z_eqi, z_eqb, z_eqs, z_eqn, z_lt, z_le, z_gt, z_ge, z_is0, z_is1, z_is2, z_is3, z_is4, z_is5, z_in0, z_in1, z_in2, z_in3, z_in4, z_in5, z_inl, z_int, z_nil, z_nit, z_t0, z_t1, z_t2, z_t3, z_t4, z_t5, z_tr, z_isb, z_isb1, z_isb2, z_isb3, z_isb4, z_isb5, z_addb, z_subb, z_nsb, z_rvt, z_rvl, z_stp, z_srl, z_srt, z_sti, z_stb, z_shl, z_ixt, z_ixl, z_ixr, z_slt, z_sll, z_lent, z_lenl, z_lenr, z_suml, z_sumt, z_maxl, z_maxt, z_minl, z_bi, z_bb, z_tul, z_tut, z_tur, z_lil, z_lit, z_all, z_max2, z_min2, z_kt, z_kl, z_cot, z_col, z_da, z_ds0, z_ds1, z_sql, z_sqt, z_isLr, z_fn, z_fb, z_fi, z_fs, sn_0, sn_1, sn_2, sn_3, sn_4, sn_5, sn_6, sn_7, sn_8, sn_9, sn_10, sn_11, sn_12, sn_13, sn_14, sn_15, sn_16, sn_17, sn_18, sn_19, px_bind, px_ok, px_exc, px_lift, px_ite, px_nil, px_stuck, fx_nx, fx_rt, post_exc, post_stuck, bind_exc]
      · simp only [q_behind9, px_cons]
        simp [ex, xB_eq, ev, evs, evb, evt, evo, evi, evf, tst, K.val, Bz.isi, isOwn, post_bind, post_ok, post_lift, post_ite, post_noexc, post_nil, bind_ok, fk_nx, fk_rt, fr_nx, fr_rt, lift_some, sto, stoT, wipeS, z_add, z_adds, z_addt, z_addl, z_sub, z_mul, z_mult, z_mull, z_fdiv, z_mod, z_eq, z_ne, z_eqi, z_eqb, z_eqs, z_eqn, z_lt, z_le, z_gt, z_ge, z_is0, z_is1, z_is2, z_is3, z_is4, z_is5, z_in0, z_in1, z_in2, z_in3, z_in4, z_in5, z_inl, z_int, z_nil, z_nit, z_t0, z_t1, z_t2, z_t3, z_t4, z_t5, z_tr, z_isb, z_isb1, z_isb2, z_isb3, z_isb4, z_isb5, z_addb, z_subb, z_nsb, z_rvt, z_rvl, z_stp, z_srl, z_srt, z_sti, z_stb, z_shl, z_ixt, z_ixl, z_ixr, z_slt, z_sll, z_lent, z_lenl, z_lenr, z_suml, z_sumt, z_maxl, z_maxt, z_minl, z_bi, z_bb, z_tul, z_tut, z_tur, z_lil, z_lit, z_all, z_max2, z_min2, z_kt, z_kl, z_cot, z_col, z_da, z_ds0, z_ds1, z_sql, z_sqt, z_isLr, z_fn, z_fb, z_fi, z_fs, sn_0, sn_1, sn_2, sn_3, sn_4, sn_5, sn_6, sn_7, sn_8, sn_9, sn_10, sn_11, sn_12, sn_13, sn_14, sn_15, sn_16, sn_17, sn_18, sn_19, px_bind, px_ok, px_exc, px_lift, px_ite, px_nil, px_stuck, fx_nx, fx_rt, post_exc, post_stuck, bind_exc, L2.atI, L2.ixN, z_eqi, h1]
        simp only [q_behind5, px_cons]
        simp [ex, xB_eq, ev, evs, evb, evt, evo, evi, evf, tst, K.val, Bz.isi, isOwn, post_bind, post_ok, post_lift, post_ite, post_noexc, post_nil, bind_ok, fk_nx, fk_rt, fr_nx, fr_rt, lift_some, sto, stoT, wipeS, z_add, z_adds, z_addt, z_addl, z_sub, z_mul, z_mult, z_mull, z_fdiv, z_mod, z_eq, z_ne, z_eqi, z_eqb, z_eqs, z_eqn, z_lt, z_le, z_gt, z_ge, z_is0, z_is1, z_is2, z_is3, z_is4, z_is5, z_in0, z_in1, z_in2, z_in3, z_in4, z_in5, z_inl, z_int, z_nil, z_nit, z_t0, z_t1, z_t2, z_t3, z_t4, z_t5, z_tr, z_isb, z_isb1, z_isb2, z_isb3, z_isb4, z_isb5, z_addb, z_subb, z_nsb, z_rvt, z_rvl, z_stp, z_srl, z_srt, z_sti, z_stb, z_shl, z_ixt, z_ixl, z_ixr, z_slt, z_sll, z_lent, z_lenl, z_lenr, z_suml, z_sumt, z_maxl, z_maxt, z_minl, z_bi, z_bb, z_tul, z_tut, z_tur, z_lil, z_lit, z_all, z_max2, z_min2, z_kt, z_kl, z_cot, z_col, z_da, z_ds0, z_ds1, z_sql, z_sqt, z_isLr, z_fn, z_fb, z_fi, z_fs, sn_0, sn_1, sn_2, sn_3, sn_4, sn_5, sn_6, sn_7, sn_8, sn_9, sn_10, sn_11, sn_12, sn_13, sn_14, sn_15, sn_16, sn_17, sn_18, sn_19, px_bind, px_ok, px_exc, px_lift, px_ite, px_nil, px_stuck, fx_nx, fx_rt, post_exc, post_stuck, bind_exc]
    · cases e
  | pass =>
    simp only [moved] at e
    split at e
    · rename_i hne
      simp only [b_behind, px_cons]
      simp [ex, xB_eq, ev, evs, evb, evt, evo, evi, evf, tst, K.val, Bz.isi, isOwn, post_bind, post_ok, post_lift, post_ite, post_noexc, post_nil, bind_ok, fk_nx, fk_rt, fr_nx, fr_rt, lift_some, sto, stoT, wipeS, z_add, z_adds, z_addt, z_addl, z_sub, z_mul, z_mult, z_mull, z_fdiv, z_mod, z_eq, z_ne, z_eqi, z_eqb, z_eqs, z_eqn, z_lt, z_le, z_gt, z_ge, z_is0, z_is1, z_is2, z_is3, z_is4, z_is5, z_in0, z_in1, z_in2, z_in3, z_in4, z_in5, z_inl, z_int, z_nil, z_nit, z_t0, z_t1, z_t2, z_t3, z_t4, z_t5, z_tr, z_isb, z_isb1, z_isb2, z_isb3, z_isb4, z_isb5, z_addb, z_subb, z_nsb, z_rvt, z_rvl, z_stp, z_srl, z_srt, z_sti, z_stb, z_shl, z_ixt, z_ixl, z_ixr, z_slt, z_sll, z_lent, z_lenl, z_lenr, z_suml, z_sumt, z_maxl, z_maxt, z_minl, z_bi, z_bb, z_tul, z_tut, z_tur, z_lil, z_lit, z_all, z_max2, z_min2, z_kt, z_kl, z_cot, z_col, z_da, z_ds0, z_ds1, z_sql, z_sqt, z_isLr, z_fn, z_fb, z_fi, z_fs, sn_0, sn_1, sn_2, sn_3, sn_4, sn_5, sn_6, sn_7, sn_8, sn_9, sn_10, sn_11, sn_12, sn_13, sn_14, sn_15, sn_16, sn_17, sn_18, sn_19, px_bind, px_ok, px_exc, px_lift, px_ite, px_nil, px_stuck, fx_nx, fx_rt, post_exc, post_stuck, bind_exc, hpe, Dd.e]
      simp only [q_behind11, px_cons]
      simp [ex, xB_eq, ev, evs, evb, evt, evo, evi, evf, tst, K.val, Bz.isi, isOwn, post_bind, post_ok, post_lift, post_ite, post_noexc, post_nil, bind_ok, fk_nx, fk_rt, fr_nx, fr_rt, lift_some, sto, stoT, wipeS, z_add, z_adds, z_addt, z_addl, z_sub, z_mul, z_mult, z_mull, z_fdiv, z_mod, z_eq, z_ne, z_eqi, z_eqb, z_eqs, z_eqn, z_lt, z_le, z_gt, z_ge, z_is0, z_is1, z_is2, z_is3, z_is4, z_is5, z_in0, z_in1, z_in2, z_in3, z_in4, z_in5, z_inl, z_int, z_nil, z_nit, z_t0, z_t1, z_t2, z_t3, z_t4, z_t5, z_tr, z_isb, z_isb1, z_isb2, z_isb3, z_isb4, z_isb5, z_addb, z_subb, z_nsb, z_rvt, z_rvl, z_stp, z_srl, z_srt, z_sti, z_stb, z_shl, z_ixt, z_ixl, z_ixr, z_slt, z_sll, z_lent, z_lenl, z_lenr, z_suml, z_sumt, z_maxl, z_maxt, z_minl, z_bi, z_bb, z_tul, z_tut, z_tur, z_lil, z_lit, z_all, z_max2, z_min2, z_kt, z_kl, z_cot, z_col, z_da, z_ds0, z_ds1, z_sql, z_sqt, z_isLr, z_fn, z_fb, z_fi, z_fs, sn_0, sn_1, sn_2, sn_3, sn_4, sn_5, sn_6, sn_7, sn_8, sn_9, sn_10, sn_11, sn_12, sn_13, sn_14, sn_15, sn_16, sn_17, sn_18, sn_19, px_bind, px_ok, px_exc, px_lift, px_ite, px_nil, px_stuck, fx_nx, fx_rt, post_exc, post_stuck, bind_exc, L2.atI, L2.ixN]
      simp only [q_behind10, px_cons]
      simp [ex, xB_eq, ev, evs, evb, evt, evo, evi, evf, tst, K.val, Bz.isi, isOwn, post_bind, post_ok, post_lift, post_ite, post_noexc, post_nil, bind_ok, fk_nx, fk_rt, fr_nx, fr_rt, lift_some, sto, stoT, wipeS, z_add, z_adds, z_addt, z_addl, z_sub, z_mul, z_mult, z_mull, z_fdiv, z_mod, z_eq, z_ne, z_eqi, z_eqb, z_eqs, z_eqn, z_lt, z_le, z_gt, z_ge, z_is0, z_is1, z_is2, z_is3, z_is4, z_is5, z_in0, z_in1, z_in2, z_in3, z_in4, z_in5, z_inl, z_int, z_nil, z_nit, z_t0, z_t1, z_t2, z_t3, z_t4, z_t5, z_tr, z_isb, z_isb1, z_isb2, z_isb3, z_isb4, z_isb5, z_addb, z_subb, z_nsb, z_rvt, z_rvl, z_stp, z_srl, z_srt, z_sti, z_stb, z_shl, z_ixt, z_ixl, z_ixr, z_slt, z_sll, z_lent, z_lenl, z_lenr, z_suml, z_sumt, z_maxl, z_maxt, z_minl, z_bi, z_bb, z_tul, z_tut, z_tur, z_lil, z_lit, z_all, z_max2, z_min2, z_kt, z_kl, z_cot, z_col, z_da, z_ds0, z_ds1, z_sql, z_sqt, z_isLr, z_fn, z_fb, z_fi, z_fs, sn_0, sn_1, sn_2, sn_3, sn_4, sn_5, sn_6, sn_7, sn_8, sn_9, sn_10, sn_11, sn_12, sn_13, sn_14, sn_15, sn_16, sn_17, sn_18, sn_19, px_bind, px_ok, px_exc, px_lift, px_ite, px_nil, px_stuck, fx_nx, fx_rt, post_exc, post_stuck, bind_exc, L2.atI, L2.ixN]
      simp only [q_behind9, px_cons]
      simp [ex, xB_eq, ev, evs, evb, evt, evo, evi, evf, tst, K.val, Bz.isi, isOwn, post_bind, post_ok, post_lift, post_ite, post_noexc, post_nil, bind_ok, fk_nx, fk_rt, fr_nx, fr_rt, lift_some, sto, stoT, wipeS, z_add, z_adds, z_addt, z_addl, z_sub, z_mul, z_mult, z_mull, z_fdiv, z_mod, z_eq, z_ne, z_eqi, z_eqb, z_eqs, z_eqn, z_lt, z_le, z_gt, z_ge, z_is0, z_is1, z_is2, z_is3, z_is4, z_is5, z_in0, z_in1, z_in2, z_in3, z_in4, z_in5, z_inl, z_int, z_nil, z_nit, z_t0, z_t1, z_t2, z_t3, z_t4, z_t5, z_tr, z_isb, z_isb1, z_isb2, z_isb3, z_isb4, z_isb5, z_addb, z_subb, z_nsb, z_rvt, z_rvl, z_stp, z_srl, z_srt, z_sti, z_stb, z_shl, z_ixt, z_ixl, z_ixr, z_slt, z_sll, z_lent, z_lenl, z_lenr, z_suml, z_sumt, z_maxl, z_maxt, z_minl, z_bi, z_bb, z_tul, z_tut, z_tur, z_lil, z_lit, z_all, z_max2, z_min2, z_kt, z_kl, z_cot, z_col, z_da, z_ds0, z_ds1, z_sql, z_sqt, z_isLr, z_fn, z_fb, z_fi, z_fs, sn_0, sn_1, sn_2, sn_3, sn_4, sn_5, sn_6, sn_7, sn_8, sn_9, sn_10, sn_11, sn_12, sn_13, sn_14, sn_15, sn_16, sn_17, sn_18, sn_19, px_bind, px_ok, px_exc, px_lift, px_ite, px_nil, px_stuck, fx_nx, fx_rt, post_exc, post_stuck, bind_exc, L2.atI, L2.ixN, z_eqi, hne]
      simp only [q_behind5, px_cons]
      simp [ex, xB_eq, ev, evs, evb, evt, evo, evi, evf, tst, K.val, Bz.isi, isOwn, post_bind, post_ok, post_lift, post_ite, post_noexc, post_nil, bind_ok, fk_nx, fk_rt, fr_nx, fr_rt, lift_some, sto, stoT, wipeS, z_add, z_adds, z_addt, z_addl, z_sub, z_mul, z_mult, z_mull, z_fdiv, z_mod, z_eq, z_ne, z_eqi, z_eqb, z_eqs, z_eqn, z_lt, z_le, z_gt, z_ge, z_is0, z_is1, z_is2, z_is3, z_is4, z_is5, z_in0, z_in1, z_in2, z_in3, z_in4, z_in5, z_inl, z_int, z_nil, z_nit, z_t0, z_t1, z_t2, z_t3, z_t4, z_t5, z_tr, z_isb, z_isb1, z_isb2, z_isb3, z_isb4, z_isb5, z_addb, z_subb, z_nsb, z_rvt, z_rvl, z_stp, z_srl, z_srt, z_sti, z_stb, z_shl, z_ixt, z_ixl, z_ixr, z_slt, z_sll, z_lent, z_lenl, z_lenr, z_suml, z_sumt, z_maxl, z_maxt, z_minl, z_bi, z_bb, z_tul, z_tut, z_tur, z_lil, z_lit, z_all, z_max2, z_min2, z_kt, z_kl, z_cot, z_col, z_da, z_ds0, z_ds1, z_sql, z_sqt, z_isLr, z_fn, z_fb, z_fi, z_fs, sn_0, sn_1, sn_2, sn_3, sn_4, sn_5, sn_6, sn_7, sn_8, sn_9, sn_10, sn_11, sn_12, sn_13, sn_14, sn_15, sn_16, sn_17, sn_18, sn_19, px_bind, px_ok, px_exc, px_lift, px_ite, px_nil, px_stuck, fx_nx, fx_rt, post_exc, post_stuck, bind_exc]
    · cases e
  | stroke f ps off =>
    simp only [moved] at e
    split at e
    · cases e
    · rename_i hh
      have hh : here p f ps = false := by simpa using hh
      have hl : ps.length ≤ 1000 := by have := hd.len; omega
      have hc : cut [PyData.str "stroke", .int f, .tuple (ps.map .int), .bool off] (some 1) none = [.int f, .tuple (ps.map .int), .bool off] := rfl
      have h1 := fun st => there_ok (k := k + 3) (r := ru a b) (p := p) (f := f) (off := off) (st := st) hl
      rw [there_here hp hd, hh] at h1
      unfold stk at h1
      rw [hpe] at h1
      simp only [b_behind, px_cons]
      simp [ex, xB_eq, ev, evs, evb, evt, evo, evi, evf, tst, K.val, Bz.isi, isOwn, post_bind, post_ok, post_lift, post_ite, post_noexc, post_nil, bind_ok, fk_nx, fk_rt, fr_nx, fr_rt, lift_some, sto, stoT, wipeS, z_add, z_adds, z_addt, z_addl, z_sub, z_mul, z_mult, z_mull, z_fdiv, z_mod, z_eq, z_ne, z_eqi, z_eqb, z_eqs, z_eqn, z_lt, z_le, z_gt, z_ge, z_is0, z_is1, z_is2, z_is3, z_is4, z_is5, z_in0, z_in1, z_in2, z_in3, z_in4, z_in5, z_inl, z_int, z_nil, z_nit, z_t0, z_t1, z_t2, z_t3, z_t4, z_t5, z_tr, z_isb, z_isb1, z_isb2, z_isb3, z_isb4, z_isb5, z_addb, z_subb, z_nsb, z_rvt, z_rvl, z_stp, z_srl, z_srt, z_sti, z_stb, z_shl, z_ixt, z_ixl, z_ixr, z_slt, z_sll, z_lent, z_lenl, z_lenr, z_suml, z_sumt, z_maxl, z_maxt, z_minl, z_bi, z_bb, z_tul, z_tut, z_tur, z_lil, z_lit, z_all, z_max2, z_min2, z_kt, z_kl, z_cot, z_col, z_da, z_ds0, z_ds1, z_sql, z_sqt, z_isLr, z_fn, z_fb, z_fi, z_fs, sn_0, sn_1, sn_2, sn_3, sn_4, sn_5, sn_6, sn_7, sn_8, sn_9, sn_10, sn_11, sn_12, sn_13, sn_14, sn_15, sn_16, sn_17, sn_18, sn_19, px_bind, px_ok, px_exc, px_lift, px_ite, px_nil, px_stuck, fx_nx, fx_rt, post_exc, post_stuck, bind_exc, hpe, Dd.e]
      simp only [q_behind11, px_cons]
      simp [ex, xB_eq, ev, evs, evb, evt, evo, evi, evf, tst, K.val, Bz.isi, isOwn, post_bind, post_ok, post_lift, post_ite, post_noexc, post_nil, bind_ok, fk_nx, fk_rt, fr_nx, fr_rt, lift_some, sto, stoT, wipeS, z_add, z_adds, z_addt, z_addl, z_sub, z_mul, z_mult, z_mull, z_fdiv, z_mod, z_eq, z_ne, z_eqi, z_eqb, z_eqs, z_eqn, z_lt, z_le, z_gt, z_ge, z_is0, z_is1, z_is2, z_is3, z_is4, z_is5, z_in0, z_in1, z_in2, z_in3, z_in4, z_in5, z_inl, z_int, z_nil, z_nit, z_t0, z_t1, z_t2, z_t3, z_t4, z_t5, z_tr, z_isb, z_isb1, z_isb2, z_isb3, z_isb4, z_isb5, z_addb, z_subb, z_nsb, z_rvt, z_rvl, z_stp, z_srl, z_srt, z_sti, z_stb, z_shl, z_ixt, z_ixl, z_ixr, z_slt, z_sll, z_lent, z_lenl, z_lenr, z_suml, z_sumt, z_maxl, z_maxt, z_minl, z_bi, z_bb, z_tul, z_tut, z_tur, z_lil, z_lit, z_all, z_max2, z_min2, z_kt, z_kl, z_cot, z_col, z_da, z_ds0, z_ds1, z_sql, z_sqt, z_isLr, z_fn, z_fb, z_fi, z_fs, sn_0, sn_1, sn_2, sn_3, sn_4, sn_5, sn_6, sn_7, sn_8, sn_9, sn_10, sn_11, sn_12, sn_13, sn_14, sn_15, sn_16, sn_17, sn_18, sn_19, px_bind, px_ok, px_exc, px_lift, px_ite, px_nil, px_stuck, fx_nx, fx_rt, post_exc, post_stuck, bind_exc, L2.atI, L2.ixN]
      simp only [q_behind10, px_cons]
      simp [ex, xB_eq, ev, evs, evb, evt, evo, evi, evf, tst, K.val, Bz.isi, isOwn, post_bind, post_ok, post_lift, post_ite, post_noexc, post_nil, bind_ok, fk_nx, fk_rt, fr_nx, fr_rt, lift_some, sto, stoT, wipeS, z_add, z_adds, z_addt, z_addl, z_sub, z_mul, z_mult, z_mull, z_fdiv, z_mod, z_eq, z_ne, z_eqi, z_eqb, z_eqs, z_eqn, z_lt, z_le, z_gt, z_ge, z_is0, z_is1, z_is2, z_is3, z_is4, z_is5, z_in0, z_in1, z_in2, z_in3, z_in4, z_in5, z_inl, z_int, z_nil, z_nit, z_t0, z_t1, z_t2, z_t3, z_t4, z_t5, z_tr, z_isb, z_isb1, z_isb2, z_isb3, z_isb4, z_isb5, z_addb, z_subb, z_nsb, z_rvt, z_rvl, z_stp, z_srl, z_srt, z_sti, z_stb, z_shl, z_ixt, z_ixl, z_ixr, z_slt, z_sll, z_lent, z_lenl, z_lenr, z_suml, z_sumt, z_maxl, z_maxt, z_minl, z_bi, z_bb, z_tul, z_tut, z_tur, z_lil, z_lit, z_all, z_max2, z_min2, z_kt, z_kl, z_cot, z_col, z_da, z_ds0, z_ds1, z_sql, z_sqt, z_isLr, z_fn, z_fb, z_fi, z_fs, sn_0, sn_1, sn_2, sn_3, sn_4, sn_5, sn_6, sn_7, sn_8, sn_9, sn_10, sn_11, sn_12, sn_13, sn_14, sn_15, sn_16, sn_17, sn_18, sn_19, px_bind, px_ok, px_exc, px_lift, px_ite, px_nil, px_stuck, fx_nx, fx_rt, post_exc, post_stuck, bind_exc, L2.atI, L2.ixN]
      simp only [q_behind4, px_cons]
      simp [ex, xB_eq, ev, evs, evb, evt, evo, evi, evf, tst, K.val, Bz.isi, isOwn, post_bind, post_ok, post_lift, post_ite, post_noexc, post_nil, bind_ok, fk_nx, fk_rt, fr_nx, fr_rt, lift_some, sto, stoT, wipeS, z_add, z_adds, z_addt, z_addl, z_sub, z_mul, z_mult, z_mull, z_fdiv, z_mod, z_eq, z_ne, z_eqi, z_eqb, z_eqs, z_eqn, z_lt, z_le, z_gt, z_ge, z_is0, z_is1, z_is2, z_is3, z_is4, z_is5, z_in0, z_in1, z_in2, z_in3, z_in4, z_in5, z_inl, z_int, z_nil, z_nit, z_t0, z_t1, z_t2, z_t3, z_t4, z_t5, z_tr, z_isb, z_isb1, z_isb2, z_isb3, z_isb4, z_isb5, z_addb, z_subb, z_nsb, z_rvt, z_rvl, z_stp, z_srl, z_srt, z_sti, z_stb, z_shl, z_ixt, z_ixl, z_ixr, z_slt, z_sll, z_lent, z_lenl, z_lenr, z_suml, z_sumt, z_maxl, z_maxt, z_minl, z_bi, z_bb, z_tul, z_tut, z_tur, z_lil, z_lit, z_all, z_max2, z_min2, z_kt, z_kl, z_cot, z_col, z_da, z_ds0, z_ds1, z_sql, z_sqt, z_isLr, z_fn, z_fb, z_fi, z_fs, sn_0, sn_1, sn_2, sn_3, sn_4, sn_5, sn_6, sn_7, sn_8, sn_9, sn_10, sn_11, sn_12, sn_13, sn_14, sn_15, sn_16, sn_17, sn_18, sn_19, px_bind, px_ok, px_exc, px_lift, px_ite, px_nil, px_stuck, fx_nx, fx_rt, post_exc, post_stuck, bind_exc, hc, h1]
      simp only [q_behind2, px_cons]
      simp [ex, xB_eq, ev, evs, evb, evt, evo, evi, evf, tst, K.val, Bz.isi, isOwn, post_bind, post_ok, post_lift, post_ite, post_noexc, post_nil, bind_ok, fk_nx, fk_rt, fr_nx, fr_rt, lift_some, sto, stoT, wipeS, z_add, z_adds, z_addt, z_addl, z_sub, z_mul, z_mult, z_mull, z_fdiv, z_mod, z_eq, z_ne, z_eqi, z_eqb, z_eqs, z_eqn, z_lt, z_le, z_gt, z_ge, z_is0, z_is1, z_is2, z_is3, z_is4, z_is5, z_in0, z_in1, z_in2, z_in3, z_in4, z_in5, z_inl, z_int, z_nil, z_nit, z_t0, z_t1, z_t2, z_t3, z_t4, z_t5, z_tr, z_isb, z_isb1, z_isb2, z_isb3, z_isb4, z_isb5, z_addb, z_subb, z_nsb, z_rvt, z_rvl, z_stp, z_srl, z_srt, z_sti, z_stb, z_shl, z_ixt, z_ixl, z_ixr, z_slt, z_sll, z_lent, z_lenl, z_lenr, z_suml, z_sumt, z_maxl, z_maxt, z_minl, z_bi, z_bb, z_tul, z_tut, z_tur, z_lil, z_lit, z_all, z_max2, z_min2, z_kt, z_kl, z_cot, z_col, z_da, z_ds0, z_ds1, z_sql, z_sqt, z_isLr, z_fn, z_fb, z_fi, z_fs, sn_0, sn_1, sn_2, sn_3, sn_4, sn_5, sn_6, sn_7, sn_8, sn_9, sn_10, sn_11, sn_12, sn_13, sn_14, sn_15, sn_16, sn_17, sn_18, sn_19, px_bind, px_ok, px_exc, px_lift, px_ite, px_nil, px_stuck, fx_nx, fx_rt, post_exc, post_stuck, bind_exc]
theorem okDd {k : Nat} {a b : Int} {d : Dd} (h : DdOk a b d) : okD (k + 2) d.e = true := by
  cases d with
  | give => simp [Dd.e, okD, szl]
  | free => simp [Dd.e, okD, szl]
  | pass => simp [Dd.e, okD, szl]
  | stroke f ps off =>
    have hl := h.len
    have := okD_ints (k := k) (l := ps) (by omega)
    show (decide ([PyData.str "stroke", .int f, .tuple (ps.map .int), .bool off].length ≤ szl) && [PyData.str "stroke", .int f, .tuple (ps.map .int), .bool off].all (okD (k + 1))) = true
    simp only [List.all_cons, List.all_nil, this, Bool.and_true, Bool.and_eq_true]
    exact ⟨by simp [szl], by cases k <;> rfl, by cases k <;> rfl, trivial, by cases k <;> rfl⟩
theorem okFr {k : Nat} {a b player : Int} {ds : List Dd} (h : ∀ d ∈ ds, DdOk a b d) (hl : ds.length ≤ 100000) : okD (k + 4) (frE player ds) = true := by
  simp only [frE, okD, List.all_cons, List.all_nil, Bool.and_true, Bool.and_eq_true, decide_eq_true_eq, List.length_map, List.all_eq_true]
  refine ⟨by simp [szl], trivial, by unfold szl; omega, fun x hx => ?_⟩
  obtain ⟨d, hd, rfl⟩ := List.mem_map.mp hx
  exact okDd (h d hd)
section
variable {st : Stt} {p : Pl} {player : Int} {ds : List Dd} {d : Dd}
theorem pl_tru : tru st (.d p.e) = some true := rfl
theorem fr_i0 : item st (.d (frE player ds)) (.d (.int 0)) = some (.d (.int player)) := rfl
theorem fr_i1 : item st (.d (frE player ds)) (.d (.int 1)) = some (.d (.tuple (ds.map Dd.e))) := rfl
theorem fr_mk : PyData.tuple [.int player, .tuple (ds.map Dd.e ++ [d.e])] = frE player (ds ++ [d]) := by unfold frE; rw [List.map_append]; rfl
end
theorem exTr_ok {a : Fl} {s : Stt} {kn : List (Nat × Str)} {hs : List Hdl} {env : List Sl} : exTr (.ok a s) kn hs env = .ok a s := rfl
theorem exTr_exc {c : Str} {s : Stt} {kn : List (Nat × Str)} {hs : List Hdl} {env : List Sl} : exTr (.exc c s) kn hs env = if (kn.any fun q => q.2 == c) = true then exHs c env s hs else .stuck := rfl
theorem exHs_nil {c : Str} {s : Stt} {env : List Sl} : exHs c env s [] = .exc c s := rfl
theorem exHs_cons {c : Str} {s : Stt} {env : List Sl} {h : Hdl} {hs : List Hdl} : exHs c env s (h :: hs) = if xsub c h.x = true then exSu h.s env s else exHs c env s hs := rfl
theorem FrOk.snoc {a b player : Int} {ds : List Dd} {fo f2 : Fo} {p : Pl} {d : Dd} (hf : FrOk a b player ds fo) (hp : fo.pl = some p) (hd : DdOk a b d) (e : moved b p d = some f2) : FrOk a b player (ds ++ [d]) f2 := by
  refine ⟨hf.pl, ?_, fun x hx => ?_⟩
  · rw [led_snoc, hf.led]
    show step b fo d = some f2
    unfold step
    rw [hp]; exact e
  · rcases List.mem_append.mp hx with q | q
    · exact hf.ok x q
    · rw [List.mem_singleton.mp q]; exact hd
theorem dd_i0s {st : Stt} {f : Int} {ps : List Int} {off : Bool} : item st (.d (Dd.e (.stroke f ps off))) (.d (.int 0)) = some (.d (.str "stroke")) := rfl
theorem dd_i0g {st : Stt} : item st (.d (Dd.e .give)) (.d (.int 0)) = some (.d (.str "give")) := rfl
theorem dd_i0f {st : Stt} : item st (.d (Dd.e .free)) (.d (.int 0)) = some (.d (.str "free")) := rfl
theorem dd_i0p {st : Stt} : item st (.d (Dd.e .pass)) (.d (.int 0)) = some (.d (.str "pass")) := rfl
theorem dd_s1 {f : Int} {ps : List Int} {off : Bool} : slice (.d (Dd.e (.stroke f ps off))) (some 1) none = some (.d (stk f ps off)) := rfl
theorem dd_i2 {st : Stt} {f : Int} {ps : List Int} {off : Bool} : item st (.d (Dd.e (.stroke f ps off))) (.d (.int 2)) = some (.d (.tuple (ps.map .int))) := rfl
/-! ### frames that are not over; fouls, misses -/
theorem cut_last {ds : List Dd} : cut (ds.map Dd.e) none (some (-1)) = (ds.take (ds.length - 1)).map Dd.e := by
  unfold cut
  simp only [HT.sIx]
  rw [if_pos (by omega), List.length_map, List.drop_zero, List.map_take]
  congr 1
  omega
theorem frame_back {a b player : Int} {ds : List Dd} {fo : Fo} (hf : FrOk a b player ds fo) (hn : fo.pl = none) : 0 < ds.length ∧ ∃ f1 p, FrOk a b player (ds.take (ds.length - 1)) f1 ∧ f1.pl = some p := by
  have hne : 0 < ds.length := by
    cases ds with
    | nil => have := hf.led; cases this; cases hn
    | cons d r => simp
  obtain ⟨f1, p, f2, q1, q2, q3, q4⟩ := led_next (i := ds.length - 1) hf.led (List.getElem?_eq_getElem (by omega))
  exact ⟨hne, f1, p, ⟨hf.pl, q1, fun d hd => hf.ok d (List.mem_of_mem_take hd)⟩, q2⟩
theorem FrOk.place {a b player : Int} {ds : List Dd} {fo : Fo} {p : Pl} (hf : FrOk a b player ds fo) (ha : 1 ≤ a) (hb : 1 ≤ b) (hp : fo.pl = some p) : PlOk a b p := led_ok ha hb hf.pl hf.led p hp
/-- colours are gone only behind the last red -/
def Lo (p : Pl) : Prop := (0 < p.reds ∨ p.on = 0) → p.low = 2
theorem lo_moved {a b : Int} {p : Pl} {d : Dd} {fo : Fo} (hp : PlOk a b p) (hl : Lo p) (hd : DdOk a b d) (e : moved b p d = some fo) : ∀ q, fo.pl = some q → Lo q := by
  intro q hq
  have hreds := hp.reds
  have hlow := hp.low
  have hon := hp.on
  cases d with
  | give => simp only [moved, Option.some.injEq] at e; subst e; cases hq
  | free =>
    simp only [moved] at e
    split at e
    · cases e
    · cases e; cases hq; exact hl
  | pass =>
    simp only [moved] at e
    split at e
    · cases e
    · cases e; cases hq; exact hl
  | stroke f ps off =>
    simp only [moved] at e
    split at e
    · have hc0 : 0 ≤ (ps.count 1 : Int) := Int.natCast_nonneg _
      cases e
      unfold strk at hq
      split at hq
      · split at hq
        · cases hq
          intro h
          simp only at h
          omega
        · cases hq
      · simp only at hq
        split at hq
        · cases hq
          intro h
          simp only at h ⊢
          by_cases h1 : p.on = 1
          · have h2 : ¬ (0 < (jd p f ps off).1 ∧ p.on = p.low ∧ p.on ∈ ps) := by rintro ⟨_, h3, _⟩; omega
            rw [if_neg h2]
            have := hl (.inl (by omega)); omega
          · by_cases h2 : 0 < (jd p f ps off).1 ∧ p.on = p.low ∧ p.on ∈ ps
            · rw [if_pos h2] at h
              simp only [h1, ne_eq, not_false_eq_true, if_true, Int.mul_one] at h
              split at h <;> omega
            · rw [if_neg h2] at h ⊢
              simp only [h1, ne_eq, not_false_eq_true, if_true, Int.mul_one, Int.add_zero] at h ⊢
              refine hl ?_
              split at h <;> omega
        · rename_i hg
          cases hq
          intro h
          simp only at h ⊢
          have h2 : ¬ (0 < (jd p f ps off).1 ∧ p.on = p.low ∧ p.on ∈ ps) := fun q => hg q.1
          rw [if_neg h2] at h ⊢
          simp only [Int.add_zero] at h ⊢
          refine hl ?_
          split at h <;> omega
    · cases e
theorem led_lo {a b player : Int} {ds : List Dd} {fo : Fo} (ha : 1 ≤ a) (hb : 1 ≤ b) (hf : FrOk a b player ds fo) : ∀ p, fo.pl = some p → Lo p := by
  have key : ∀ i, i ≤ ds.length → ∀ f1, led a b player (ds.take i) = some f1 → ∀ p, f1.pl = some p → Lo p := by
    intro i
    induction i with
    | zero =>
      intro _ f1 h p hp
      rw [List.take_zero] at h
      cases h; cases hp
      intro _; rfl
    | succ i ih =>
      intro hi f1 h p hp
      obtain ⟨g1, q, f2, q1, q2, q3, q4⟩ := led_next (i := i) hf.led (List.getElem?_eq_getElem (by omega))
      rw [h] at q4
      cases q4
      exact lo_moved (led_ok ha hb hf.pl q1 q q2) (ih (by omega) g1 q1 q q2) (hf.ok _ (List.getElem_mem (by omega))) q3 p hp
  exact key ds.length (Nat.le_refl _) fo (by rw [List.take_length]; exact hf.led)
def fc (p : Pl) : Int := cost p 0 []
theorem fc_eq {p : Pl} (h : 0 ≤ p.on) : fc p = if p.on > 4 then p.on else 4 := by
  unfold fc cost
  simp only [List.append_nil, bestGt]
  split <;> split <;> omega
def foulP (p : Pl) : Pl := ⟨1 - p.up, if 0 < p.reds then 1 else p.low, p.reds, p.low, p.p0 + sel p.up 0 (fc p), p.p1 + sel p.up (fc p) 0, 1⟩
def outF (p : Pl) : Fo := ⟨some p, none, p.p0, p.p1⟩
theorem here0 {a b : Int} {p : Pl} (hp : PlOk a b p) : here p 0 [] = true := by
  have := hp.reds
  unfold here
  rw [if_neg (by simp only [List.count_nil]; omega)]
  rfl
theorem fair0 {p : Pl} {off : Bool} (h : 0 ≤ p.on) : fair p 0 [] off = false := by
  unfold fair canF
  by_cases h0 : p.on = 0
  · simp [h0]
  · have h1 : ¬ (p.free = 2 ∧ p.on < 0) := by omega
    have h2 : ¬ (0 = p.on) := fun q => h0 q.symm
    simp [h0, h1, h2]
theorem foul0 {a b : Int} {p : Pl} (hp : PlOk a b p) (ht : p.on ≠ b + 1) : moved b p (.stroke 0 [] false) = some (outF (foulP p)) := by
  have hon := hp.on
  have hlow := hp.low
  simp only [moved, here0 hp, if_true, Option.some.injEq]
  have hj : jd p 0 [] false = (0, fc p) := by
    unfold jd
    rw [fair0 (by omega)]
    rfl
  rw [hj]
  have hc : 4 ≤ fc p := cost_pos
  unfold strk outF foulP
  rw [if_neg (fun q => ht q.1)]
  simp only [List.count_nil, List.not_mem_nil, and_false, if_false, Int.add_zero, Int.natCast_zero, Int.sub_zero, Int.lt_irrefl, show 0 < fc p by omega, if_true]
theorem miss0 {a b : Int} {p : Pl} (hp : PlOk a b p) (ho : 0 < p.on) : moved b p (.stroke p.on [] false) = some (outF { p with up := 1 - p.up, free := 0 }) := by
  have hon := hp.on
  have hlow := hp.low
  have hreds := hp.reds
  have hh : here p p.on [] = true := by
    unfold here
    rw [if_neg (by simp only [List.count_nil]; omega)]
    rfl
  simp only [moved, hh, if_true, Option.some.injEq]
  have hf : fair p p.on [] false = true := by
    unfold fair canF
    have h0 : ¬ p.on = 0 := by omega
    simp [h0]
  have hj : jd p p.on [] false = (0, 0) := by
    unfold jd
    rw [if_pos hf]
    simp
  rw [hj]
  unfold strk outF
  rw [if_neg (by simp)]
  have e1 : (if 0 < p.reds then 1 else p.low) = p.on := by split <;> omega
  have e2 : sel p.up 0 0 = 0 := by unfold sel; split <;> rfl
  simp only [List.count_nil, List.not_mem_nil, and_false, if_false, Int.add_zero, Int.natCast_zero, Int.sub_zero, Int.lt_irrefl, e1, e2]
theorem pass0 {b : Int} {p : Pl} (h : p.free = 1) : moved b p .pass = some (outF { p with up := 1 - p.up, free := 0 }) := by
  simp only [moved, h, ne_eq, not_true, if_false]; rfl
theorem free0 {b : Int} {p : Pl} (h : p.free = 1) (ht : p.on ≠ b + 1) : moved b p .free = some (outF { p with free := 2 }) := by
  simp only [moved, h, ne_eq, not_true, false_or, ht, if_false]; rfl
theorem pass_no {b : Int} {p : Pl} (h : p.free ≠ 1) : moved b p .pass = none := by simp only [moved, if_pos h]
theorem free_no {b : Int} {p : Pl} (h : p.free ≠ 1) : moved b p .free = none := by simp only [moved, if_pos (Or.inl h : p.free ≠ 1 ∨ p.on = b + 1)]
theorem ok_foul0 {a b : Int} (ha : 0 ≤ a) (hb : 0 ≤ b) : DdOk a b (.stroke 0 [] false) := st_nil ha (by omega)
theorem ok_miss {a b f : Int} (ha : 0 ≤ a) (hf : 0 ≤ f ∧ f ≤ b + 1) : DdOk a b (.stroke f [] false) := st_nil ha hf
theorem ok_one {a b f : Int} {off : Bool} (ha : 1 ≤ a) (hf : 1 ≤ f ∧ f ≤ b + 1) : DdOk a b (.stroke f [f] off) := (pt_one ha hf).st (by omega)
/-- a free ball that falls alone -/
def freeP (t : Pl) : Pl := ⟨t.up, if t.on = 1 then 0 else t.on, t.reds, t.low, t.p0 + sel t.up t.on 0, t.p1 + sel t.up 0 t.on, 0⟩
theorem free_fair {a b : Int} {t : Pl} {x : Int} (h2 : t.free = 2) (ho : 0 < t.on) (hx : t.on < x) : fair t x [x] false = true ∧ jd t x [x] false = (t.on, 0) := by
  have hf : fair t x [x] false = true := by
    unfold fair canF
    have h0 : ¬ t.on = 0 := by omega
    simp [h0, h2, hx]
  refine ⟨hf, ?_⟩
  unfold jd
  rw [if_pos hf]
  by_cases h1 : t.on = 1
  · simp [h1]
  · have h0 : t.on ≠ 0 := by omega
    simp [h1, h0]
theorem free_moved {a b : Int} {t : Pl} {x : Int} (hp : PlOk a b t) (h2 : t.free = 2) (ho : 0 < t.on) (ht : t.on ≠ b + 1) (hx : t.on < x) (hl : t.low ≤ x) (hb : x ≤ b + 1) : moved b t (.stroke x [x] false) = some (outF (freeP t)) := by
  have hon := hp.on
  have hlow := hp.low
  have hreds := hp.reds
  have hc : ([x] : List Int).count 1 = 0 := by rw [List.count_eq_zero]; simp; omega
  have hh : here t x [x] = true := by
    unfold here
    rw [if_neg (by rw [hc]; omega)]
    have : ¬ (1 < x ∧ x < t.low) := by omega
    simp [this]
  simp only [moved, hh, if_true, Option.some.injEq, (free_fair (a := a) (b := b) h2 ho hx).2]
  unfold strk outF freeP
  rw [if_neg (fun q => ht q.1), hc]
  have hm : ¬ t.on ∈ [x] := by simp; omega
  simp only [hm, and_false, if_false, Int.add_zero, Int.natCast_zero, Int.sub_zero, ho, if_true]
  by_cases h1 : t.on = 1
  · simp [h1]
  · have e1 : (if 0 < t.reds then 1 else t.low) = t.on := by split <;> omega
    simp [h1, e1]
theorem ffault_ok {k : Nat} {a b player : Int} {ds : List Dd} {fo : Fo} {st : Stt} (ha : 1 ≤ a ∧ a ≤ 1000) (hb : 1 ≤ b) (hf : FrOk a b player ds fo) : rn Gm (k + 6) 63 [ru a b, .d (frE player ds)] st = .ok (.d .none) st := by
  refine Post.eqQ fun P hP => ?_
  rw [run_at (d := ⟨5, 2, b_frame_fault⟩) rfl]
  rw [post_runB]
  refine ⟨rfl, ?_⟩
  unfold frE
  simp only [b_frame_fault, post_cons]
  simp [ex, xB_eq, ev, evs, evb, evt, evo, evi, evf, tst, K.val, Bz.isi, isOwn, post_bind, post_ok, post_lift, post_ite, post_noexc, post_nil, bind_ok, fk_nx, fk_rt, fr_nx, fr_rt, lift_some, sto, stoT, wipeS, z_add, z_adds, z_addt, z_addl, z_sub, z_mul, z_mult, z_mull, z_fdiv, z_mod, z_eq, z_ne, z_eqi, z_eqb, z_eqs, z_eqn, z_lt, z_le, z_gt, z_ge, z_is0, z_is1, z_is2, z_is3, z_is4, z_is5, z_in0, z_in1, z_in2, z_in3, z_in4, z_in5, z_inl, z_int, z_nil, z_nit, z_t0, z_t1, z_t2, z_t3, z_t4, z_t5, z_tr, z_isb, z_isb1, z_isb2, z_isb3, z_isb4, z_isb5, z_addb, z_subb, z_nsb, z_rvt, z_rvl, z_stp, z_srl, z_srt, z_sti, z_stb, z_shl, z_ixt, z_ixl, z_ixr, z_slt, z_sll, z_lent, z_lenl, z_lenr, z_suml, z_sumt, z_maxl, z_maxt, z_minl, z_bi, z_bb, z_tul, z_tut, z_tur, z_lil, z_lit, z_all, z_max2, z_min2, z_kt, z_kl, z_cot, z_col, z_da, z_ds0, z_ds1, z_sql, z_sqt, z_isLr, z_fn, z_fb, z_fi, z_fs, sn_0, sn_1, sn_2, sn_3, sn_4, sn_5, sn_6, sn_7, sn_8, sn_9, sn_10, sn_11, sn_12, sn_13, sn_14, sn_15, sn_16, sn_17, sn_18, sn_19, L2.atI, L2.ixN, firstp_ok]
  simp only [q_frame_fault7, post_cons]
  simp [ex, xB_eq, ev, evs, evb, evt, evo, evi, evf, tst, K.val, Bz.isi, isOwn, post_bind, post_ok, post_lift, post_ite, post_noexc, post_nil, bind_ok, fk_nx, fk_rt, fr_nx, fr_rt, lift_some, sto, stoT, wipeS, z_add, z_adds, z_addt, z_addl, z_sub, z_mul, z_mult, z_mull, z_fdiv, z_mod, z_eq, z_ne, z_eqi, z_eqb, z_eqs, z_eqn, z_lt, z_le, z_gt, z_ge, z_is0, z_is1, z_is2, z_is3, z_is4, z_is5, z_in0, z_in1, z_in2, z_in3, z_in4, z_in5, z_inl, z_int, z_nil, z_nit, z_t0, z_t1, z_t2, z_t3, z_t4, z_t5, z_tr, z_isb, z_isb1, z_isb2, z_isb3, z_isb4, z_isb5, z_addb, z_subb, z_nsb, z_rvt, z_rvl, z_stp, z_srl, z_srt, z_sti, z_stb, z_shl, z_ixt, z_ixl, z_ixr, z_slt, z_sll, z_lent, z_lenl, z_lenr, z_suml, z_sumt, z_maxl, z_maxt, z_minl, z_bi, z_bb, z_tul, z_tut, z_tur, z_lil, z_lit, z_all, z_max2, z_min2, z_kt, z_kl, z_cot, z_col, z_da, z_ds0, z_ds1, z_sql, z_sqt, z_isLr, z_fn, z_fb, z_fi, z_fs, sn_0, sn_1, sn_2, sn_3, sn_4, sn_5, sn_6, sn_7, sn_8, sn_9, sn_10, sn_11, sn_12, sn_13, sn_14, sn_15, sn_16, sn_17, sn_18, sn_19, L2.atI, L2.ixN]
  refine for_post (fun i env s => s = st ∧ ∃ f1 s3 s4, led a b player (ds.take i) = some f1 ∧ env = [.v (ru a b), .v (.d (.tuple [.int player, .tuple (ds.map Dd.e)])), .v (.d f1.e), s3, s4]) _ 0 ⟨rfl, begin0 a player, _, _, by simp [led], rfl⟩ ?_ ?_
  · rintro i x env s hx ⟨rfl, f1, s3, s4, h1, rfl⟩
    rw [Nat.zero_add] at h1 ⊢
    obtain ⟨y, hy, rfl⟩ := enumD_get _ _ _ _ hx
    rw [List.getElem?_map, Option.map_eq_some_iff] at hy
    obtain ⟨d, hy, rfl⟩ := hy
    obtain ⟨g1, p, f2, q1, q2, q3, q4⟩ := led_next hf.led hy
    rw [h1] at q1
    cases q1
    have hd := hf.ok d (List.mem_of_getElem? hy)
    have hi := fun st => isdeed_ok (k := k + 2) (st := st) hd
    have hm := fun st => behind_ok (k := k) (st := st) (led_ok ha.1 hb hf.pl h1 p q2) hd hb q3
    refine ⟨_, rfl, ?_⟩
    simp only [q_frame_fault5, post_cons]
    simp [ex, xB_eq, ev, evs, evb, evt, evo, evi, evf, tst, K.val, Bz.isi, isOwn, post_bind, post_ok, post_lift, post_ite, post_noexc, post_nil, bind_ok, fk_nx, fk_rt, fr_nx, fr_rt, lift_some, sto, stoT, wipeS, z_add, z_adds, z_addt, z_addl, z_sub, z_mul, z_mult, z_mull, z_fdiv, z_mod, z_eq, z_ne, z_eqi, z_eqb, z_eqs, z_eqn, z_lt, z_le, z_gt, z_ge, z_is0, z_is1, z_is2, z_is3, z_is4, z_is5, z_in0, z_in1, z_in2, z_in3, z_in4, z_in5, z_inl, z_int, z_nil, z_nit, z_t0, z_t1, z_t2, z_t3, z_t4, z_t5, z_tr, z_isb, z_isb1, z_isb2, z_isb3, z_isb4, z_isb5, z_addb, z_subb, z_nsb, z_rvt, z_rvl, z_stp, z_srl, z_srt, z_sti, z_stb, z_shl, z_ixt, z_ixl, z_ixr, z_slt, z_sll, z_lent, z_lenl, z_lenr, z_suml, z_sumt, z_maxl, z_maxt, z_minl, z_bi, z_bb, z_tul, z_tut, z_tur, z_lil, z_lit, z_all, z_max2, z_min2, z_kt, z_kl, z_cot, z_col, z_da, z_ds0, z_ds1, z_sql, z_sqt, z_isLr, z_fn, z_fb, z_fi, z_fs, sn_0, sn_1, sn_2, sn_3, sn_4, sn_5, sn_6, sn_7, sn_8, sn_9, sn_10, sn_11, sn_12, sn_13, sn_14, sn_15, sn_16, sn_17, sn_18, sn_19, hi]
    simp only [q_frame_fault4, post_cons]
    simp [ex, xB_eq, ev, evs, evb, evt, evo, evi, evf, tst, K.val, Bz.isi, isOwn, post_bind, post_ok, post_lift, post_ite, post_noexc, post_nil, bind_ok, fk_nx, fk_rt, fr_nx, fr_rt, lift_some, sto, stoT, wipeS, z_add, z_adds, z_addt, z_addl, z_sub, z_mul, z_mult, z_mull, z_fdiv, z_mod, z_eq, z_ne, z_eqi, z_eqb, z_eqs, z_eqn, z_lt, z_le, z_gt, z_ge, z_is0, z_is1, z_is2, z_is3, z_is4, z_is5, z_in0, z_in1, z_in2, z_in3, z_in4, z_in5, z_inl, z_int, z_nil, z_nit, z_t0, z_t1, z_t2, z_t3, z_t4, z_t5, z_tr, z_isb, z_isb1, z_isb2, z_isb3, z_isb4, z_isb5, z_addb, z_subb, z_nsb, z_rvt, z_rvl, z_stp, z_srl, z_srt, z_sti, z_stb, z_shl, z_ixt, z_ixl, z_ixr, z_slt, z_sll, z_lent, z_lenl, z_lenr, z_suml, z_sumt, z_maxl, z_maxt, z_minl, z_bi, z_bb, z_tul, z_tut, z_tur, z_lil, z_lit, z_all, z_max2, z_min2, z_kt, z_kl, z_cot, z_col, z_da, z_ds0, z_ds1, z_sql, z_sqt, z_isLr, z_fn, z_fb, z_fi, z_fs, sn_0, sn_1, sn_2, sn_3, sn_4, sn_5, sn_6, sn_7, sn_8, sn_9, sn_10, sn_11, sn_12, sn_13, sn_14, sn_15, sn_16, sn_17, sn_18, sn_19, fo_i0, q2, oP_some, pl_is]
    simp only [q_frame_fault3, post_cons]
    simp [ex, xB_eq, ev, evs, evb, evt, evo, evi, evf, tst, K.val, Bz.isi, isOwn, post_bind, post_ok, post_lift, post_ite, post_noexc, post_nil, bind_ok, fk_nx, fk_rt, fr_nx, fr_rt, lift_some, sto, stoT, wipeS, z_add, z_adds, z_addt, z_addl, z_sub, z_mul, z_mult, z_mull, z_fdiv, z_mod, z_eq, z_ne, z_eqi, z_eqb, z_eqs, z_eqn, z_lt, z_le, z_gt, z_ge, z_is0, z_is1, z_is2, z_is3, z_is4, z_is5, z_in0, z_in1, z_in2, z_in3, z_in4, z_in5, z_inl, z_int, z_nil, z_nit, z_t0, z_t1, z_t2, z_t3, z_t4, z_t5, z_tr, z_isb, z_isb1, z_isb2, z_isb3, z_isb4, z_isb5, z_addb, z_subb, z_nsb, z_rvt, z_rvl, z_stp, z_srl, z_srt, z_sti, z_stb, z_shl, z_ixt, z_ixl, z_ixr, z_slt, z_sll, z_lent, z_lenl, z_lenr, z_suml, z_sumt, z_maxl, z_maxt, z_minl, z_bi, z_bb, z_tul, z_tut, z_tur, z_lil, z_lit, z_all, z_max2, z_min2, z_kt, z_kl, z_cot, z_col, z_da, z_ds0, z_ds1, z_sql, z_sqt, z_isLr, z_fn, z_fb, z_fi, z_fs, sn_0, sn_1, sn_2, sn_3, sn_4, sn_5, sn_6, sn_7, sn_8, sn_9, sn_10, sn_11, sn_12, sn_13, sn_14, sn_15, sn_16, sn_17, sn_18, sn_19, exTb, fo_i0, q2, oP_some, hm, exTr_ok]
    exact ⟨f2, q4, rfl⟩
  · rintro env s ⟨rfl, f1, s3, s4, h1, rfl⟩
    rw [fk_nx]
    simp only [q_frame_fault6, post_cons]
    simp [ex, xB_eq, ev, evs, evb, evt, evo, evi, evf, tst, K.val, Bz.isi, isOwn, post_bind, post_ok, post_lift, post_ite, post_noexc, post_nil, bind_ok, fk_nx, fk_rt, fr_nx, fr_rt, lift_some, sto, stoT, wipeS, z_add, z_adds, z_addt, z_addl, z_sub, z_mul, z_mult, z_mull, z_fdiv, z_mod, z_eq, z_ne, z_eqi, z_eqb, z_eqs, z_eqn, z_lt, z_le, z_gt, z_ge, z_is0, z_is1, z_is2, z_is3, z_is4, z_is5, z_in0, z_in1, z_in2, z_in3, z_in4, z_in5, z_inl, z_int, z_nil, z_nit, z_t0, z_t1, z_t2, z_t3, z_t4, z_t5, z_tr, z_isb, z_isb1, z_isb2, z_isb3, z_isb4, z_isb5, z_addb, z_subb, z_nsb, z_rvt, z_rvl, z_stp, z_srl, z_srt, z_sti, z_stb, z_shl, z_ixt, z_ixl, z_ixr, z_slt, z_sll, z_lent, z_lenl, z_lenr, z_suml, z_sumt, z_maxl, z_maxt, z_minl, z_bi, z_bb, z_tul, z_tut, z_tur, z_lil, z_lit, z_all, z_max2, z_min2, z_kt, z_kl, z_cot, z_col, z_da, z_ds0, z_ds1, z_sql, z_sqt, z_isLr, z_fn, z_fb, z_fi, z_fs, sn_0, sn_1, sn_2, sn_3, sn_4, sn_5, sn_6, sn_7, sn_8, sn_9, sn_10, sn_11, sn_12, sn_13, sn_14, sn_15, sn_16, sn_17, sn_18, sn_19]
    exact hP
theorem isframe_ok {k : Nat} {a b player : Int} {ds : List Dd} {fo : Fo} {st : Stt} (ha : 1 ≤ a ∧ a ≤ 1000) (hb : 1 ≤ b) (hf : FrOk a b player ds fo) : rn Gm (k + 7) 64 [ru a b, .d (frE player ds)] st = .ok (.d (.bool true)) st := by
  refine Post.eqQ fun P hP => ?_
  rw [run_at (d := ⟨2, 2, b_is_frame⟩) rfl]
  rw [post_runB]
  refine ⟨rfl, ?_⟩
  have h1 := fun st => ffault_ok (k := k) (st := st) ha hb hf
  unfold frE at h1 ⊢
  have hin : inD (.int player) [.int 0, .int 1] = true := by
    rcases hf.pl with rfl | rfl <;> rfl
  simp only [b_is_frame, post_cons]
  simp [ex, xB_eq, ev, evs, evb, evt, evo, evi, evf, tst, K.val, Bz.isi, isOwn, post_bind, post_ok, post_lift, post_ite, post_noexc, post_nil, bind_ok, fk_nx, fk_rt, fr_nx, fr_rt, lift_some, sto, stoT, wipeS, z_add, z_adds, z_addt, z_addl, z_sub, z_mul, z_mult, z_mull, z_fdiv, z_mod, z_eq, z_ne, z_eqi, z_eqb, z_eqs, z_eqn, z_lt, z_le, z_gt, z_ge, z_is0, z_is1, z_is2, z_is3, z_is4, z_is5, z_in0, z_in1, z_in2, z_in3, z_in4, z_in5, z_inl, z_int, z_nil, z_nit, z_t0, z_t1, z_t2, z_t3, z_t4, z_t5, z_tr, z_isb, z_isb1, z_isb2, z_isb3, z_isb4, z_isb5, z_addb, z_subb, z_nsb, z_rvt, z_rvl, z_stp, z_srl, z_srt, z_sti, z_stb, z_shl, z_ixt, z_ixl, z_ixr, z_slt, z_sll, z_lent, z_lenl, z_lenr, z_suml, z_sumt, z_maxl, z_maxt, z_minl, z_bi, z_bb, z_tul, z_tut, z_tur, z_lil, z_lit, z_all, z_max2, z_min2, z_kt, z_kl, z_cot, z_col, z_da, z_ds0, z_ds1, z_sql, z_sqt, z_isLr, z_fn, z_fb, z_fi, z_fs, sn_0, sn_1, sn_2, sn_3, sn_4, sn_5, sn_6, sn_7, sn_8, sn_9, sn_10, sn_11, sn_12, sn_13, sn_14, sn_15, sn_16, sn_17, sn_18, sn_19, L2.atI, L2.ixN, whole_ok, z_eqi, hin]
  simp only [q_is_frame2, post_cons]
  simp [ex, xB_eq, ev, evs, evb, evt, evo, evi, evf, tst, K.val, Bz.isi, isOwn, post_bind, post_ok, post_lift, post_ite, post_noexc, post_nil, bind_ok, fk_nx, fk_rt, fr_nx, fr_rt, lift_some, sto, stoT, wipeS, z_add, z_adds, z_addt, z_addl, z_sub, z_mul, z_mult, z_mull, z_fdiv, z_mod, z_eq, z_ne, z_eqi, z_eqb, z_eqs, z_eqn, z_lt, z_le, z_gt, z_ge, z_is0, z_is1, z_is2, z_is3, z_is4, z_is5, z_in0, z_in1, z_in2, z_in3, z_in4, z_in5, z_inl, z_int, z_nil, z_nit, z_t0, z_t1, z_t2, z_t3, z_t4, z_t5, z_tr, z_isb, z_isb1, z_isb2, z_isb3, z_isb4, z_isb5, z_addb, z_subb, z_nsb, z_rvt, z_rvl, z_stp, z_srl, z_srt, z_sti, z_stb, z_shl, z_ixt, z_ixl, z_ixr, z_slt, z_sll, z_lent, z_lenl, z_lenr, z_suml, z_sumt, z_maxl, z_maxt, z_minl, z_bi, z_bb, z_tul, z_tut, z_tur, z_lil, z_lit, z_all, z_max2, z_min2, z_kt, z_kl, z_cot, z_col, z_da, z_ds0, z_ds1, z_sql, z_sqt, z_isLr, z_fn, z_fb, z_fi, z_fs, sn_0, sn_1, sn_2, sn_3, sn_4, sn_5, sn_6, sn_7, sn_8, sn_9, sn_10, sn_11, sn_12, sn_13, sn_14, sn_15, sn_16, sn_17, sn_18, sn_19, L2.atI, L2.ixN, h1]
  exact hP
theorem colours_ok {k : Nat} {a b low : Int} {st : Stt} (hb : 0 ≤ b ∧ b ≤ 1000) (hl : 0 ≤ low ∧ low ≤ 1000) : rn Gm (k + 2) 2 [ru a b, .d (.int low)] st = .ok (.d (.tuple ((rgI low (b + 1 + 1)).map .int))) st := by
  refine Post.eqQ fun P hP => ?_
  rw [run_at (d := ⟨2, 2, b_colours_of⟩) rfl]
  rw [post_runB]
  refine ⟨rfl, ?_⟩
  have hr : rngOk low (b + 1 + 1) = true := by unfold rngOk; exact decide_eq_true (by omega)
  simp only [b_colours_of, post_cons]
  simp [ex, xB_eq, ev, evs, evb, evt, evo, evi, evf, tst, K.val, Bz.isi, isOwn, post_bind, post_ok, post_lift, post_ite, post_noexc, post_nil, bind_ok, fk_nx, fk_rt, fr_nx, fr_rt, lift_some, sto, stoT, wipeS, z_add, z_adds, z_addt, z_addl, z_sub, z_mul, z_mult, z_mull, z_fdiv, z_mod, z_eq, z_ne, z_eqi, z_eqb, z_eqs, z_eqn, z_lt, z_le, z_gt, z_ge, z_is0, z_is1, z_is2, z_is3, z_is4, z_is5, z_in0, z_in1, z_in2, z_in3, z_in4, z_in5, z_inl, z_int, z_nil, z_nit, z_t0, z_t1, z_t2, z_t3, z_t4, z_t5, z_tr, z_isb, z_isb1, z_isb2, z_isb3, z_isb4, z_isb5, z_addb, z_subb, z_nsb, z_rvt, z_rvl, z_stp, z_srl, z_srt, z_sti, z_stb, z_shl, z_ixt, z_ixl, z_ixr, z_slt, z_sll, z_lent, z_lenl, z_lenr, z_suml, z_sumt, z_maxl, z_maxt, z_minl, z_bi, z_bb, z_tul, z_tut, z_tur, z_lil, z_lit, z_all, z_max2, z_min2, z_kt, z_kl, z_cot, z_col, z_da, z_ds0, z_ds1, z_sql, z_sqt, z_isLr, z_fn, z_fb, z_fi, z_fs, sn_0, sn_1, sn_2, sn_3, sn_4, sn_5, sn_6, sn_7, sn_8, sn_9, sn_10, sn_11, sn_12, sn_13, sn_14, sn_15, sn_16, sn_17, sn_18, sn_19, top_ok, hr, rng2_rgI]
  exact hP
/-! ### what can still be made -/
def clS (a b : Int) : Int := (rgI a b).sum
def restV (a b reds low : Int) : Int := reds * (1 + (b + 1)) + clS low (b + 1 + 1)
theorem rest_ok {k : Nat} {a b reds low : Int} {st : Stt} (hb : 0 ≤ b ∧ b ≤ 1000) (hl : 0 ≤ low ∧ low ≤ 1000) (hr : 0 ≤ reds ∧ reds ≤ 1000) : rn Gm (k + 3) 46 [ru a b, .d (.int reds), .d (.int low)] st = .ok (.d (.int (restV a b reds low))) st := by
  refine Post.eqQ fun P hP => ?_
  rw [run_at (d := ⟨3, 3, b_rest_of⟩) rfl]
  rw [post_runB]
  refine ⟨rfl, ?_⟩
  have hm : mulOk reds (1 + (b + 1)) = true := mulOk_l (by omega) (by omega)
  simp only [b_rest_of, post_cons]
  simp [ex, xB_eq, ev, evs, evb, evt, evo, evi, evf, tst, K.val, Bz.isi, isOwn, post_bind, post_ok, post_lift, post_ite, post_noexc, post_nil, bind_ok, fk_nx, fk_rt, fr_nx, fr_rt, lift_some, sto, stoT, wipeS, z_add, z_adds, z_addt, z_addl, z_sub, z_mul, z_mult, z_mull, z_fdiv, z_mod, z_eq, z_ne, z_eqi, z_eqb, z_eqs, z_eqn, z_lt, z_le, z_gt, z_ge, z_is0, z_is1, z_is2, z_is3, z_is4, z_is5, z_in0, z_in1, z_in2, z_in3, z_in4, z_in5, z_inl, z_int, z_nil, z_nit, z_t0, z_t1, z_t2, z_t3, z_t4, z_t5, z_tr, z_isb, z_isb1, z_isb2, z_isb3, z_isb4, z_isb5, z_addb, z_subb, z_nsb, z_rvt, z_rvl, z_stp, z_srl, z_srt, z_sti, z_stb, z_shl, z_ixt, z_ixl, z_ixr, z_slt, z_sll, z_lent, z_lenl, z_lenr, z_suml, z_sumt, z_maxl, z_maxt, z_minl, z_bi, z_bb, z_tul, z_tut, z_tur, z_lil, z_lit, z_all, z_max2, z_min2, z_kt, z_kl, z_cot, z_col, z_da, z_ds0, z_ds1, z_sql, z_sqt, z_isLr, z_fn, z_fb, z_fi, z_fs, sn_0, sn_1, sn_2, sn_3, sn_4, sn_5, sn_6, sn_7, sn_8, sn_9, sn_10, sn_11, sn_12, sn_13, sn_14, sn_15, sn_16, sn_17, sn_18, sn_19, top_ok, colours_ok hb hl, ints_map, hm]
  exact hP
def stillV (a b : Int) (p : Pl) : Int := restV a b p.reds p.low + (if p.on = 0 then b + 1 else if p.free < 2 then 0 else if p.on = 1 then 1 + (b + 1) else p.on)
theorem still_ok {k : Nat} {a b : Int} {p : Pl} {st : Stt} (hb : 0 ≤ b ∧ b ≤ 1000) (hl : 0 ≤ p.low ∧ p.low ≤ 1000) (hr : 0 ≤ p.reds ∧ p.reds ≤ 1000) : rn Gm (k + 4) 47 [ru a b, .d p.e] st = .ok (.d (.int (stillV a b p))) st := by
  refine Post.eqQ fun P hP => ?_
  rw [run_at (d := ⟨9, 2, b_still⟩) rfl]
  rw [post_runB]
  refine ⟨rfl, ?_⟩
  have hpe : p.e = .tuple [.int p.up, .int p.on, .int p.reds, .int p.low, .tuple [.int p.p0, .int p.p1], .int p.free] := rfl
  unfold stillV at hP
  simp only [b_still, post_cons]
  simp [ex, xB_eq, ev, evs, evb, evt, evo, evi, evf, tst, K.val, Bz.isi, isOwn, post_bind, post_ok, post_lift, post_ite, post_noexc, post_nil, bind_ok, fk_nx, fk_rt, fr_nx, fr_rt, lift_some, sto, stoT, wipeS, z_add, z_adds, z_addt, z_addl, z_sub, z_mul, z_mult, z_mull, z_fdiv, z_mod, z_eq, z_ne, z_eqi, z_eqb, z_eqs, z_eqn, z_lt, z_le, z_gt, z_ge, z_is0, z_is1, z_is2, z_is3, z_is4, z_is5, z_in0, z_in1, z_in2, z_in3, z_in4, z_in5, z_inl, z_int, z_nil, z_nit, z_t0, z_t1, z_t2, z_t3, z_t4, z_t5, z_tr, z_isb, z_isb1, z_isb2, z_isb3, z_isb4, z_isb5, z_addb, z_subb, z_nsb, z_rvt, z_rvl, z_stp, z_srl, z_srt, z_sti, z_stb, z_shl, z_ixt, z_ixl, z_ixr, z_slt, z_sll, z_lent, z_lenl, z_lenr, z_suml, z_sumt, z_maxl, z_maxt, z_minl, z_bi, z_bb, z_tul, z_tut, z_tur, z_lil, z_lit, z_all, z_max2, z_min2, z_kt, z_kl, z_cot, z_col, z_da, z_ds0, z_ds1, z_sql, z_sqt, z_isLr, z_fn, z_fb, z_fi, z_fs, sn_0, sn_1, sn_2, sn_3, sn_4, sn_5, sn_6, sn_7, sn_8, sn_9, sn_10, sn_11, sn_12, sn_13, sn_14, sn_15, sn_16, sn_17, sn_18, sn_19, hpe]
  simp only [q_still6, post_cons]
  simp [ex, xB_eq, ev, evs, evb, evt, evo, evi, evf, tst, K.val, Bz.isi, isOwn, post_bind, post_ok, post_lift, post_ite, post_noexc, post_nil, bind_ok, fk_nx, fk_rt, fr_nx, fr_rt, lift_some, sto, stoT, wipeS, z_add, z_adds, z_addt, z_addl, z_sub, z_mul, z_mult, z_mull, z_fdiv, z_mod, z_eq, z_ne, z_eqi, z_eqb, z_eqs, z_eqn, z_lt, z_le, z_gt, z_ge, z_is0, z_is1, z_is2, z_is3, z_is4, z_is5, z_in0, z_in1, z_in2, z_in3, z_in4, z_in5, z_inl, z_int, z_nil, z_nit, z_t0, z_t1, z_t2, z_t3, z_t4, z_t5, z_tr, z_isb, z_isb1, z_isb2, z_isb3, z_isb4, z_isb5, z_addb, z_subb, z_nsb, z_rvt, z_rvl, z_stp, z_srl, z_srt, z_sti, z_stb, z_shl, z_ixt, z_ixl, z_ixr, z_slt, z_sll, z_lent, z_lenl, z_lenr, z_suml, z_sumt, z_maxl, z_maxt, z_minl, z_bi, z_bb, z_tul, z_tut, z_tur, z_lil, z_lit, z_all, z_max2, z_min2, z_kt, z_kl, z_cot, z_col, z_da, z_ds0, z_ds1, z_sql, z_sqt, z_isLr, z_fn, z_fb, z_fi, z_fs, sn_0, sn_1, sn_2, sn_3, sn_4, sn_5, sn_6, sn_7, sn_8, sn_9, sn_10, sn_11, sn_12, sn_13, sn_14, sn_15, sn_16, sn_17, sn_18, sn_19, rest_ok hb hl hr]
  by_cases h0 : p.on = 0
  · rw [if_pos h0] at hP
    simp only [q_still5, post_cons]
    simp [ex, xB_eq, ev, evs, evb, evt, evo, evi, evf, tst, K.val, Bz.isi, isOwn, post_bind, post_ok, post_lift, post_ite, post_noexc, post_nil, bind_ok, fk_nx, fk_rt, fr_nx, fr_rt, lift_some, sto, stoT, wipeS, z_add, z_adds, z_addt, z_addl, z_sub, z_mul, z_mult, z_mull, z_fdiv, z_mod, z_eq, z_ne, z_eqi, z_eqb, z_eqs, z_eqn, z_lt, z_le, z_gt, z_ge, z_is0, z_is1, z_is2, z_is3, z_is4, z_is5, z_in0, z_in1, z_in2, z_in3, z_in4, z_in5, z_inl, z_int, z_nil, z_nit, z_t0, z_t1, z_t2, z_t3, z_t4, z_t5, z_tr, z_isb, z_isb1, z_isb2, z_isb3, z_isb4, z_isb5, z_addb, z_subb, z_nsb, z_rvt, z_rvl, z_stp, z_srl, z_srt, z_sti, z_stb, z_shl, z_ixt, z_ixl, z_ixr, z_slt, z_sll, z_lent, z_lenl, z_lenr, z_suml, z_sumt, z_maxl, z_maxt, z_minl, z_bi, z_bb, z_tul, z_tut, z_tur, z_lil, z_lit, z_all, z_max2, z_min2, z_kt, z_kl, z_cot, z_col, z_da, z_ds0, z_ds1, z_sql, z_sqt, z_isLr, z_fn, z_fb, z_fi, z_fs, sn_0, sn_1, sn_2, sn_3, sn_4, sn_5, sn_6, sn_7, sn_8, sn_9, sn_10, sn_11, sn_12, sn_13, sn_14, sn_15, sn_16, sn_17, sn_18, sn_19, z_eqi, h0]
    simp only [q_still1, post_cons]
    simp [ex, xB_eq, ev, evs, evb, evt, evo, evi, evf, tst, K.val, Bz.isi, isOwn, post_bind, post_ok, post_lift, post_ite, post_noexc, post_nil, bind_ok, fk_nx, fk_rt, fr_nx, fr_rt, lift_some, sto, stoT, wipeS, z_add, z_adds, z_addt, z_addl, z_sub, z_mul, z_mult, z_mull, z_fdiv, z_mod, z_eq, z_ne, z_eqi, z_eqb, z_eqs, z_eqn, z_lt, z_le, z_gt, z_ge, z_is0, z_is1, z_is2, z_is3, z_is4, z_is5, z_in0, z_in1, z_in2, z_in3, z_in4, z_in5, z_inl, z_int, z_nil, z_nit, z_t0, z_t1, z_t2, z_t3, z_t4, z_t5, z_tr, z_isb, z_isb1, z_isb2, z_isb3, z_isb4, z_isb5, z_addb, z_subb, z_nsb, z_rvt, z_rvl, z_stp, z_srl, z_srt, z_sti, z_stb, z_shl, z_ixt, z_ixl, z_ixr, z_slt, z_sll, z_lent, z_lenl, z_lenr, z_suml, z_sumt, z_maxl, z_maxt, z_minl, z_bi, z_bb, z_tul, z_tut, z_tur, z_lil, z_lit, z_all, z_max2, z_min2, z_kt, z_kl, z_cot, z_col, z_da, z_ds0, z_ds1, z_sql, z_sqt, z_isLr, z_fn, z_fb, z_fi, z_fs, sn_0, sn_1, sn_2, sn_3, sn_4, sn_5, sn_6, sn_7, sn_8, sn_9, sn_10, sn_11, sn_12, sn_13, sn_14, sn_15, sn_16, sn_17, sn_18, sn_19, top_ok]
    exact hP
  · rw [if_neg h0] at hP
    simp only [q_still5, post_cons]
    simp [ex, xB_eq, ev, evs, evb, evt, evo, evi, evf, tst, K.val, Bz.isi, isOwn, post_bind, post_ok, post_lift, post_ite, post_noexc, post_nil, bind_ok, fk_nx, fk_rt, fr_nx, fr_rt, lift_some, sto, stoT, wipeS, z_add, z_adds, z_addt, z_addl, z_sub, z_mul, z_mult, z_mull, z_fdiv, z_mod, z_eq, z_ne, z_eqi, z_eqb, z_eqs, z_eqn, z_lt, z_le, z_gt, z_ge, z_is0, z_is1, z_is2, z_is3, z_is4, z_is5, z_in0, z_in1, z_in2, z_in3, z_in4, z_in5, z_inl, z_int, z_nil, z_nit, z_t0, z_t1, z_t2, z_t3, z_t4, z_t5, z_tr, z_isb, z_isb1, z_isb2, z_isb3, z_isb4, z_isb5, z_addb, z_subb, z_nsb, z_rvt, z_rvl, z_stp, z_srl, z_srt, z_sti, z_stb, z_shl, z_ixt, z_ixl, z_ixr, z_slt, z_sll, z_lent, z_lenl, z_lenr, z_suml, z_sumt, z_maxl, z_maxt, z_minl, z_bi, z_bb, z_tul, z_tut, z_tur, z_lil, z_lit, z_all, z_max2, z_min2, z_kt, z_kl, z_cot, z_col, z_da, z_ds0, z_ds1, z_sql, z_sqt, z_isLr, z_fn, z_fb, z_fi, z_fs, sn_0, sn_1, sn_2, sn_3, sn_4, sn_5, sn_6, sn_7, sn_8, sn_9, sn_10, sn_11, sn_12, sn_13, sn_14, sn_15, sn_16, sn_17, sn_18, sn_19, z_eqi, h0]
    by_cases h2 : p.free < 2
    · rw [if_pos h2, Int.add_zero] at hP
      simp only [q_still4, post_cons]
      simp [ex, xB_eq, ev, evs, evb, evt, evo, evi, evf, tst, K.val, Bz.isi, isOwn, post_bind, post_ok, post_lift, post_ite, post_noexc, post_nil, bind_ok, fk_nx, fk_rt, fr_nx, fr_rt, lift_some, sto, stoT, wipeS, z_add, z_adds, z_addt, z_addl, z_sub, z_mul, z_mult, z_mull, z_fdiv, z_mod, z_eq, z_ne, z_eqi, z_eqb, z_eqs, z_eqn, z_lt, z_le, z_gt, z_ge, z_is0, z_is1, z_is2, z_is3, z_is4, z_is5, z_in0, z_in1, z_in2, z_in3, z_in4, z_in5, z_inl, z_int, z_nil, z_nit, z_t0, z_t1, z_t2, z_t3, z_t4, z_t5, z_tr, z_isb, z_isb1, z_isb2, z_isb3, z_isb4, z_isb5, z_addb, z_subb, z_nsb, z_rvt, z_rvl, z_stp, z_srl, z_srt, z_sti, z_stb, z_shl, z_ixt, z_ixl, z_ixr, z_slt, z_sll, z_lent, z_lenl, z_lenr, z_suml, z_sumt, z_maxl, z_maxt, z_minl, z_bi, z_bb, z_tul, z_tut, z_tur, z_lil, z_lit, z_all, z_max2, z_min2, z_kt, z_kl, z_cot, z_col, z_da, z_ds0, z_ds1, z_sql, z_sqt, z_isLr, z_fn, z_fb, z_fi, z_fs, sn_0, sn_1, sn_2, sn_3, sn_4, sn_5, sn_6, sn_7, sn_8, sn_9, sn_10, sn_11, sn_12, sn_13, sn_14, sn_15, sn_16, sn_17, sn_18, sn_19, h2]
      simp only [q_still2, post_cons]
      simp [ex, xB_eq, ev, evs, evb, evt, evo, evi, evf, tst, K.val, Bz.isi, isOwn, post_bind, post_ok, post_lift, post_ite, post_noexc, post_nil, bind_ok, fk_nx, fk_rt, fr_nx, fr_rt, lift_some, sto, stoT, wipeS, z_add, z_adds, z_addt, z_addl, z_sub, z_mul, z_mult, z_mull, z_fdiv, z_mod, z_eq, z_ne, z_eqi, z_eqb, z_eqs, z_eqn, z_lt, z_le, z_gt, z_ge, z_is0, z_is1, z_is2, z_is3, z_is4, z_is5, z_in0, z_in1, z_in2, z_in3, z_in4, z_in5, z_inl, z_int, z_nil, z_nit, z_t0, z_t1, z_t2, z_t3, z_t4, z_t5, z_tr, z_isb, z_isb1, z_isb2, z_isb3, z_isb4, z_isb5, z_addb, z_subb, z_nsb, z_rvt, z_rvl, z_stp, z_srl, z_srt, z_sti, z_stb, z_shl, z_ixt, z_ixl, z_ixr, z_slt, z_sll, z_lent, z_lenl, z_lenr, z_suml, z_sumt, z_maxl, z_maxt, z_minl, z_bi, z_bb, z_tul, z_tut, z_tur, z_lil, z_lit, z_all, z_max2, z_min2, z_kt, z_kl, z_cot, z_col, z_da, z_ds0, z_ds1, z_sql, z_sqt, z_isLr, z_fn, z_fb, z_fi, z_fs, sn_0, sn_1, sn_2, sn_3, sn_4, sn_5, sn_6, sn_7, sn_8, sn_9, sn_10, sn_11, sn_12, sn_13, sn_14, sn_15, sn_16, sn_17, sn_18, sn_19]
      exact hP
    · rw [if_neg h2] at hP
      simp only [q_still4, post_cons]
      simp [ex, xB_eq, ev, evs, evb, evt, evo, evi, evf, tst, K.val, Bz.isi, isOwn, post_bind, post_ok, post_lift, post_ite, post_noexc, post_nil, bind_ok, fk_nx, fk_rt, fr_nx, fr_rt, lift_some, sto, stoT, wipeS, z_add, z_adds, z_addt, z_addl, z_sub, z_mul, z_mult, z_mull, z_fdiv, z_mod, z_eq, z_ne, z_eqi, z_eqb, z_eqs, z_eqn, z_lt, z_le, z_gt, z_ge, z_is0, z_is1, z_is2, z_is3, z_is4, z_is5, z_in0, z_in1, z_in2, z_in3, z_in4, z_in5, z_inl, z_int, z_nil, z_nit, z_t0, z_t1, z_t2, z_t3, z_t4, z_t5, z_tr, z_isb, z_isb1, z_isb2, z_isb3, z_isb4, z_isb5, z_addb, z_subb, z_nsb, z_rvt, z_rvl, z_stp, z_srl, z_srt, z_sti, z_stb, z_shl, z_ixt, z_ixl, z_ixr, z_slt, z_sll, z_lent, z_lenl, z_lenr, z_suml, z_sumt, z_maxl, z_maxt, z_minl, z_bi, z_bb, z_tul, z_tut, z_tur, z_lil, z_lit, z_all, z_max2, z_min2, z_kt, z_kl, z_cot, z_col, z_da, z_ds0, z_ds1, z_sql, z_sqt, z_isLr, z_fn, z_fb, z_fi, z_fs, sn_0, sn_1, sn_2, sn_3, sn_4, sn_5, sn_6, sn_7, sn_8, sn_9, sn_10, sn_11, sn_12, sn_13, sn_14, sn_15, sn_16, sn_17, sn_18, sn_19, h2]
      by_cases h1 : p.on = 1
      · rw [if_pos h1] at hP
        simp only [q_still3, post_cons]
        simp [ex, xB_eq, ev, evs, evb, evt, evo, evi, evf, tst, K.val, Bz.isi, isOwn, post_bind, post_ok, post_lift, post_ite, post_noexc, post_nil, bind_ok, fk_nx, fk_rt, fr_nx, fr_rt, lift_some, sto, stoT, wipeS, z_add, z_adds, z_addt, z_addl, z_sub, z_mul, z_mult, z_mull, z_fdiv, z_mod, z_eq, z_ne, z_eqi, z_eqb, z_eqs, z_eqn, z_lt, z_le, z_gt, z_ge, z_is0, z_is1, z_is2, z_is3, z_is4, z_is5, z_in0, z_in1, z_in2, z_in3, z_in4, z_in5, z_inl, z_int, z_nil, z_nit, z_t0, z_t1, z_t2, z_t3, z_t4, z_t5, z_tr, z_isb, z_isb1, z_isb2, z_isb3, z_isb4, z_isb5, z_addb, z_subb, z_nsb, z_rvt, z_rvl, z_stp, z_srl, z_srt, z_sti, z_stb, z_shl, z_ixt, z_ixl, z_ixr, z_slt, z_sll, z_lent, z_lenl, z_lenr, z_suml, z_sumt, z_maxl, z_maxt, z_minl, z_bi, z_bb, z_tul, z_tut, z_tur, z_lil, z_lit, z_all, z_max2, z_min2, z_kt, z_kl, z_cot, z_col, z_da, z_ds0, z_ds1, z_sql, z_sqt, z_isLr, z_fn, z_fb, z_fi, z_fs, sn_0, sn_1, sn_2, sn_3, sn_4, sn_5, sn_6, sn_7, sn_8, sn_9, sn_10, sn_11, sn_12, sn_13, sn_14, sn_15, sn_16, sn_17, sn_18, sn_19, z_eqi, h1, top_ok]
        exact hP
      · rw [if_neg h1] at hP
        simp only [q_still3, post_cons]
        simp [ex, xB_eq, ev, evs, evb, evt, evo, evi, evf, tst, K.val, Bz.isi, isOwn, post_bind, post_ok, post_lift, post_ite, post_noexc, post_nil, bind_ok, fk_nx, fk_rt, fr_nx, fr_rt, lift_some, sto, stoT, wipeS, z_add, z_adds, z_addt, z_addl, z_sub, z_mul, z_mult, z_mull, z_fdiv, z_mod, z_eq, z_ne, z_eqi, z_eqb, z_eqs, z_eqn, z_lt, z_le, z_gt, z_ge, z_is0, z_is1, z_is2, z_is3, z_is4, z_is5, z_in0, z_in1, z_in2, z_in3, z_in4, z_in5, z_inl, z_int, z_nil, z_nit, z_t0, z_t1, z_t2, z_t3, z_t4, z_t5, z_tr, z_isb, z_isb1, z_isb2, z_isb3, z_isb4, z_isb5, z_addb, z_subb, z_nsb, z_rvt, z_rvl, z_stp, z_srl, z_srt, z_sti, z_stb, z_shl, z_ixt, z_ixl, z_ixr, z_slt, z_sll, z_lent, z_lenl, z_lenr, z_suml, z_sumt, z_maxl, z_maxt, z_minl, z_bi, z_bb, z_tul, z_tut, z_tur, z_lil, z_lit, z_all, z_max2, z_min2, z_kt, z_kl, z_cot, z_col, z_da, z_ds0, z_ds1, z_sql, z_sqt, z_isLr, z_fn, z_fb, z_fi, z_fs, sn_0, sn_1, sn_2, sn_3, sn_4, sn_5, sn_6, sn_7, sn_8, sn_9, sn_10, sn_11, sn_12, sn_13, sn_14, sn_15, sn_16, sn_17, sn_18, sn_19, z_eqi, h1]
        exact hP
def v3E (v : Int × Int × Int) : PyData := .tuple [.int v.1, .int v.2.1, .int v.2.2]
structure Vs where
  l : List (Int × Int × Int)
  fr : Bool
def vbase (v : Vs) (p : Pl) : List (Int × Int × Int) := if v.fr = true then v.l ++ [(p.up, 0, 0)] else v.l
def vadd (l : List (Int × Int × Int)) (g : Int) : List (Int × Int × Int) := match l.getLast? with
  | some t => l.dropLast ++ [(t.1, t.2.1 + g, t.2.2 + 1)]
  | none => l
def newF (p : Pl) (f2 : Fo) : Bool := match f2.pl with
  | some q => !decide (q.up = p.up)
  | none => false
def vstep (v : Vs) (p : Pl) (f2 : Fo) : Dd → Vs
  | .stroke f ps off => ⟨vadd (vbase v p) (jd p f ps off).1, newF p f2⟩
  | .pass => ⟨v.l, true⟩
  | .give => v
  | .free => v
def vrun (b : Int) : List Dd → Vs → Fo → Vs
  | [], v, _ => v
  | d :: r, v, fo => match fo.pl with
    | none => v
    | some p => match moved b p d with
      | none => v
      | some f2 => vrun b r (vstep v p f2 d) f2
def visV (a b player : Int) (ds : List Dd) : Vs := vrun b ds ⟨[], true⟩ (begin0 a player)
def Vs.ok (v : Vs) : Prop := v.fr = false → v.l ≠ []
theorem vadd_ne {l : List (Int × Int × Int)} {g : Int} (h : l ≠ []) : vadd l g ≠ [] := by
  unfold vadd
  cases e : l.getLast? with
  | none => exact absurd (List.getLast?_eq_none_iff.mp e) h
  | some t => simp
theorem vbase_ne {v : Vs} {p : Pl} (h : v.ok) : vbase v p ≠ [] := by
  unfold vbase
  split
  · simp
  · rename_i q; exact h (by simpa using q)
theorem vstep_ok {v : Vs} {p : Pl} {f2 : Fo} {d : Dd} (h : v.ok) : (vstep v p f2 d).ok := by
  cases d with
  | stroke f ps off => exact fun _ => vadd_ne (vbase_ne h)
  | pass => intro q; cases q
  | give => exact h
  | free => exact h
theorem vrun_ok {b : Int} : ∀ {ds : List Dd} {v : Vs} {fo : Fo}, v.ok → (vrun b ds v fo).ok
  | [], v, _, h => h
  | d :: r, v, fo, h => by
    unfold vrun
    split
    · exact h
    · split
      · exact h
      · exact vrun_ok (vstep_ok h)
theorem vrun_snoc {b : Int} {d : Dd} : ∀ {ds : List Dd} {v : Vs} {fo f1 f2 : Fo} {p : Pl}, ds.foldlM (step b) fo = some f1 → f1.pl = some p → moved b p d = some f2 → vrun b (ds ++ [d]) v fo = vstep (vrun b ds v fo) p f2 d
  | [], v, fo, f1, f2, p, e, hp, hm => by
    cases e
    show vrun b [d] v fo = vstep v p f2 d
    unfold vrun
    rw [hp]
    simp only [hm]
    rfl
  | c :: r, v, fo, f1, f2, p, e, hp, hm => by
    rw [List.foldlM_cons] at e
    cases h1 : step b fo c with
    | none => rw [h1] at e; cases e
    | some g =>
      rw [h1] at e
      have e : r.foldlM (step b) g = some f1 := e
      unfold step at h1
      cases h2 : fo.pl with
      | none => rw [h2] at h1; cases h1
      | some q =>
        rw [h2] at h1
        have h1 : moved b q c = some g := h1
        show vrun b (c :: (r ++ [d])) v fo = vstep (vrun b (c :: r) v fo) p f2 d
        unfold vrun
        rw [h2]
        simp only [h1]
        exact vrun_snoc e hp hm
theorem vis_snoc {a b player : Int} {ds : List Dd} {f1 f2 : Fo} {p : Pl} {d : Dd} (h : led a b player ds = some f1) (hp : f1.pl = some p) (hm : moved b p d = some f2) : visV a b player (ds ++ [d]) = vstep (visV a b player ds) p f2 d := vrun_snoc h hp hm
theorem vis_okk {a b player : Int} {ds : List Dd} : (visV a b player ds).ok := vrun_ok fun h => by cases h
def Iv (st : Stt) (a b player : Int) (ds : List Dd) (i : Nat) (env : List Sl) (s : Stt) : Prop := s = st ∧ ∃ f1 s5 s6 s7 s8 s9 s10, led a b player (ds.take i) = some f1 ∧ env = [.v (ru a b), .v (.d (frE player ds)), .own ((visV a b player (ds.take i)).l.map v3E), .v (.d (oP f1.pl)), .v (.d (.bool (visV a b player (ds.take i)).fr)), s5, s6, s7, s8, s9, s10]
theorem vis_len {b : Int} : ∀ {ds : List Dd} {v : Vs} {fo : Fo}, (vrun b ds v fo).l.length ≤ v.l.length + ds.length
  | [], v, _ => by simp [vrun]
  | d :: r, v, fo => by
    cases hp0 : fo.pl with
    | none => simp [vrun, hp0]
    | some p =>
      cases hm0 : moved b p d with
      | none => simp [vrun, hp0, hm0]
      | some f2 =>
        have e : vrun b (d :: r) v fo = vrun b r (vstep v p f2 d) f2 := by simp only [vrun, hp0, hm0]
        rw [e]
        have h1 := vis_len (b := b) (ds := r) (v := vstep v p f2 d) (fo := f2)
        have h2 : (vstep v p f2 d).l.length ≤ v.l.length + 1 := by
          cases d with
          | stroke f ps off =>
            show (vadd (vbase v p) (jd p f ps off).1).length ≤ _
            have h3 : (vbase v p).length ≤ v.l.length + 1 := by unfold vbase; split <;> simp
            unfold vadd
            split
            · rename_i t ht
              have : vbase v p ≠ [] := fun q => by rw [q] at ht; cases ht
              have := List.length_pos_iff.mpr this
              simp; omega
            · exact h3
          | pass => simp [vstep]
          | give => simp [vstep]
          | free => simp [vstep]
        simp only [List.length_cons]; omega
theorem visits_ok {k : Nat} {a b player : Int} {ds : List Dd} {fo : Fo} {st : Stt} (ha : 1 ≤ a ∧ a ≤ 1000) (hb : 1 ≤ b) (hf : FrOk a b player ds fo) (hl : ds.length ≤ 100000) : rn Gm (k + 6) 39 [ru a b, .d (frE player ds)] st = .ok (.d (.tuple ((visV a b player ds).l.map v3E))) st := by
  refine Post.eqQ fun P hP => ?_
  rw [run_at (d := ⟨11, 2, b_visits⟩) rfl]
  rw [post_runB]
  refine ⟨rfl, ?_⟩
  have hfp : ∀ st, rn Gm (k + 5) 31 [ru a b, .d (.int player)] st = .ok (.d (oP (begin0 a player).pl)) st := fun st => firstp_ok (k := k + 4)
  simp only [b_visits, post_cons]
  simp [ex, xB_eq, ev, evs, evb, evt, evo, evi, evf, tst, K.val, Bz.isi, isOwn, post_bind, post_ok, post_lift, post_ite, post_noexc, post_nil, bind_ok, fk_nx, fk_rt, fr_nx, fr_rt, lift_some, sto, stoT, wipeS, z_add, z_adds, z_addt, z_addl, z_sub, z_mul, z_mult, z_mull, z_fdiv, z_mod, z_eq, z_ne, z_eqi, z_eqb, z_eqs, z_eqn, z_lt, z_le, z_gt, z_ge, z_is0, z_is1, z_is2, z_is3, z_is4, z_is5, z_in0, z_in1, z_in2, z_in3, z_in4, z_in5, z_inl, z_int, z_nil, z_nit, z_t0, z_t1, z_t2, z_t3, z_t4, z_t5, z_tr, z_isb, z_isb1, z_isb2, z_isb3, z_isb4, z_isb5, z_addb, z_subb, z_nsb, z_rvt, z_rvl, z_stp, z_srl, z_srt, z_sti, z_stb, z_shl, z_ixt, z_ixl, z_ixr, z_slt, z_sll, z_lent, z_lenl, z_lenr, z_suml, z_sumt, z_maxl, z_maxt, z_minl, z_bi, z_bb, z_tul, z_tut, z_tur, z_lil, z_lit, z_all, z_max2, z_min2, z_kt, z_kl, z_cot, z_col, z_da, z_ds0, z_ds1, z_sql, z_sqt, z_isLr, z_fn, z_fb, z_fi, z_fs, sn_0, sn_1, sn_2, sn_3, sn_4, sn_5, sn_6, sn_7, sn_8, sn_9, sn_10, sn_11, sn_12, sn_13, sn_14, sn_15, sn_16, sn_17, sn_18, sn_19]
  simp only [q_visits16, post_cons]
  simp [ex, xB_eq, ev, evs, evb, evt, evo, evi, evf, tst, K.val, Bz.isi, isOwn, post_bind, post_ok, post_lift, post_ite, post_noexc, post_nil, bind_ok, fk_nx, fk_rt, fr_nx, fr_rt, lift_some, sto, stoT, wipeS, z_add, z_adds, z_addt, z_addl, z_sub, z_mul, z_mult, z_mull, z_fdiv, z_mod, z_eq, z_ne, z_eqi, z_eqb, z_eqs, z_eqn, z_lt, z_le, z_gt, z_ge, z_is0, z_is1, z_is2, z_is3, z_is4, z_is5, z_in0, z_in1, z_in2, z_in3, z_in4, z_in5, z_inl, z_int, z_nil, z_nit, z_t0, z_t1, z_t2, z_t3, z_t4, z_t5, z_tr, z_isb, z_isb1, z_isb2, z_isb3, z_isb4, z_isb5, z_addb, z_subb, z_nsb, z_rvt, z_rvl, z_stp, z_srl, z_srt, z_sti, z_stb, z_shl, z_ixt, z_ixl, z_ixr, z_slt, z_sll, z_lent, z_lenl, z_lenr, z_suml, z_sumt, z_maxl, z_maxt, z_minl, z_bi, z_bb, z_tul, z_tut, z_tur, z_lil, z_lit, z_all, z_max2, z_min2, z_kt, z_kl, z_cot, z_col, z_da, z_ds0, z_ds1, z_sql, z_sqt, z_isLr, z_fn, z_fb, z_fi, z_fs, sn_0, sn_1, sn_2, sn_3, sn_4, sn_5, sn_6, sn_7, sn_8, sn_9, sn_10, sn_11, sn_12, sn_13, sn_14, sn_15, sn_16, sn_17, sn_18, sn_19, fr_i0, hfp]
  simp only [q_visits15, post_cons]
  simp [ex, xB_eq, ev, evs, evb, evt, evo, evi, evf, tst, K.val, Bz.isi, isOwn, post_bind, post_ok, post_lift, post_ite, post_noexc, post_nil, bind_ok, fk_nx, fk_rt, fr_nx, fr_rt, lift_some, sto, stoT, wipeS, z_add, z_adds, z_addt, z_addl, z_sub, z_mul, z_mult, z_mull, z_fdiv, z_mod, z_eq, z_ne, z_eqi, z_eqb, z_eqs, z_eqn, z_lt, z_le, z_gt, z_ge, z_is0, z_is1, z_is2, z_is3, z_is4, z_is5, z_in0, z_in1, z_in2, z_in3, z_in4, z_in5, z_inl, z_int, z_nil, z_nit, z_t0, z_t1, z_t2, z_t3, z_t4, z_t5, z_tr, z_isb, z_isb1, z_isb2, z_isb3, z_isb4, z_isb5, z_addb, z_subb, z_nsb, z_rvt, z_rvl, z_stp, z_srl, z_srt, z_sti, z_stb, z_shl, z_ixt, z_ixl, z_ixr, z_slt, z_sll, z_lent, z_lenl, z_lenr, z_suml, z_sumt, z_maxl, z_maxt, z_minl, z_bi, z_bb, z_tul, z_tut, z_tur, z_lil, z_lit, z_all, z_max2, z_min2, z_kt, z_kl, z_cot, z_col, z_da, z_ds0, z_ds1, z_sql, z_sqt, z_isLr, z_fn, z_fb, z_fi, z_fs, sn_0, sn_1, sn_2, sn_3, sn_4, sn_5, sn_6, sn_7, sn_8, sn_9, sn_10, sn_11, sn_12, sn_13, sn_14, sn_15, sn_16, sn_17, sn_18, sn_19]
  simp only [q_visits14, post_cons]
  simp [ex, xB_eq, ev, evs, evb, evt, evo, evi, evf, tst, K.val, Bz.isi, isOwn, post_bind, post_ok, post_lift, post_ite, post_noexc, post_nil, bind_ok, fk_nx, fk_rt, fr_nx, fr_rt, lift_some, sto, stoT, wipeS, z_add, z_adds, z_addt, z_addl, z_sub, z_mul, z_mult, z_mull, z_fdiv, z_mod, z_eq, z_ne, z_eqi, z_eqb, z_eqs, z_eqn, z_lt, z_le, z_gt, z_ge, z_is0, z_is1, z_is2, z_is3, z_is4, z_is5, z_in0, z_in1, z_in2, z_in3, z_in4, z_in5, z_inl, z_int, z_nil, z_nit, z_t0, z_t1, z_t2, z_t3, z_t4, z_t5, z_tr, z_isb, z_isb1, z_isb2, z_isb3, z_isb4, z_isb5, z_addb, z_subb, z_nsb, z_rvt, z_rvl, z_stp, z_srl, z_srt, z_sti, z_stb, z_shl, z_ixt, z_ixl, z_ixr, z_slt, z_sll, z_lent, z_lenl, z_lenr, z_suml, z_sumt, z_maxl, z_maxt, z_minl, z_bi, z_bb, z_tul, z_tut, z_tur, z_lil, z_lit, z_all, z_max2, z_min2, z_kt, z_kl, z_cot, z_col, z_da, z_ds0, z_ds1, z_sql, z_sqt, z_isLr, z_fn, z_fb, z_fi, z_fs, sn_0, sn_1, sn_2, sn_3, sn_4, sn_5, sn_6, sn_7, sn_8, sn_9, sn_10, sn_11, sn_12, sn_13, sn_14, sn_15, sn_16, sn_17, sn_18, sn_19, fr_i1]
  refine for_post (Iv st a b player ds) _ 0 ⟨rfl, begin0 a player, _, _, _, _, _, _, rfl, rfl⟩ ?_ ?_
  · rintro i x env s hx ⟨rfl, f1, s5, s6, s7, s8, s9, s10, h1, rfl⟩
    rw [Nat.zero_add] at *
    rw [List.getElem?_map, Option.map_eq_some_iff] at hx
    obtain ⟨d, hx, rfl⟩ := hx
    obtain ⟨g1, p, f2, q1, q2, q3, q4⟩ := led_next hf.led hx
    rw [h1] at q1
    cases q1
    have hpo := led_ok ha.1 hb hf.pl h1 p q2
    have hd := hf.ok d (List.mem_of_getElem? hx)
    have hbh := fun st => behind_ok (k := k) (st := st) hpo hd hb q3
    have htk : ds.take (i + 1) = ds.take i ++ [d] := by rw [List.take_succ, hx]; rfl
    have hvs := vis_snoc h1 q2 q3
    rw [← htk] at hvs
    have hvo : (visV a b player (ds.take i)).ok := vis_okk
    have hvl : (visV a b player (ds.take i)).l.length ≤ 100000 := by
      have := vis_len (b := b) (ds := ds.take i) (v := ⟨[], true⟩) (fo := begin0 a player)
      unfold visV
      simp only [List.length_nil, List.length_take] at this
      omega
    have fin : ∀ (v : Vs) (s6 s7 s8 s9 s10 : Sl), v = vstep (visV a b player (ds.take i)) p f2 d → Post (xB (rn Gm (k + 5)) q_visits9 [.v (ru a b), .v (.d (frE player ds)), .own (v.l.map v3E), .v (.d p.e), .v (.d (.bool v.fr)), .v (.d d.e), .v (.d (oP f2.pl)), s7, s8, s9, s10] s) fun fl s' => match fl with | .nx e2 => Iv s a b player ds (i + 1) e2 s' | .rt v => Fk (xB (rn Gm (k + 5)) q_visits13) (Fr P) (.rt v) s' := by
      intro v s6 s7 s8 s9 s10 hv
      simp only [q_visits9, post_cons]
      simp [ex, xB_eq, ev, evs, evb, evt, evo, evi, evf, tst, K.val, Bz.isi, isOwn, post_bind, post_ok, post_lift, post_ite, post_noexc, post_nil, bind_ok, fk_nx, fk_rt, fr_nx, fr_rt, lift_some, sto, stoT, wipeS, z_add, z_adds, z_addt, z_addl, z_sub, z_mul, z_mult, z_mull, z_fdiv, z_mod, z_eq, z_ne, z_eqi, z_eqb, z_eqs, z_eqn, z_lt, z_le, z_gt, z_ge, z_is0, z_is1, z_is2, z_is3, z_is4, z_is5, z_in0, z_in1, z_in2, z_in3, z_in4, z_in5, z_inl, z_int, z_nil, z_nit, z_t0, z_t1, z_t2, z_t3, z_t4, z_t5, z_tr, z_isb, z_isb1, z_isb2, z_isb3, z_isb4, z_isb5, z_addb, z_subb, z_nsb, z_rvt, z_rvl, z_stp, z_srl, z_srt, z_sti, z_stb, z_shl, z_ixt, z_ixl, z_ixr, z_slt, z_sll, z_lent, z_lenl, z_lenr, z_suml, z_sumt, z_maxl, z_maxt, z_minl, z_bi, z_bb, z_tul, z_tut, z_tur, z_lil, z_lit, z_all, z_max2, z_min2, z_kt, z_kl, z_cot, z_col, z_da, z_ds0, z_ds1, z_sql, z_sqt, z_isLr, z_fn, z_fb, z_fi, z_fs, sn_0, sn_1, sn_2, sn_3, sn_4, sn_5, sn_6, sn_7, sn_8, sn_9, sn_10, sn_11, sn_12, sn_13, sn_14, sn_15, sn_16, sn_17, sn_18, sn_19]
      rw [hv, ← hvs]
      exact ⟨rfl, f2, _, _, _, _, _, _, q4, rfl⟩
    generalize visV a b player (ds.take i) = v0 at *
    refine ⟨_, rfl, ?_⟩
    rw [q2, oP_some]
    simp only [q_visits11, post_cons]
    simp [ex, xB_eq, ev, evs, evb, evt, evo, evi, evf, tst, K.val, Bz.isi, isOwn, post_bind, post_ok, post_lift, post_ite, post_noexc, post_nil, bind_ok, fk_nx, fk_rt, fr_nx, fr_rt, lift_some, sto, stoT, wipeS, z_add, z_adds, z_addt, z_addl, z_sub, z_mul, z_mult, z_mull, z_fdiv, z_mod, z_eq, z_ne, z_eqi, z_eqb, z_eqs, z_eqn, z_lt, z_le, z_gt, z_ge, z_is0, z_is1, z_is2, z_is3, z_is4, z_is5, z_in0, z_in1, z_in2, z_in3, z_in4, z_in5, z_inl, z_int, z_nil, z_nit, z_t0, z_t1, z_t2, z_t3, z_t4, z_t5, z_tr, z_isb, z_isb1, z_isb2, z_isb3, z_isb4, z_isb5, z_addb, z_subb, z_nsb, z_rvt, z_rvl, z_stp, z_srl, z_srt, z_sti, z_stb, z_shl, z_ixt, z_ixl, z_ixr, z_slt, z_sll, z_lent, z_lenl, z_lenr, z_suml, z_sumt, z_maxl, z_maxt, z_minl, z_bi, z_bb, z_tul, z_tut, z_tur, z_lil, z_lit, z_all, z_max2, z_min2, z_kt, z_kl, z_cot, z_col, z_da, z_ds0, z_ds1, z_sql, z_sqt, z_isLr, z_fn, z_fb, z_fi, z_fs, sn_0, sn_1, sn_2, sn_3, sn_4, sn_5, sn_6, sn_7, sn_8, sn_9, sn_10, sn_11, sn_12, sn_13, sn_14, sn_15, sn_16, sn_17, sn_18, sn_19, hbh, fo_i0]
    cases d with
    | give =>
      simp only [q_visits10, post_cons]
      simp [ex, xB_eq, ev, evs, evb, evt, evo, evi, evf, tst, K.val, Bz.isi, isOwn, post_bind, post_ok, post_lift, post_ite, post_noexc, post_nil, bind_ok, fk_nx, fk_rt, fr_nx, fr_rt, lift_some, sto, stoT, wipeS, z_add, z_adds, z_addt, z_addl, z_sub, z_mul, z_mult, z_mull, z_fdiv, z_mod, z_eq, z_ne, z_eqi, z_eqb, z_eqs, z_eqn, z_lt, z_le, z_gt, z_ge, z_is0, z_is1, z_is2, z_is3, z_is4, z_is5, z_in0, z_in1, z_in2, z_in3, z_in4, z_in5, z_inl, z_int, z_nil, z_nit, z_t0, z_t1, z_t2, z_t3, z_t4, z_t5, z_tr, z_isb, z_isb1, z_isb2, z_isb3, z_isb4, z_isb5, z_addb, z_subb, z_nsb, z_rvt, z_rvl, z_stp, z_srl, z_srt, z_sti, z_stb, z_shl, z_ixt, z_ixl, z_ixr, z_slt, z_sll, z_lent, z_lenl, z_lenr, z_suml, z_sumt, z_maxl, z_maxt, z_minl, z_bi, z_bb, z_tul, z_tut, z_tur, z_lil, z_lit, z_all, z_max2, z_min2, z_kt, z_kl, z_cot, z_col, z_da, z_ds0, z_ds1, z_sql, z_sqt, z_isLr, z_fn, z_fb, z_fi, z_fs, sn_0, sn_1, sn_2, sn_3, sn_4, sn_5, sn_6, sn_7, sn_8, sn_9, sn_10, sn_11, sn_12, sn_13, sn_14, sn_15, sn_16, sn_17, sn_18, sn_19, dd_i0g]
      simp only [q_visits8, post_cons]
      simp [ex, xB_eq, ev, evs, evb, evt, evo, evi, evf, tst, K.val, Bz.isi, isOwn, post_bind, post_ok, post_lift, post_ite, post_noexc, post_nil, bind_ok, fk_nx, fk_rt, fr_nx, fr_rt, lift_some, sto, stoT, wipeS, z_add, z_adds, z_addt, z_addl, z_sub, z_mul, z_mult, z_mull, z_fdiv, z_mod, z_eq, z_ne, z_eqi, z_eqb, z_eqs, z_eqn, z_lt, z_le, z_gt, z_ge, z_is0, z_is1, z_is2, z_is3, z_is4, z_is5, z_in0, z_in1, z_in2, z_in3, z_in4, z_in5, z_inl, z_int, z_nil, z_nit, z_t0, z_t1, z_t2, z_t3, z_t4, z_t5, z_tr, z_isb, z_isb1, z_isb2, z_isb3, z_isb4, z_isb5, z_addb, z_subb, z_nsb, z_rvt, z_rvl, z_stp, z_srl, z_srt, z_sti, z_stb, z_shl, z_ixt, z_ixl, z_ixr, z_slt, z_sll, z_lent, z_lenl, z_lenr, z_suml, z_sumt, z_maxl, z_maxt, z_minl, z_bi, z_bb, z_tul, z_tut, z_tur, z_lil, z_lit, z_all, z_max2, z_min2, z_kt, z_kl, z_cot, z_col, z_da, z_ds0, z_ds1, z_sql, z_sqt, z_isLr, z_fn, z_fb, z_fi, z_fs, sn_0, sn_1, sn_2, sn_3, sn_4, sn_5, sn_6, sn_7, sn_8, sn_9, sn_10, sn_11, sn_12, sn_13, sn_14, sn_15, sn_16, sn_17, sn_18, sn_19, dd_i0g]
      exact fin v0 s6 s7 s8 s9 s10 rfl
    | free =>
      simp only [q_visits10, post_cons]
      simp [ex, xB_eq, ev, evs, evb, evt, evo, evi, evf, tst, K.val, Bz.isi, isOwn, post_bind, post_ok, post_lift, post_ite, post_noexc, post_nil, bind_ok, fk_nx, fk_rt, fr_nx, fr_rt, lift_some, sto, stoT, wipeS, z_add, z_adds, z_addt, z_addl, z_sub, z_mul, z_mult, z_mull, z_fdiv, z_mod, z_eq, z_ne, z_eqi, z_eqb, z_eqs, z_eqn, z_lt, z_le, z_gt, z_ge, z_is0, z_is1, z_is2, z_is3, z_is4, z_is5, z_in0, z_in1, z_in2, z_in3, z_in4, z_in5, z_inl, z_int, z_nil, z_nit, z_t0, z_t1, z_t2, z_t3, z_t4, z_t5, z_tr, z_isb, z_isb1, z_isb2, z_isb3, z_isb4, z_isb5, z_addb, z_subb, z_nsb, z_rvt, z_rvl, z_stp, z_srl, z_srt, z_sti, z_stb, z_shl, z_ixt, z_ixl, z_ixr, z_slt, z_sll, z_lent, z_lenl, z_lenr, z_suml, z_sumt, z_maxl, z_maxt, z_minl, z_bi, z_bb, z_tul, z_tut, z_tur, z_lil, z_lit, z_all, z_max2, z_min2, z_kt, z_kl, z_cot, z_col, z_da, z_ds0, z_ds1, z_sql, z_sqt, z_isLr, z_fn, z_fb, z_fi, z_fs, sn_0, sn_1, sn_2, sn_3, sn_4, sn_5, sn_6, sn_7, sn_8, sn_9, sn_10, sn_11, sn_12, sn_13, sn_14, sn_15, sn_16, sn_17, sn_18, sn_19, dd_i0f]
      simp only [q_visits8, post_cons]
      simp [ex, xB_eq, ev, evs, evb, evt, evo, evi, evf, tst, K.val, Bz.isi, isOwn, post_bind, post_ok, post_lift, post_ite, post_noexc, post_nil, bind_ok, fk_nx, fk_rt, fr_nx, fr_rt, lift_some, sto, stoT, wipeS, z_add, z_adds, z_addt, z_addl, z_sub, z_mul, z_mult, z_mull, z_fdiv, z_mod, z_eq, z_ne, z_eqi, z_eqb, z_eqs, z_eqn, z_lt, z_le, z_gt, z_ge, z_is0, z_is1, z_is2, z_is3, z_is4, z_is5, z_in0, z_in1, z_in2, z_in3, z_in4, z_in5, z_inl, z_int, z_nil, z_nit, z_t0, z_t1, z_t2, z_t3, z_t4, z_t5, z_tr, z_isb, z_isb1, z_isb2, z_isb3, z_isb4, z_isb5, z_addb, z_subb, z_nsb, z_rvt, z_rvl, z_stp, z_srl, z_srt, z_sti, z_stb, z_shl, z_ixt, z_ixl, z_ixr, z_slt, z_sll, z_lent, z_lenl, z_lenr, z_suml, z_sumt, z_maxl, z_maxt, z_minl, z_bi, z_bb, z_tul, z_tut, z_tur, z_lil, z_lit, z_all, z_max2, z_min2, z_kt, z_kl, z_cot, z_col, z_da, z_ds0, z_ds1, z_sql, z_sqt, z_isLr, z_fn, z_fb, z_fi, z_fs, sn_0, sn_1, sn_2, sn_3, sn_4, sn_5, sn_6, sn_7, sn_8, sn_9, sn_10, sn_11, sn_12, sn_13, sn_14, sn_15, sn_16, sn_17, sn_18, sn_19, dd_i0f]
      exact fin v0 s6 s7 s8 s9 s10 rfl
    | pass =>
      simp only [q_visits10, post_cons]
      simp [ex, xB_eq, ev, evs, evb, evt, evo, evi, evf, tst, K.val, Bz.isi, isOwn, post_bind, post_ok, post_lift, post_ite, post_noexc, post_nil, bind_ok, fk_nx, fk_rt, fr_nx, fr_rt, lift_some, sto, stoT, wipeS, z_add, z_adds, z_addt, z_addl, z_sub, z_mul, z_mult, z_mull, z_fdiv, z_mod, z_eq, z_ne, z_eqi, z_eqb, z_eqs, z_eqn, z_lt, z_le, z_gt, z_ge, z_is0, z_is1, z_is2, z_is3, z_is4, z_is5, z_in0, z_in1, z_in2, z_in3, z_in4, z_in5, z_inl, z_int, z_nil, z_nit, z_t0, z_t1, z_t2, z_t3, z_t4, z_t5, z_tr, z_isb, z_isb1, z_isb2, z_isb3, z_isb4, z_isb5, z_addb, z_subb, z_nsb, z_rvt, z_rvl, z_stp, z_srl, z_srt, z_sti, z_stb, z_shl, z_ixt, z_ixl, z_ixr, z_slt, z_sll, z_lent, z_lenl, z_lenr, z_suml, z_sumt, z_maxl, z_maxt, z_minl, z_bi, z_bb, z_tul, z_tut, z_tur, z_lil, z_lit, z_all, z_max2, z_min2, z_kt, z_kl, z_cot, z_col, z_da, z_ds0, z_ds1, z_sql, z_sqt, z_isLr, z_fn, z_fb, z_fi, z_fs, sn_0, sn_1, sn_2, sn_3, sn_4, sn_5, sn_6, sn_7, sn_8, sn_9, sn_10, sn_11, sn_12, sn_13, sn_14, sn_15, sn_16, sn_17, sn_18, sn_19, dd_i0p]
      simp only [q_visits8, post_cons]
      simp [ex, xB_eq, ev, evs, evb, evt, evo, evi, evf, tst, K.val, Bz.isi, isOwn, post_bind, post_ok, post_lift, post_ite, post_noexc, post_nil, bind_ok, fk_nx, fk_rt, fr_nx, fr_rt, lift_some, sto, stoT, wipeS, z_add, z_adds, z_addt, z_addl, z_sub, z_mul, z_mult, z_mull, z_fdiv, z_mod, z_eq, z_ne, z_eqi, z_eqb, z_eqs, z_eqn, z_lt, z_le, z_gt, z_ge, z_is0, z_is1, z_is2, z_is3, z_is4, z_is5, z_in0, z_in1, z_in2, z_in3, z_in4, z_in5, z_inl, z_int, z_nil, z_nit, z_t0, z_t1, z_t2, z_t3, z_t4, z_t5, z_tr, z_isb, z_isb1, z_isb2, z_isb3, z_isb4, z_isb5, z_addb, z_subb, z_nsb, z_rvt, z_rvl, z_stp, z_srl, z_srt, z_sti, z_stb, z_shl, z_ixt, z_ixl, z_ixr, z_slt, z_sll, z_lent, z_lenl, z_lenr, z_suml, z_sumt, z_maxl, z_maxt, z_minl, z_bi, z_bb, z_tul, z_tut, z_tur, z_lil, z_lit, z_all, z_max2, z_min2, z_kt, z_kl, z_cot, z_col, z_da, z_ds0, z_ds1, z_sql, z_sqt, z_isLr, z_fn, z_fb, z_fi, z_fs, sn_0, sn_1, sn_2, sn_3, sn_4, sn_5, sn_6, sn_7, sn_8, sn_9, sn_10, sn_11, sn_12, sn_13, sn_14, sn_15, sn_16, sn_17, sn_18, sn_19, dd_i0p]
      simp only [q_visits7, post_cons]
      simp [ex, xB_eq, ev, evs, evb, evt, evo, evi, evf, tst, K.val, Bz.isi, isOwn, post_bind, post_ok, post_lift, post_ite, post_noexc, post_nil, bind_ok, fk_nx, fk_rt, fr_nx, fr_rt, lift_some, sto, stoT, wipeS, z_add, z_adds, z_addt, z_addl, z_sub, z_mul, z_mult, z_mull, z_fdiv, z_mod, z_eq, z_ne, z_eqi, z_eqb, z_eqs, z_eqn, z_lt, z_le, z_gt, z_ge, z_is0, z_is1, z_is2, z_is3, z_is4, z_is5, z_in0, z_in1, z_in2, z_in3, z_in4, z_in5, z_inl, z_int, z_nil, z_nit, z_t0, z_t1, z_t2, z_t3, z_t4, z_t5, z_tr, z_isb, z_isb1, z_isb2, z_isb3, z_isb4, z_isb5, z_addb, z_subb, z_nsb, z_rvt, z_rvl, z_stp, z_srl, z_srt, z_sti, z_stb, z_shl, z_ixt, z_ixl, z_ixr, z_slt, z_sll, z_lent, z_lenl, z_lenr, z_suml, z_sumt, z_maxl, z_maxt, z_minl, z_bi, z_bb, z_tul, z_tut, z_tur, z_lil, z_lit, z_all, z_max2, z_min2, z_kt, z_kl, z_cot, z_col, z_da, z_ds0, z_ds1, z_sql, z_sqt, z_isLr, z_fn, z_fb, z_fi, z_fs, sn_0, sn_1, sn_2, sn_3, sn_4, sn_5, sn_6, sn_7, sn_8, sn_9, sn_10, sn_11, sn_12, sn_13, sn_14, sn_15, sn_16, sn_17, sn_18, sn_19]
      exact fin ⟨v0.l, true⟩ s6 s7 s8 s9 s10 rfl
    | stroke f ps off =>
      have hlen : ps.length ≤ 1000 := by have := hd.len; omega
      have hpp := fun st => points_ok (k := k + 2) (p := p) (f := f) (ps := ps) (off := off) (st := st) hlen
      rw [pts_jd hd] at hpp
      have to4 : ∀ bs : List (Int × Int × Int), bs = vbase v0 p → Post (xB (rn Gm (k + 5)) q_visits4 [.v (ru a b), .v (.d (frE player ds)), .own (bs.map v3E), .v (.d p.e), .v (.d (.bool v0.fr)), .v (.d (Dd.e (.stroke f ps off))), .v (.d (oP f2.pl)), .v (.d (.int (jd p f ps off).1)), s8, s9, s10] s) (Fk (xB (rn Gm (k + 5)) q_visits9) fun fl s' => match fl with | .nx e2 => Iv s a b player ds (i + 1) e2 s' | .rt v => Fk (xB (rn Gm (k + 5)) q_visits13) (Fr P) (.rt v) s') := by
        intro bs hbs
        have hne : bs ≠ [] := by rw [hbs]; exact vbase_ne hvo
        have hbl : bs.length ≤ 100001 := by rw [hbs]; unfold vbase; split <;> (try simp) <;> omega
        obtain ⟨t, ht⟩ : ∃ t, bs.getLast? = some t := ⟨_, List.getLast?_eq_getLast hne⟩
        have hgl : (bs.map v3E).getLast? = some (v3E t) := by rw [List.getLast?_map, ht]; rfl
        have hsz : bs.length - 1 < szl := by unfold szl; omega
        have hva : (bs.map v3E).dropLast ++ [PyData.tuple [.int t.1, .int (t.2.1 + (jd p f ps off).1), .int (t.2.2 + 1)]] = (vadd (vbase v0 p) (jd p f ps off).1).map v3E := by
          rw [← hbs]; unfold vadd; rw [ht]; simp [v3E]
        simp only [q_visits4, post_cons]
        simp only [ex, List.getElem?_cons_zero, List.getElem?_cons_succ, hgl]
        simp [ex, xB_eq, ev, evs, evb, evt, evo, evi, evf, tst, K.val, Bz.isi, isOwn, post_bind, post_ok, post_lift, post_ite, post_noexc, post_nil, bind_ok, fk_nx, fk_rt, fr_nx, fr_rt, lift_some, sto, stoT, wipeS, z_add, z_adds, z_addt, z_addl, z_sub, z_mul, z_mult, z_mull, z_fdiv, z_mod, z_eq, z_ne, z_eqi, z_eqb, z_eqs, z_eqn, z_lt, z_le, z_gt, z_ge, z_is0, z_is1, z_is2, z_is3, z_is4, z_is5, z_in0, z_in1, z_in2, z_in3, z_in4, z_in5, z_inl, z_int, z_nil, z_nit, z_t0, z_t1, z_t2, z_t3, z_t4, z_t5, z_tr, z_isb, z_isb1, z_isb2, z_isb3, z_isb4, z_isb5, z_addb, z_subb, z_nsb, z_rvt, z_rvl, z_stp, z_srl, z_srt, z_sti, z_stb, z_shl, z_ixt, z_ixl, z_ixr, z_slt, z_sll, z_lent, z_lenl, z_lenr, z_suml, z_sumt, z_maxl, z_maxt, z_minl, z_bi, z_bb, z_tul, z_tut, z_tur, z_lil, z_lit, z_all, z_max2, z_min2, z_kt, z_kl, z_cot, z_col, z_da, z_ds0, z_ds1, z_sql, z_sqt, z_isLr, z_fn, z_fb, z_fi, z_fs, sn_0, sn_1, sn_2, sn_3, sn_4, sn_5, sn_6, sn_7, sn_8, sn_9, sn_10, sn_11, sn_12, sn_13, sn_14, sn_15, sn_16, sn_17, sn_18, sn_19, v3E]
        simp only [q_visits3, post_cons]
        simp [ex, xB_eq, ev, evs, evb, evt, evo, evi, evf, tst, K.val, Bz.isi, isOwn, post_bind, post_ok, post_lift, post_ite, post_noexc, post_nil, bind_ok, fk_nx, fk_rt, fr_nx, fr_rt, lift_some, sto, stoT, wipeS, z_add, z_adds, z_addt, z_addl, z_sub, z_mul, z_mult, z_mull, z_fdiv, z_mod, z_eq, z_ne, z_eqi, z_eqb, z_eqs, z_eqn, z_lt, z_le, z_gt, z_ge, z_is0, z_is1, z_is2, z_is3, z_is4, z_is5, z_in0, z_in1, z_in2, z_in3, z_in4, z_in5, z_inl, z_int, z_nil, z_nit, z_t0, z_t1, z_t2, z_t3, z_t4, z_t5, z_tr, z_isb, z_isb1, z_isb2, z_isb3, z_isb4, z_isb5, z_addb, z_subb, z_nsb, z_rvt, z_rvl, z_stp, z_srl, z_srt, z_sti, z_stb, z_shl, z_ixt, z_ixl, z_ixr, z_slt, z_sll, z_lent, z_lenl, z_lenr, z_suml, z_sumt, z_maxl, z_maxt, z_minl, z_bi, z_bb, z_tul, z_tut, z_tur, z_lil, z_lit, z_all, z_max2, z_min2, z_kt, z_kl, z_cot, z_col, z_da, z_ds0, z_ds1, z_sql, z_sqt, z_isLr, z_fn, z_fb, z_fi, z_fs, sn_0, sn_1, sn_2, sn_3, sn_4, sn_5, sn_6, sn_7, sn_8, sn_9, sn_10, sn_11, sn_12, sn_13, sn_14, sn_15, sn_16, sn_17, sn_18, sn_19, hsz]
        cases hq : f2.pl with
        | none =>
          simp only [q_visits2, post_cons]
          simp [ex, xB_eq, ev, evs, evb, evt, evo, evi, evf, tst, K.val, Bz.isi, isOwn, post_bind, post_ok, post_lift, post_ite, post_noexc, post_nil, bind_ok, fk_nx, fk_rt, fr_nx, fr_rt, lift_some, sto, stoT, wipeS, z_add, z_adds, z_addt, z_addl, z_sub, z_mul, z_mult, z_mull, z_fdiv, z_mod, z_eq, z_ne, z_eqi, z_eqb, z_eqs, z_eqn, z_lt, z_le, z_gt, z_ge, z_is0, z_is1, z_is2, z_is3, z_is4, z_is5, z_in0, z_in1, z_in2, z_in3, z_in4, z_in5, z_inl, z_int, z_nil, z_nit, z_t0, z_t1, z_t2, z_t3, z_t4, z_t5, z_tr, z_isb, z_isb1, z_isb2, z_isb3, z_isb4, z_isb5, z_addb, z_subb, z_nsb, z_rvt, z_rvl, z_stp, z_srl, z_srt, z_sti, z_stb, z_shl, z_ixt, z_ixl, z_ixr, z_slt, z_sll, z_lent, z_lenl, z_lenr, z_suml, z_sumt, z_maxl, z_maxt, z_minl, z_bi, z_bb, z_tul, z_tut, z_tur, z_lil, z_lit, z_all, z_max2, z_min2, z_kt, z_kl, z_cot, z_col, z_da, z_ds0, z_ds1, z_sql, z_sqt, z_isLr, z_fn, z_fb, z_fi, z_fs, sn_0, sn_1, sn_2, sn_3, sn_4, sn_5, sn_6, sn_7, sn_8, sn_9, sn_10, sn_11, sn_12, sn_13, sn_14, sn_15, sn_16, sn_17, sn_18, sn_19, oP_none]
          have := fin ⟨vadd (vbase v0 p) (jd p f ps off).1, false⟩ s6 (.v (.d (.int (jd p f ps off).1))) (.v (.d (.int t.1))) (.v (.d (.int t.2.1))) (.v (.d (.int t.2.2))) (by unfold vstep newF; rw [hq])
          rw [hq, oP_none, ← hva] at this
          exact this
        | some q =>
          simp only [q_visits2, post_cons]
          simp [ex, xB_eq, ev, evs, evb, evt, evo, evi, evf, tst, K.val, Bz.isi, isOwn, post_bind, post_ok, post_lift, post_ite, post_noexc, post_nil, bind_ok, fk_nx, fk_rt, fr_nx, fr_rt, lift_some, sto, stoT, wipeS, z_add, z_adds, z_addt, z_addl, z_sub, z_mul, z_mult, z_mull, z_fdiv, z_mod, z_eq, z_ne, z_eqi, z_eqb, z_eqs, z_eqn, z_lt, z_le, z_gt, z_ge, z_is0, z_is1, z_is2, z_is3, z_is4, z_is5, z_in0, z_in1, z_in2, z_in3, z_in4, z_in5, z_inl, z_int, z_nil, z_nit, z_t0, z_t1, z_t2, z_t3, z_t4, z_t5, z_tr, z_isb, z_isb1, z_isb2, z_isb3, z_isb4, z_isb5, z_addb, z_subb, z_nsb, z_rvt, z_rvl, z_stp, z_srl, z_srt, z_sti, z_stb, z_shl, z_ixt, z_ixl, z_ixr, z_slt, z_sll, z_lent, z_lenl, z_lenr, z_suml, z_sumt, z_maxl, z_maxt, z_minl, z_bi, z_bb, z_tul, z_tut, z_tur, z_lil, z_lit, z_all, z_max2, z_min2, z_kt, z_kl, z_cot, z_col, z_da, z_ds0, z_ds1, z_sql, z_sqt, z_isLr, z_fn, z_fb, z_fi, z_fs, sn_0, sn_1, sn_2, sn_3, sn_4, sn_5, sn_6, sn_7, sn_8, sn_9, sn_10, sn_11, sn_12, sn_13, sn_14, sn_15, sn_16, sn_17, sn_18, sn_19, oP_some, pl_isn, pl_i0, z_eqi]
          have := fin ⟨vadd (vbase v0 p) (jd p f ps off).1, !decide (q.up = p.up)⟩ s6 (.v (.d (.int (jd p f ps off).1))) (.v (.d (.int t.1))) (.v (.d (.int t.2.1))) (.v (.d (.int t.2.2))) (by unfold vstep newF; rw [hq])
          rw [hq, oP_some, ← hva] at this
          exact this
      simp only [q_visits10, post_cons]
      simp [ex, xB_eq, ev, evs, evb, evt, evo, evi, evf, tst, K.val, Bz.isi, isOwn, post_bind, post_ok, post_lift, post_ite, post_noexc, post_nil, bind_ok, fk_nx, fk_rt, fr_nx, fr_rt, lift_some, sto, stoT, wipeS, z_add, z_adds, z_addt, z_addl, z_sub, z_mul, z_mult, z_mull, z_fdiv, z_mod, z_eq, z_ne, z_eqi, z_eqb, z_eqs, z_eqn, z_lt, z_le, z_gt, z_ge, z_is0, z_is1, z_is2, z_is3, z_is4, z_is5, z_in0, z_in1, z_in2, z_in3, z_in4, z_in5, z_inl, z_int, z_nil, z_nit, z_t0, z_t1, z_t2, z_t3, z_t4, z_t5, z_tr, z_isb, z_isb1, z_isb2, z_isb3, z_isb4, z_isb5, z_addb, z_subb, z_nsb, z_rvt, z_rvl, z_stp, z_srl, z_srt, z_sti, z_stb, z_shl, z_ixt, z_ixl, z_ixr, z_slt, z_sll, z_lent, z_lenl, z_lenr, z_suml, z_sumt, z_maxl, z_maxt, z_minl, z_bi, z_bb, z_tul, z_tut, z_tur, z_lil, z_lit, z_all, z_max2, z_min2, z_kt, z_kl, z_cot, z_col, z_da, z_ds0, z_ds1, z_sql, z_sqt, z_isLr, z_fn, z_fb, z_fi, z_fs, sn_0, sn_1, sn_2, sn_3, sn_4, sn_5, sn_6, sn_7, sn_8, sn_9, sn_10, sn_11, sn_12, sn_13, sn_14, sn_15, sn_16, sn_17, sn_18, sn_19, dd_i0s]
      simp only [q_visits6, post_cons]
      simp [ex, xB_eq, ev, evs, evb, evt, evo, evi, evf, tst, K.val, Bz.isi, isOwn, post_bind, post_ok, post_lift, post_ite, post_noexc, post_nil, bind_ok, fk_nx, fk_rt, fr_nx, fr_rt, lift_some, sto, stoT, wipeS, z_add, z_adds, z_addt, z_addl, z_sub, z_mul, z_mult, z_mull, z_fdiv, z_mod, z_eq, z_ne, z_eqi, z_eqb, z_eqs, z_eqn, z_lt, z_le, z_gt, z_ge, z_is0, z_is1, z_is2, z_is3, z_is4, z_is5, z_in0, z_in1, z_in2, z_in3, z_in4, z_in5, z_inl, z_int, z_nil, z_nit, z_t0, z_t1, z_t2, z_t3, z_t4, z_t5, z_tr, z_isb, z_isb1, z_isb2, z_isb3, z_isb4, z_isb5, z_addb, z_subb, z_nsb, z_rvt, z_rvl, z_stp, z_srl, z_srt, z_sti, z_stb, z_shl, z_ixt, z_ixl, z_ixr, z_slt, z_sll, z_lent, z_lenl, z_lenr, z_suml, z_sumt, z_maxl, z_maxt, z_minl, z_bi, z_bb, z_tul, z_tut, z_tur, z_lil, z_lit, z_all, z_max2, z_min2, z_kt, z_kl, z_cot, z_col, z_da, z_ds0, z_ds1, z_sql, z_sqt, z_isLr, z_fn, z_fb, z_fi, z_fs, sn_0, sn_1, sn_2, sn_3, sn_4, sn_5, sn_6, sn_7, sn_8, sn_9, sn_10, sn_11, sn_12, sn_13, sn_14, sn_15, sn_16, sn_17, sn_18, sn_19, dd_s1, hpp]
      cases hfr : v0.fr with
      | true =>
        have := to4 (v0.l ++ [(p.up, 0, 0)]) (by unfold vbase; rw [if_pos hfr])
        rw [hfr] at this
        have hz : v0.l.length < szl := by unfold szl; omega
        simp only [q_visits5, post_cons]
        simp [ex, xB_eq, ev, evs, evb, evt, evo, evi, evf, tst, K.val, Bz.isi, isOwn, post_bind, post_ok, post_lift, post_ite, post_noexc, post_nil, bind_ok, fk_nx, fk_rt, fr_nx, fr_rt, lift_some, sto, stoT, wipeS, z_add, z_adds, z_addt, z_addl, z_sub, z_mul, z_mult, z_mull, z_fdiv, z_mod, z_eq, z_ne, z_eqi, z_eqb, z_eqs, z_eqn, z_lt, z_le, z_gt, z_ge, z_is0, z_is1, z_is2, z_is3, z_is4, z_is5, z_in0, z_in1, z_in2, z_in3, z_in4, z_in5, z_inl, z_int, z_nil, z_nit, z_t0, z_t1, z_t2, z_t3, z_t4, z_t5, z_tr, z_isb, z_isb1, z_isb2, z_isb3, z_isb4, z_isb5, z_addb, z_subb, z_nsb, z_rvt, z_rvl, z_stp, z_srl, z_srt, z_sti, z_stb, z_shl, z_ixt, z_ixl, z_ixr, z_slt, z_sll, z_lent, z_lenl, z_lenr, z_suml, z_sumt, z_maxl, z_maxt, z_minl, z_bi, z_bb, z_tul, z_tut, z_tur, z_lil, z_lit, z_all, z_max2, z_min2, z_kt, z_kl, z_cot, z_col, z_da, z_ds0, z_ds1, z_sql, z_sqt, z_isLr, z_fn, z_fb, z_fi, z_fs, sn_0, sn_1, sn_2, sn_3, sn_4, sn_5, sn_6, sn_7, sn_8, sn_9, sn_10, sn_11, sn_12, sn_13, sn_14, sn_15, sn_16, sn_17, sn_18, sn_19]
        simp only [q_visits1, post_cons]
        simp [ex, xB_eq, ev, evs, evb, evt, evo, evi, evf, tst, K.val, Bz.isi, isOwn, post_bind, post_ok, post_lift, post_ite, post_noexc, post_nil, bind_ok, fk_nx, fk_rt, fr_nx, fr_rt, lift_some, sto, stoT, wipeS, z_add, z_adds, z_addt, z_addl, z_sub, z_mul, z_mult, z_mull, z_fdiv, z_mod, z_eq, z_ne, z_eqi, z_eqb, z_eqs, z_eqn, z_lt, z_le, z_gt, z_ge, z_is0, z_is1, z_is2, z_is3, z_is4, z_is5, z_in0, z_in1, z_in2, z_in3, z_in4, z_in5, z_inl, z_int, z_nil, z_nit, z_t0, z_t1, z_t2, z_t3, z_t4, z_t5, z_tr, z_isb, z_isb1, z_isb2, z_isb3, z_isb4, z_isb5, z_addb, z_subb, z_nsb, z_rvt, z_rvl, z_stp, z_srl, z_srt, z_sti, z_stb, z_shl, z_ixt, z_ixl, z_ixr, z_slt, z_sll, z_lent, z_lenl, z_lenr, z_suml, z_sumt, z_maxl, z_maxt, z_minl, z_bi, z_bb, z_tul, z_tut, z_tur, z_lil, z_lit, z_all, z_max2, z_min2, z_kt, z_kl, z_cot, z_col, z_da, z_ds0, z_ds1, z_sql, z_sqt, z_isLr, z_fn, z_fb, z_fi, z_fs, sn_0, sn_1, sn_2, sn_3, sn_4, sn_5, sn_6, sn_7, sn_8, sn_9, sn_10, sn_11, sn_12, sn_13, sn_14, sn_15, sn_16, sn_17, sn_18, sn_19, pl_i0, hz]
        rw [List.map_append] at this
        exact this
      | false =>
        have := to4 v0.l (by unfold vbase; rw [if_neg (by rw [hfr]; simp)])
        rw [hfr] at this
        simp only [q_visits5, post_cons]
        simp [ex, xB_eq, ev, evs, evb, evt, evo, evi, evf, tst, K.val, Bz.isi, isOwn, post_bind, post_ok, post_lift, post_ite, post_noexc, post_nil, bind_ok, fk_nx, fk_rt, fr_nx, fr_rt, lift_some, sto, stoT, wipeS, z_add, z_adds, z_addt, z_addl, z_sub, z_mul, z_mult, z_mull, z_fdiv, z_mod, z_eq, z_ne, z_eqi, z_eqb, z_eqs, z_eqn, z_lt, z_le, z_gt, z_ge, z_is0, z_is1, z_is2, z_is3, z_is4, z_is5, z_in0, z_in1, z_in2, z_in3, z_in4, z_in5, z_inl, z_int, z_nil, z_nit, z_t0, z_t1, z_t2, z_t3, z_t4, z_t5, z_tr, z_isb, z_isb1, z_isb2, z_isb3, z_isb4, z_isb5, z_addb, z_subb, z_nsb, z_rvt, z_rvl, z_stp, z_srl, z_srt, z_sti, z_stb, z_shl, z_ixt, z_ixl, z_ixr, z_slt, z_sll, z_lent, z_lenl, z_lenr, z_suml, z_sumt, z_maxl, z_maxt, z_minl, z_bi, z_bb, z_tul, z_tut, z_tur, z_lil, z_lit, z_all, z_max2, z_min2, z_kt, z_kl, z_cot, z_col, z_da, z_ds0, z_ds1, z_sql, z_sqt, z_isLr, z_fn, z_fb, z_fi, z_fs, sn_0, sn_1, sn_2, sn_3, sn_4, sn_5, sn_6, sn_7, sn_8, sn_9, sn_10, sn_11, sn_12, sn_13, sn_14, sn_15, sn_16, sn_17, sn_18, sn_19]
        exact this
  · rintro env s ⟨rfl, f1, s5, s6, s7, s8, s9, s10, h1, rfl⟩
    rw [fk_nx, Nat.zero_add, List.length_map, List.take_length]
    simp only [q_visits13, post_cons]
    simp [ex, xB_eq, ev, evs, evb, evt, evo, evi, evf, tst, K.val, Bz.isi, isOwn, post_bind, post_ok, post_lift, post_ite, post_noexc, post_nil, bind_ok, fk_nx, fk_rt, fr_nx, fr_rt, lift_some, sto, stoT, wipeS, z_add, z_adds, z_addt, z_addl, z_sub, z_mul, z_mult, z_mull, z_fdiv, z_mod, z_eq, z_ne, z_eqi, z_eqb, z_eqs, z_eqn, z_lt, z_le, z_gt, z_ge, z_is0, z_is1, z_is2, z_is3, z_is4, z_is5, z_in0, z_in1, z_in2, z_in3, z_in4, z_in5, z_inl, z_int, z_nil, z_nit, z_t0, z_t1, z_t2, z_t3, z_t4, z_t5, z_tr, z_isb, z_isb1, z_isb2, z_isb3, z_isb4, z_isb5, z_addb, z_subb, z_nsb, z_rvt, z_rvl, z_stp, z_srl, z_srt, z_sti, z_stb, z_shl, z_ixt, z_ixl, z_ixr, z_slt, z_sll, z_lent, z_lenl, z_lenr, z_suml, z_sumt, z_maxl, z_maxt, z_minl, z_bi, z_bb, z_tul, z_tut, z_tur, z_lil, z_lit, z_all, z_max2, z_min2, z_kt, z_kl, z_cot, z_col, z_da, z_ds0, z_ds1, z_sql, z_sqt, z_isLr, z_fn, z_fb, z_fi, z_fs, sn_0, sn_1, sn_2, sn_3, sn_4, sn_5, sn_6, sn_7, sn_8, sn_9, sn_10, sn_11, sn_12, sn_13, sn_14, sn_15, sn_16, sn_17, sn_18, sn_19]
    simp only [q_visits12, post_cons]
    simp [ex, xB_eq, ev, evs, evb, evt, evo, evi, evf, tst, K.val, Bz.isi, isOwn, post_bind, post_ok, post_lift, post_ite, post_noexc, post_nil, bind_ok, fk_nx, fk_rt, fr_nx, fr_rt, lift_some, sto, stoT, wipeS, z_add, z_adds, z_addt, z_addl, z_sub, z_mul, z_mult, z_mull, z_fdiv, z_mod, z_eq, z_ne, z_eqi, z_eqb, z_eqs, z_eqn, z_lt, z_le, z_gt, z_ge, z_is0, z_is1, z_is2, z_is3, z_is4, z_is5, z_in0, z_in1, z_in2, z_in3, z_in4, z_in5, z_inl, z_int, z_nil, z_nit, z_t0, z_t1, z_t2, z_t3, z_t4, z_t5, z_tr, z_isb, z_isb1, z_isb2, z_isb3, z_isb4, z_isb5, z_addb, z_subb, z_nsb, z_rvt, z_rvl, z_stp, z_srl, z_srt, z_sti, z_stb, z_shl, z_ixt, z_ixl, z_ixr, z_slt, z_sll, z_lent, z_lenl, z_lenr, z_suml, z_sumt, z_maxl, z_maxt, z_minl, z_bi, z_bb, z_tul, z_tut, z_tur, z_lil, z_lit, z_all, z_max2, z_min2, z_kt, z_kl, z_cot, z_col, z_da, z_ds0, z_ds1, z_sql, z_sqt, z_isLr, z_fn, z_fb, z_fi, z_fs, sn_0, sn_1, sn_2, sn_3, sn_4, sn_5, sn_6, sn_7, sn_8, sn_9, sn_10, sn_11, sn_12, sn_13, sn_14, sn_15, sn_16, sn_17, sn_18, sn_19]
    exact hP
theorem visV_len {a b player : Int} {ds : List Dd} : (visV a b player ds).l.length ≤ ds.length := by
  have := vis_len (b := b) (ds := ds) (v := ⟨[], true⟩) (fo := begin0 a player)
  simpa [visV] using this
def brE (t : Int × Int × Int) : PyData := .tuple [.int t.1, .int t.2.1]
def brV (l : List (Int × Int × Int)) (least : Int) : PyData := .tuple ((l.filter fun t => decide (least ≤ t.2.1)).map brE)
theorem okVis {k : Nat} {l : List (Int × Int × Int)} (h : l.length ≤ 100000) : okD (k + 2) (.tuple (l.map v3E)) = true := by
  simp only [okD, Bool.and_eq_true, decide_eq_true_eq, List.all_eq_true, List.length_map, szl]
  refine ⟨by omega, fun x hx => ?_⟩
  obtain ⟨y, _, rfl⟩ := List.mem_map.mp hx
  simp [v3E, okD, szl]
theorem okBr {k : Nat} {l : List (Int × Int × Int)} {least : Int} (h : l.length ≤ 100000) : okD (k + 2) (brV l least) = true := by
  simp only [brV, okD, Bool.and_eq_true, decide_eq_true_eq, List.all_eq_true, List.length_map, szl]
  have := List.length_filter_le (fun t : Int × Int × Int => decide (least ≤ t.2.1)) l
  refine ⟨by omega, fun x hx => ?_⟩
  obtain ⟨y, _, rfl⟩ := List.mem_map.mp hx
  simp [brE, okD, szl]
def bst (l : List (Int × Int × Int)) (j : Int) : Int := bestGt 0 ((l.filter fun t => decide (t.1 = j)).map fun t => t.2.1)
theorem best_ok2 {k : Nat} {a b player : Int} {ds : List Dd} {fo : Fo} {st : Stt} (ha : 1 ≤ a ∧ a ≤ 1000) (hb : 1 ≤ b) (hf : FrOk a b player ds fo) (hl : ds.length ≤ 100000) : rn Gm (k + 7) 41 [ru a b, .d (frE player ds)] st = .ok (.d (.tuple [.int (bst (visV a b player ds).l 0), .int (bst (visV a b player ds).l 1)])) st := by
  refine Post.eqQ fun P hP => ?_
  rw [run_at (d := ⟨8, 2, b_best_breaks⟩) rfl]
  rw [post_runB]
  refine ⟨rfl, ?_⟩
  have hv := fun st => visits_ok (k := k) (st := st) ha hb hf hl
  have hvl := visV_len (a := a) (b := b) (player := player) (ds := ds)
  simp only [b_best_breaks, post_cons]
  simp [ex, xB_eq, ev, evs, evb, evt, evo, evi, evf, tst, K.val, Bz.isi, isOwn, post_bind, post_ok, post_lift, post_ite, post_noexc, post_nil, bind_ok, fk_nx, fk_rt, fr_nx, fr_rt, lift_some, sto, stoT, wipeS, z_add, z_adds, z_addt, z_addl, z_sub, z_mul, z_mult, z_mull, z_fdiv, z_mod, z_eq, z_ne, z_eqi, z_eqb, z_eqs, z_eqn, z_lt, z_le, z_gt, z_ge, z_is0, z_is1, z_is2, z_is3, z_is4, z_is5, z_in0, z_in1, z_in2, z_in3, z_in4, z_in5, z_inl, z_int, z_nil, z_nit, z_t0, z_t1, z_t2, z_t3, z_t4, z_t5, z_tr, z_isb, z_isb1, z_isb2, z_isb3, z_isb4, z_isb5, z_addb, z_subb, z_nsb, z_rvt, z_rvl, z_stp, z_srl, z_srt, z_sti, z_stb, z_shl, z_ixt, z_ixl, z_ixr, z_slt, z_sll, z_lent, z_lenl, z_lenr, z_suml, z_sumt, z_maxl, z_maxt, z_minl, z_bi, z_bb, z_tul, z_tut, z_tur, z_lil, z_lit, z_all, z_max2, z_min2, z_kt, z_kl, z_cot, z_col, z_da, z_ds0, z_ds1, z_sql, z_sqt, z_isLr, z_fn, z_fb, z_fi, z_fs, sn_0, sn_1, sn_2, sn_3, sn_4, sn_5, sn_6, sn_7, sn_8, sn_9, sn_10, sn_11, sn_12, sn_13, sn_14, sn_15, sn_16, sn_17, sn_18, sn_19, hv]
  generalize (visV a b player ds).l = l at *
  simp only [q_best_breaks1, post_cons]
  simp [ex, xB_eq, ev, evs, evb, evt, evo, evi, evf, tst, K.val, Bz.isi, isOwn, post_bind, post_ok, post_lift, post_ite, post_noexc, post_nil, bind_ok, fk_nx, fk_rt, fr_nx, fr_rt, lift_some, sto, stoT, wipeS, z_add, z_adds, z_addt, z_addl, z_sub, z_mul, z_mult, z_mull, z_fdiv, z_mod, z_eq, z_ne, z_eqi, z_eqb, z_eqs, z_eqn, z_lt, z_le, z_gt, z_ge, z_is0, z_is1, z_is2, z_is3, z_is4, z_is5, z_in0, z_in1, z_in2, z_in3, z_in4, z_in5, z_inl, z_int, z_nil, z_nit, z_t0, z_t1, z_t2, z_t3, z_t4, z_t5, z_tr, z_isb, z_isb1, z_isb2, z_isb3, z_isb4, z_isb5, z_addb, z_subb, z_nsb, z_rvt, z_rvl, z_stp, z_srl, z_srt, z_sti, z_stb, z_shl, z_ixt, z_ixl, z_ixr, z_slt, z_sll, z_lent, z_lenl, z_lenr, z_suml, z_sumt, z_maxl, z_maxt, z_minl, z_bi, z_bb, z_tul, z_tut, z_tur, z_lil, z_lit, z_all, z_max2, z_min2, z_kt, z_kl, z_cot, z_col, z_da, z_ds0, z_ds1, z_sql, z_sqt, z_isLr, z_fn, z_fb, z_fi, z_fs, sn_0, sn_1, sn_2, sn_3, sn_4, sn_5, sn_6, sn_7, sn_8, sn_9, sn_10, sn_11, sn_12, sn_13, sn_14, sn_15, sn_16, sn_17, sn_18, sn_19]
  rw [show ([PyData.int 0, .int 1] : List PyData) = ([0, 1] : List Int).map .int from rfl]
  rw [lc_map PyData.int (p := fun x => true) (f := fun j => .int (bst l j))]
  rotate_left
  · unfold szl; simp
  · intro j hj
    refine ⟨_, rfl, by simp [ex, xB_eq, ev, evs, evb, evt, evo, evi, evf, tst, K.val, Bz.isi, isOwn, post_bind, post_ok, post_lift, post_ite, post_noexc, post_nil, bind_ok, fk_nx, fk_rt, fr_nx, fr_rt, lift_some, sto, stoT, wipeS, z_add, z_adds, z_addt, z_addl, z_sub, z_mul, z_mult, z_mull, z_fdiv, z_mod, z_eq, z_ne, z_eqi, z_eqb, z_eqs, z_eqn, z_lt, z_le, z_gt, z_ge, z_is0, z_is1, z_is2, z_is3, z_is4, z_is5, z_in0, z_in1, z_in2, z_in3, z_in4, z_in5, z_inl, z_int, z_nil, z_nit, z_t0, z_t1, z_t2, z_t3, z_t4, z_t5, z_tr, z_isb, z_isb1, z_isb2, z_isb3, z_isb4, z_isb5, z_addb, z_subb, z_nsb, z_rvt, z_rvl, z_stp, z_srl, z_srt, z_sti, z_stb, z_shl, z_ixt, z_ixl, z_ixr, z_slt, z_sll, z_lent, z_lenl, z_lenr, z_suml, z_sumt, z_maxl, z_maxt, z_minl, z_bi, z_bb, z_tul, z_tut, z_tur, z_lil, z_lit, z_all, z_max2, z_min2, z_kt, z_kl, z_cot, z_col, z_da, z_ds0, z_ds1, z_sql, z_sqt, z_isLr, z_fn, z_fb, z_fi, z_fs, sn_0, sn_1, sn_2, sn_3, sn_4, sn_5, sn_6, sn_7, sn_8, sn_9, sn_10, sn_11, sn_12, sn_13, sn_14, sn_15, sn_16, sn_17, sn_18, sn_19], fun _ => ?_⟩
    refine Post.eqQ fun Q hQ => ?_
    simp [ex, xB_eq, ev, evs, evb, evt, evo, evi, evf, tst, K.val, Bz.isi, isOwn, post_bind, post_ok, post_lift, post_ite, post_noexc, post_nil, bind_ok, fk_nx, fk_rt, fr_nx, fr_rt, lift_some, sto, stoT, wipeS, z_add, z_adds, z_addt, z_addl, z_sub, z_mul, z_mult, z_mull, z_fdiv, z_mod, z_eq, z_ne, z_eqi, z_eqb, z_eqs, z_eqn, z_lt, z_le, z_gt, z_ge, z_is0, z_is1, z_is2, z_is3, z_is4, z_is5, z_in0, z_in1, z_in2, z_in3, z_in4, z_in5, z_inl, z_int, z_nil, z_nit, z_t0, z_t1, z_t2, z_t3, z_t4, z_t5, z_tr, z_isb, z_isb1, z_isb2, z_isb3, z_isb4, z_isb5, z_addb, z_subb, z_nsb, z_rvt, z_rvl, z_stp, z_srl, z_srt, z_sti, z_stb, z_shl, z_ixt, z_ixl, z_ixr, z_slt, z_sll, z_lent, z_lenl, z_lenr, z_suml, z_sumt, z_maxl, z_maxt, z_minl, z_bi, z_bb, z_tul, z_tut, z_tur, z_lil, z_lit, z_all, z_max2, z_min2, z_kt, z_kl, z_cot, z_col, z_da, z_ds0, z_ds1, z_sql, z_sqt, z_isLr, z_fn, z_fb, z_fi, z_fs, sn_0, sn_1, sn_2, sn_3, sn_4, sn_5, sn_6, sn_7, sn_8, sn_9, sn_10, sn_11, sn_12, sn_13, sn_14, sn_15, sn_16, sn_17, sn_18, sn_19]
    rw [lc_map v3E (p := fun t => decide (t.1 = j)) (f := fun t => .int t.2.1)]
    rotate_left
    · unfold szl; simp; omega
    · intro x hx
      refine ⟨_, rfl, ?_, fun _ => ?_⟩
      · simp [ex, xB_eq, ev, evs, evb, evt, evo, evi, evf, tst, K.val, Bz.isi, isOwn, post_bind, post_ok, post_lift, post_ite, post_noexc, post_nil, bind_ok, fk_nx, fk_rt, fr_nx, fr_rt, lift_some, sto, stoT, wipeS, z_add, z_adds, z_addt, z_addl, z_sub, z_mul, z_mult, z_mull, z_fdiv, z_mod, z_eq, z_ne, z_eqi, z_eqb, z_eqs, z_eqn, z_lt, z_le, z_gt, z_ge, z_is0, z_is1, z_is2, z_is3, z_is4, z_is5, z_in0, z_in1, z_in2, z_in3, z_in4, z_in5, z_inl, z_int, z_nil, z_nit, z_t0, z_t1, z_t2, z_t3, z_t4, z_t5, z_tr, z_isb, z_isb1, z_isb2, z_isb3, z_isb4, z_isb5, z_addb, z_subb, z_nsb, z_rvt, z_rvl, z_stp, z_srl, z_srt, z_sti, z_stb, z_shl, z_ixt, z_ixl, z_ixr, z_slt, z_sll, z_lent, z_lenl, z_lenr, z_suml, z_sumt, z_maxl, z_maxt, z_minl, z_bi, z_bb, z_tul, z_tut, z_tur, z_lil, z_lit, z_all, z_max2, z_min2, z_kt, z_kl, z_cot, z_col, z_da, z_ds0, z_ds1, z_sql, z_sqt, z_isLr, z_fn, z_fb, z_fi, z_fs, sn_0, sn_1, sn_2, sn_3, sn_4, sn_5, sn_6, sn_7, sn_8, sn_9, sn_10, sn_11, sn_12, sn_13, sn_14, sn_15, sn_16, sn_17, sn_18, sn_19, v3E, z_eqi]
      · simp [ex, xB_eq, ev, evs, evb, evt, evo, evi, evf, tst, K.val, Bz.isi, isOwn, post_bind, post_ok, post_lift, post_ite, post_noexc, post_nil, bind_ok, fk_nx, fk_rt, fr_nx, fr_rt, lift_some, sto, stoT, wipeS, z_add, z_adds, z_addt, z_addl, z_sub, z_mul, z_mult, z_mull, z_fdiv, z_mod, z_eq, z_ne, z_eqi, z_eqb, z_eqs, z_eqn, z_lt, z_le, z_gt, z_ge, z_is0, z_is1, z_is2, z_is3, z_is4, z_is5, z_in0, z_in1, z_in2, z_in3, z_in4, z_in5, z_inl, z_int, z_nil, z_nit, z_t0, z_t1, z_t2, z_t3, z_t4, z_t5, z_tr, z_isb, z_isb1, z_isb2, z_isb3, z_isb4, z_isb5, z_addb, z_subb, z_nsb, z_rvt, z_rvl, z_stp, z_srl, z_srt, z_sti, z_stb, z_shl, z_ixt, z_ixl, z_ixr, z_slt, z_sll, z_lent, z_lenl, z_lenr, z_suml, z_sumt, z_maxl, z_maxt, z_minl, z_bi, z_bb, z_tul, z_tut, z_tur, z_lil, z_lit, z_all, z_max2, z_min2, z_kt, z_kl, z_cot, z_col, z_da, z_ds0, z_ds1, z_sql, z_sqt, z_isLr, z_fn, z_fb, z_fi, z_fs, sn_0, sn_1, sn_2, sn_3, sn_4, sn_5, sn_6, sn_7, sn_8, sn_9, sn_10, sn_11, sn_12, sn_13, sn_14, sn_15, sn_16, sn_17, sn_18, sn_19, v3E]
    simp only [post_ok, List.nil_append]
    have hsz : 1 + ((l.filter fun t => decide (t.1 = j)).length) ≤ szl := by
      have := List.length_filter_le (fun t : Int × Int × Int => decide (t.1 = j)) l
      unfold szl; omega
    have hin : intsOf (PyData.int 0 :: (l.filter fun t => decide (t.1 = j)).map fun t => PyData.int t.2.1) = some (0 :: (l.filter fun t => decide (t.1 = j)).map fun t => t.2.1) := by
      have := ints_map (l := 0 :: (l.filter fun t => decide (t.1 = j)).map fun t => t.2.1)
      rw [List.map_cons, List.map_map] at this
      exact this
    have hsz2 : (l.filter fun t => decide (t.1 = j)).length + 1 ≤ szl := by omega
    simp [ex, xB_eq, ev, evs, evb, evt, evo, evi, evf, tst, K.val, Bz.isi, isOwn, post_bind, post_ok, post_lift, post_ite, post_noexc, post_nil, bind_ok, fk_nx, fk_rt, fr_nx, fr_rt, lift_some, sto, stoT, wipeS, z_add, z_adds, z_addt, z_addl, z_sub, z_mul, z_mult, z_mull, z_fdiv, z_mod, z_eq, z_ne, z_eqi, z_eqb, z_eqs, z_eqn, z_lt, z_le, z_gt, z_ge, z_is0, z_is1, z_is2, z_is3, z_is4, z_is5, z_in0, z_in1, z_in2, z_in3, z_in4, z_in5, z_inl, z_int, z_nil, z_nit, z_t0, z_t1, z_t2, z_t3, z_t4, z_t5, z_tr, z_isb, z_isb1, z_isb2, z_isb3, z_isb4, z_isb5, z_addb, z_subb, z_nsb, z_rvt, z_rvl, z_stp, z_srl, z_srt, z_sti, z_stb, z_shl, z_ixt, z_ixl, z_ixr, z_slt, z_sll, z_lent, z_lenl, z_lenr, z_suml, z_sumt, z_maxl, z_maxt, z_minl, z_bi, z_bb, z_tul, z_tut, z_tur, z_lil, z_lit, z_all, z_max2, z_min2, z_kt, z_kl, z_cot, z_col, z_da, z_ds0, z_ds1, z_sql, z_sqt, z_isLr, z_fn, z_fb, z_fi, z_fs, sn_0, sn_1, sn_2, sn_3, sn_4, sn_5, sn_6, sn_7, sn_8, sn_9, sn_10, sn_11, sn_12, sn_13, sn_14, sn_15, sn_16, sn_17, sn_18, sn_19, hsz, hsz2, hin]
    exact hQ
  simp only [post_ok, List.nil_append, filt_t]
  simp [ex, xB_eq, ev, evs, evb, evt, evo, evi, evf, tst, K.val, Bz.isi, isOwn, post_bind, post_ok, post_lift, post_ite, post_noexc, post_nil, bind_ok, fk_nx, fk_rt, fr_nx, fr_rt, lift_some, sto, stoT, wipeS, z_add, z_adds, z_addt, z_addl, z_sub, z_mul, z_mult, z_mull, z_fdiv, z_mod, z_eq, z_ne, z_eqi, z_eqb, z_eqs, z_eqn, z_lt, z_le, z_gt, z_ge, z_is0, z_is1, z_is2, z_is3, z_is4, z_is5, z_in0, z_in1, z_in2, z_in3, z_in4, z_in5, z_inl, z_int, z_nil, z_nit, z_t0, z_t1, z_t2, z_t3, z_t4, z_t5, z_tr, z_isb, z_isb1, z_isb2, z_isb3, z_isb4, z_isb5, z_addb, z_subb, z_nsb, z_rvt, z_rvl, z_stp, z_srl, z_srt, z_sti, z_stb, z_shl, z_ixt, z_ixl, z_ixr, z_slt, z_sll, z_lent, z_lenl, z_lenr, z_suml, z_sumt, z_maxl, z_maxt, z_minl, z_bi, z_bb, z_tul, z_tut, z_tur, z_lil, z_lit, z_all, z_max2, z_min2, z_kt, z_kl, z_cot, z_col, z_da, z_ds0, z_ds1, z_sql, z_sqt, z_isLr, z_fn, z_fb, z_fi, z_fs, sn_0, sn_1, sn_2, sn_3, sn_4, sn_5, sn_6, sn_7, sn_8, sn_9, sn_10, sn_11, sn_12, sn_13, sn_14, sn_15, sn_16, sn_17, sn_18, sn_19]
  exact hP
theorem bestGt_snoc : ∀ {m x : Int} {l : List Int}, bestGt m (l ++ [x]) = if x > bestGt m l then x else bestGt m l
  | m, x, [] => rfl
  | m, x, y :: r => by
    show bestGt _ (r ++ [x]) = _
    rw [bestGt_snoc]
    rfl
theorem bst_snoc {l : List (Int × Int × Int)} {t : Int × Int × Int} {j : Int} : bst (l ++ [t]) j = if t.1 = j then (if t.2.1 > bst l j then t.2.1 else bst l j) else bst l j := by
  unfold bst
  rw [List.filter_append, List.map_append]
  by_cases h : t.1 = j
  · simp only [List.filter_cons, h, decide_true, if_true, List.filter_nil, List.map_cons, List.map_nil]
    exact bestGt_snoc
  · simp [h]
def cntL (b : Int) (bl : List Int) : List Int := (List.range (b + 1).toNat).map fun (i : Nat) => (bl.count ((i : Int) + 1) : Int)
def fstep (bl : List Int) (p : Pl) : Dd → List Int
  | .stroke f ps off => if fair p f ps off = true then bl ++ ps else bl
  | _ => bl
def frun (b : Int) : List Dd → List Int → Fo → List Int
  | [], v, _ => v
  | d :: r, v, fo => match fo.pl with
    | none => v
    | some p => match moved b p d with
      | none => v
      | some f2 => frun b r (fstep v p d) f2
def falV (a b player : Int) (ds : List Dd) : List Int := frun b ds [] (begin0 a player)
theorem frun_snoc {b : Int} {d : Dd} : ∀ {ds : List Dd} {v : List Int} {fo f1 f2 : Fo} {p : Pl}, ds.foldlM (step b) fo = some f1 → f1.pl = some p → moved b p d = some f2 → frun b (ds ++ [d]) v fo = fstep (frun b ds v fo) p d
  | [], v, fo, f1, f2, p, e, hp, hm => by
    cases e
    show frun b [d] v fo = fstep v p d
    unfold frun
    rw [hp]
    simp only [hm]
    rfl
  | c :: r, v, fo, f1, f2, p, e, hp, hm => by
    rw [List.foldlM_cons] at e
    cases h1 : step b fo c with
    | none => rw [h1] at e; cases e
    | some g =>
      rw [h1] at e
      have e : r.foldlM (step b) g = some f1 := e
      unfold step at h1
      cases h2 : fo.pl with
      | none => rw [h2] at h1; cases h1
      | some q =>
        rw [h2] at h1
        have h1 : moved b q c = some g := h1
        show frun b (c :: (r ++ [d])) v fo = fstep (frun b (c :: r) v fo) p d
        unfold frun
        rw [h2]
        simp only [h1]
        exact frun_snoc e hp hm
theorem fal_snoc {a b player : Int} {ds : List Dd} {f1 f2 : Fo} {p : Pl} {d : Dd} (h : led a b player ds = some f1) (hp : f1.pl = some p) (hm : moved b p d = some f2) : falV a b player (ds ++ [d]) = fstep (falV a b player ds) p d := frun_snoc h hp hm
theorem cntL_at {b : Int} {bl : List Int} {x : Int} (h : 1 ≤ x ∧ x ≤ b + 1) : L2.ixN ((cntL b bl).map PyData.int).length (x - 1) = some (x - 1).toNat ∧ L2.atI ((cntL b bl).map PyData.int) (x - 1) = some (.int (bl.count x)) := by
  have hlen : ((cntL b bl).map PyData.int).length = (b + 1).toNat := by simp [cntL]
  have h1 : L2.ixN ((cntL b bl).map PyData.int).length (x - 1) = some (x - 1).toNat := by
    rw [hlen]
    unfold L2.ixN
    rw [if_pos (by omega)]
    try rw [if_pos (by omega)]
  refine ⟨h1, ?_⟩
  unfold L2.atI
  rw [h1]
  show ((cntL b bl).map PyData.int)[(x - 1).toNat]? = _
  unfold cntL
  rw [List.getElem?_map, List.getElem?_map, List.getElem?_range (by omega)]
  simp only [Option.map_some, Option.some.injEq, PyData.int.injEq]
  rw [show (((x - 1).toNat : Nat) : Int) + 1 = x by omega]
theorem cntL_set {b : Int} {bl : List Int} {x : Int} (h : 1 ≤ x ∧ x ≤ b + 1) : ((cntL b bl).map PyData.int).set (x - 1).toNat (.int ((bl.count x : Int) + 1)) = (cntL b (bl ++ [x])).map .int := by
  refine List.ext_getElem? fun j => ?_
  by_cases hj : (x - 1).toNat = j
  · subst hj
    rw [List.getElem?_set_self (by simp [cntL]; omega)]
    unfold cntL
    rw [List.getElem?_map, List.getElem?_map, List.getElem?_range (by omega)]
    simp only [Option.map_some, Option.some.injEq, PyData.int.injEq]
    rw [show (((x - 1).toNat : Nat) : Int) + 1 = x by omega, List.count_append, List.count_singleton_self]
    omega
  · rw [List.getElem?_set_ne hj]
    unfold cntL
    rw [List.getElem?_map, List.getElem?_map, List.getElem?_map, List.getElem?_map]
    by_cases hr : j < (b + 1).toNat
    · rw [List.getElem?_range hr]
      simp only [Option.map_some, Option.some.injEq, PyData.int.injEq]
      rw [List.count_append]
      have : [x].count ((j : Int) + 1) = 0 := by rw [List.count_eq_zero]; simp; omega
      omega
    · rw [List.getElem?_eq_none (by simp; omega)]
      rfl
def If (st : Stt) (a b player : Int) (ds : List Dd) (i : Nat) (env : List Sl) (s : Stt) : Prop := s = st ∧ ∃ f1 s4 s5, led a b player (ds.take i) = some f1 ∧ env = [.v (ru a b), .v (.d (frE player ds)), .own ((cntL b (falV a b player (ds.take i))).map .int), .v (.d (oP f1.pl)), s4, s5]
theorem cntL_nil {b : Int} : (cntL b []).map PyData.int = rep [.int 0] (b + 1) := by
  rw [rep_one]
  unfold cntL
  rw [List.map_map]
  refine List.ext_getElem? fun j => ?_
  by_cases hr : j < (b + 1).toNat
  · rw [List.getElem?_map, List.getElem?_range hr, List.getElem?_replicate, if_pos hr]
    simp
  · rw [List.getElem?_eq_none (by simp; omega), List.getElem?_eq_none (by simp; omega)]
theorem fallen_ok {k : Nat} {a b player : Int} {ds : List Dd} {fo : Fo} {st : Stt} (ha : 1 ≤ a ∧ a ≤ 1000) (hb : 1 ≤ b ∧ b ≤ 900) (hf : FrOk a b player ds fo) : rn Gm (k + 6) 44 [ru a b, .d (frE player ds)] st = .ok (.d (.tuple ((cntL b (falV a b player ds)).map .int))) st := by
  refine Post.eqQ fun P hP => ?_
  rw [run_at (d := ⟨6, 2, b_fallen⟩) rfl]
  rw [post_runB]
  refine ⟨rfl, ?_⟩
  have hfp : ∀ st, rn Gm (k + 5) 31 [ru a b, .d (.int player)] st = .ok (.d (oP (begin0 a player).pl)) st := fun st => firstp_ok (k := k + 4)
  have r1 : -1000 ≤ b + 1 := by omega
  have r2 : b + 1 ≤ 1000 := by omega
  simp only [b_fallen, post_cons]
  simp [ex, xB_eq, ev, evs, evb, evt, evo, evi, evf, tst, K.val, Bz.isi, isOwn, post_bind, post_ok, post_lift, post_ite, post_noexc, post_nil, bind_ok, fk_nx, fk_rt, fr_nx, fr_rt, lift_some, sto, stoT, wipeS, z_add, z_adds, z_addt, z_addl, z_sub, z_mul, z_mult, z_mull, z_fdiv, z_mod, z_eq, z_ne, z_eqi, z_eqb, z_eqs, z_eqn, z_lt, z_le, z_gt, z_ge, z_is0, z_is1, z_is2, z_is3, z_is4, z_is5, z_in0, z_in1, z_in2, z_in3, z_in4, z_in5, z_inl, z_int, z_nil, z_nit, z_t0, z_t1, z_t2, z_t3, z_t4, z_t5, z_tr, z_isb, z_isb1, z_isb2, z_isb3, z_isb4, z_isb5, z_addb, z_subb, z_nsb, z_rvt, z_rvl, z_stp, z_srl, z_srt, z_sti, z_stb, z_shl, z_ixt, z_ixl, z_ixr, z_slt, z_sll, z_lent, z_lenl, z_lenr, z_suml, z_sumt, z_maxl, z_maxt, z_minl, z_bi, z_bb, z_tul, z_tut, z_tur, z_lil, z_lit, z_all, z_max2, z_min2, z_kt, z_kl, z_cot, z_col, z_da, z_ds0, z_ds1, z_sql, z_sqt, z_isLr, z_fn, z_fb, z_fi, z_fs, sn_0, sn_1, sn_2, sn_3, sn_4, sn_5, sn_6, sn_7, sn_8, sn_9, sn_10, sn_11, sn_12, sn_13, sn_14, sn_15, sn_16, sn_17, sn_18, sn_19, top_ok, r1, r2]
  rw [← cntL_nil]
  simp only [q_fallen8, post_cons]
  simp [ex, xB_eq, ev, evs, evb, evt, evo, evi, evf, tst, K.val, Bz.isi, isOwn, post_bind, post_ok, post_lift, post_ite, post_noexc, post_nil, bind_ok, fk_nx, fk_rt, fr_nx, fr_rt, lift_some, sto, stoT, wipeS, z_add, z_adds, z_addt, z_addl, z_sub, z_mul, z_mult, z_mull, z_fdiv, z_mod, z_eq, z_ne, z_eqi, z_eqb, z_eqs, z_eqn, z_lt, z_le, z_gt, z_ge, z_is0, z_is1, z_is2, z_is3, z_is4, z_is5, z_in0, z_in1, z_in2, z_in3, z_in4, z_in5, z_inl, z_int, z_nil, z_nit, z_t0, z_t1, z_t2, z_t3, z_t4, z_t5, z_tr, z_isb, z_isb1, z_isb2, z_isb3, z_isb4, z_isb5, z_addb, z_subb, z_nsb, z_rvt, z_rvl, z_stp, z_srl, z_srt, z_sti, z_stb, z_shl, z_ixt, z_ixl, z_ixr, z_slt, z_sll, z_lent, z_lenl, z_lenr, z_suml, z_sumt, z_maxl, z_maxt, z_minl, z_bi, z_bb, z_tul, z_tut, z_tur, z_lil, z_lit, z_all, z_max2, z_min2, z_kt, z_kl, z_cot, z_col, z_da, z_ds0, z_ds1, z_sql, z_sqt, z_isLr, z_fn, z_fb, z_fi, z_fs, sn_0, sn_1, sn_2, sn_3, sn_4, sn_5, sn_6, sn_7, sn_8, sn_9, sn_10, sn_11, sn_12, sn_13, sn_14, sn_15, sn_16, sn_17, sn_18, sn_19, fr_i0, hfp]
  simp only [q_fallen7, post_cons]
  simp [ex, xB_eq, ev, evs, evb, evt, evo, evi, evf, tst, K.val, Bz.isi, isOwn, post_bind, post_ok, post_lift, post_ite, post_noexc, post_nil, bind_ok, fk_nx, fk_rt, fr_nx, fr_rt, lift_some, sto, stoT, wipeS, z_add, z_adds, z_addt, z_addl, z_sub, z_mul, z_mult, z_mull, z_fdiv, z_mod, z_eq, z_ne, z_eqi, z_eqb, z_eqs, z_eqn, z_lt, z_le, z_gt, z_ge, z_is0, z_is1, z_is2, z_is3, z_is4, z_is5, z_in0, z_in1, z_in2, z_in3, z_in4, z_in5, z_inl, z_int, z_nil, z_nit, z_t0, z_t1, z_t2, z_t3, z_t4, z_t5, z_tr, z_isb, z_isb1, z_isb2, z_isb3, z_isb4, z_isb5, z_addb, z_subb, z_nsb, z_rvt, z_rvl, z_stp, z_srl, z_srt, z_sti, z_stb, z_shl, z_ixt, z_ixl, z_ixr, z_slt, z_sll, z_lent, z_lenl, z_lenr, z_suml, z_sumt, z_maxl, z_maxt, z_minl, z_bi, z_bb, z_tul, z_tut, z_tur, z_lil, z_lit, z_all, z_max2, z_min2, z_kt, z_kl, z_cot, z_col, z_da, z_ds0, z_ds1, z_sql, z_sqt, z_isLr, z_fn, z_fb, z_fi, z_fs, sn_0, sn_1, sn_2, sn_3, sn_4, sn_5, sn_6, sn_7, sn_8, sn_9, sn_10, sn_11, sn_12, sn_13, sn_14, sn_15, sn_16, sn_17, sn_18, sn_19, fr_i1]
  refine for_post (If st a b player ds) _ 0 ⟨rfl, begin0 a player, _, _, rfl, rfl⟩ ?_ ?_
  · rintro i x env s hx ⟨rfl, f1, s4, s5, h1, rfl⟩
    rw [Nat.zero_add] at *
    rw [List.getElem?_map, Option.map_eq_some_iff] at hx
    obtain ⟨d, hx, rfl⟩ := hx
    obtain ⟨g1, p, f2, q1, q2, q3, q4⟩ := led_next hf.led hx
    rw [h1] at q1
    cases q1
    have hpo := led_ok ha.1 hb.1 hf.pl h1 p q2
    have hd := hf.ok d (List.mem_of_getElem? hx)
    have hbh := fun st => behind_ok (k := k) (st := st) hpo hd hb.1 q3
    have htk : ds.take (i + 1) = ds.take i ++ [d] := by rw [List.take_succ, hx]; rfl
    have hvs := fal_snoc h1 q2 q3
    rw [← htk] at hvs
    have fin : ∀ (v : List Int) (s5 : Sl), v = fstep (falV a b player (ds.take i)) p d → Post (xB (rn Gm (k + 5)) q_fallen3 [.v (ru a b), .v (.d (frE player ds)), .own ((cntL b v).map .int), .v (.d p.e), .v (.d d.e), s5] s) fun fl s' => match fl with | .nx e2 => If s a b player ds (i + 1) e2 s' | .rt v => Fk (xB (rn Gm (k + 5)) q_fallen6) (Fr P) (.rt v) s' := by
      intro v s5 hv
      simp only [q_fallen3, post_cons]
      simp [ex, xB_eq, ev, evs, evb, evt, evo, evi, evf, tst, K.val, Bz.isi, isOwn, post_bind, post_ok, post_lift, post_ite, post_noexc, post_nil, bind_ok, fk_nx, fk_rt, fr_nx, fr_rt, lift_some, sto, stoT, wipeS, z_add, z_adds, z_addt, z_addl, z_sub, z_mul, z_mult, z_mull, z_fdiv, z_mod, z_eq, z_ne, z_eqi, z_eqb, z_eqs, z_eqn, z_lt, z_le, z_gt, z_ge, z_is0, z_is1, z_is2, z_is3, z_is4, z_is5, z_in0, z_in1, z_in2, z_in3, z_in4, z_in5, z_inl, z_int, z_nil, z_nit, z_t0, z_t1, z_t2, z_t3, z_t4, z_t5, z_tr, z_isb, z_isb1, z_isb2, z_isb3, z_isb4, z_isb5, z_addb, z_subb, z_nsb, z_rvt, z_rvl, z_stp, z_srl, z_srt, z_sti, z_stb, z_shl, z_ixt, z_ixl, z_ixr, z_slt, z_sll, z_lent, z_lenl, z_lenr, z_suml, z_sumt, z_maxl, z_maxt, z_minl, z_bi, z_bb, z_tul, z_tut, z_tur, z_lil, z_lit, z_all, z_max2, z_min2, z_kt, z_kl, z_cot, z_col, z_da, z_ds0, z_ds1, z_sql, z_sqt, z_isLr, z_fn, z_fb, z_fi, z_fs, sn_0, sn_1, sn_2, sn_3, sn_4, sn_5, sn_6, sn_7, sn_8, sn_9, sn_10, sn_11, sn_12, sn_13, sn_14, sn_15, sn_16, sn_17, sn_18, sn_19, hbh, fo_i0]
      rw [hv, ← hvs]
      exact ⟨rfl, f2, _, _, q4, rfl⟩
    generalize falV a b player (ds.take i) = v0 at *
    refine ⟨_, rfl, ?_⟩
    rw [q2, oP_some]
    cases d with
    | give =>
      simp only [q_fallen4, post_cons]
      simp [ex, xB_eq, ev, evs, evb, evt, evo, evi, evf, tst, K.val, Bz.isi, isOwn, post_bind, post_ok, post_lift, post_ite, post_noexc, post_nil, bind_ok, fk_nx, fk_rt, fr_nx, fr_rt, lift_some, sto, stoT, wipeS, z_add, z_adds, z_addt, z_addl, z_sub, z_mul, z_mult, z_mull, z_fdiv, z_mod, z_eq, z_ne, z_eqi, z_eqb, z_eqs, z_eqn, z_lt, z_le, z_gt, z_ge, z_is0, z_is1, z_is2, z_is3, z_is4, z_is5, z_in0, z_in1, z_in2, z_in3, z_in4, z_in5, z_inl, z_int, z_nil, z_nit, z_t0, z_t1, z_t2, z_t3, z_t4, z_t5, z_tr, z_isb, z_isb1, z_isb2, z_isb3, z_isb4, z_isb5, z_addb, z_subb, z_nsb, z_rvt, z_rvl, z_stp, z_srl, z_srt, z_sti, z_stb, z_shl, z_ixt, z_ixl, z_ixr, z_slt, z_sll, z_lent, z_lenl, z_lenr, z_suml, z_sumt, z_maxl, z_maxt, z_minl, z_bi, z_bb, z_tul, z_tut, z_tur, z_lil, z_lit, z_all, z_max2, z_min2, z_kt, z_kl, z_cot, z_col, z_da, z_ds0, z_ds1, z_sql, z_sqt, z_isLr, z_fn, z_fb, z_fi, z_fs, sn_0, sn_1, sn_2, sn_3, sn_4, sn_5, sn_6, sn_7, sn_8, sn_9, sn_10, sn_11, sn_12, sn_13, sn_14, sn_15, sn_16, sn_17, sn_18, sn_19, dd_i0g]
      exact fin v0 s5 rfl
    | free =>
      simp only [q_fallen4, post_cons]
      simp [ex, xB_eq, ev, evs, evb, evt, evo, evi, evf, tst, K.val, Bz.isi, isOwn, post_bind, post_ok, post_lift, post_ite, post_noexc, post_nil, bind_ok, fk_nx, fk_rt, fr_nx, fr_rt, lift_some, sto, stoT, wipeS, z_add, z_adds, z_addt, z_addl, z_sub, z_mul, z_mult, z_mull, z_fdiv, z_mod, z_eq, z_ne, z_eqi, z_eqb, z_eqs, z_eqn, z_lt, z_le, z_gt, z_ge, z_is0, z_is1, z_is2, z_is3, z_is4, z_is5, z_in0, z_in1, z_in2, z_in3, z_in4, z_in5, z_inl, z_int, z_nil, z_nit, z_t0, z_t1, z_t2, z_t3, z_t4, z_t5, z_tr, z_isb, z_isb1, z_isb2, z_isb3, z_isb4, z_isb5, z_addb, z_subb, z_nsb, z_rvt, z_rvl, z_stp, z_srl, z_srt, z_sti, z_stb, z_shl, z_ixt, z_ixl, z_ixr, z_slt, z_sll, z_lent, z_lenl, z_lenr, z_suml, z_sumt, z_maxl, z_maxt, z_minl, z_bi, z_bb, z_tul, z_tut, z_tur, z_lil, z_lit, z_all, z_max2, z_min2, z_kt, z_kl, z_cot, z_col, z_da, z_ds0, z_ds1, z_sql, z_sqt, z_isLr, z_fn, z_fb, z_fi, z_fs, sn_0, sn_1, sn_2, sn_3, sn_4, sn_5, sn_6, sn_7, sn_8, sn_9, sn_10, sn_11, sn_12, sn_13, sn_14, sn_15, sn_16, sn_17, sn_18, sn_19, dd_i0f]
      exact fin v0 s5 rfl
    | pass =>
      simp only [q_fallen4, post_cons]
      simp [ex, xB_eq, ev, evs, evb, evt, evo, evi, evf, tst, K.val, Bz.isi, isOwn, post_bind, post_ok, post_lift, post_ite, post_noexc, post_nil, bind_ok, fk_nx, fk_rt, fr_nx, fr_rt, lift_some, sto, stoT, wipeS, z_add, z_adds, z_addt, z_addl, z_sub, z_mul, z_mult, z_mull, z_fdiv, z_mod, z_eq, z_ne, z_eqi, z_eqb, z_eqs, z_eqn, z_lt, z_le, z_gt, z_ge, z_is0, z_is1, z_is2, z_is3, z_is4, z_is5, z_in0, z_in1, z_in2, z_in3, z_in4, z_in5, z_inl, z_int, z_nil, z_nit, z_t0, z_t1, z_t2, z_t3, z_t4, z_t5, z_tr, z_isb, z_isb1, z_isb2, z_isb3, z_isb4, z_isb5, z_addb, z_subb, z_nsb, z_rvt, z_rvl, z_stp, z_srl, z_srt, z_sti, z_stb, z_shl, z_ixt, z_ixl, z_ixr, z_slt, z_sll, z_lent, z_lenl, z_lenr, z_suml, z_sumt, z_maxl, z_maxt, z_minl, z_bi, z_bb, z_tul, z_tut, z_tur, z_lil, z_lit, z_all, z_max2, z_min2, z_kt, z_kl, z_cot, z_col, z_da, z_ds0, z_ds1, z_sql, z_sqt, z_isLr, z_fn, z_fb, z_fi, z_fs, sn_0, sn_1, sn_2, sn_3, sn_4, sn_5, sn_6, sn_7, sn_8, sn_9, sn_10, sn_11, sn_12, sn_13, sn_14, sn_15, sn_16, sn_17, sn_18, sn_19, dd_i0p]
      exact fin v0 s5 rfl
    | stroke f ps off =>
      have hlen : ps.length ≤ 1000 := by have := hd.len; omega
      have hfa := fun st => fair_ok (k := k + 3) (p := p) (f := f) (ps := ps) (off := off) (st := st) hlen
      cases hff : fair p f ps off with
      | false =>
        rw [hff] at hfa
        simp only [q_fallen4, post_cons]
        simp [ex, xB_eq, ev, evs, evb, evt, evo, evi, evf, tst, K.val, Bz.isi, isOwn, post_bind, post_ok, post_lift, post_ite, post_noexc, post_nil, bind_ok, fk_nx, fk_rt, fr_nx, fr_rt, lift_some, sto, stoT, wipeS, z_add, z_adds, z_addt, z_addl, z_sub, z_mul, z_mult, z_mull, z_fdiv, z_mod, z_eq, z_ne, z_eqi, z_eqb, z_eqs, z_eqn, z_lt, z_le, z_gt, z_ge, z_is0, z_is1, z_is2, z_is3, z_is4, z_is5, z_in0, z_in1, z_in2, z_in3, z_in4, z_in5, z_inl, z_int, z_nil, z_nit, z_t0, z_t1, z_t2, z_t3, z_t4, z_t5, z_tr, z_isb, z_isb1, z_isb2, z_isb3, z_isb4, z_isb5, z_addb, z_subb, z_nsb, z_rvt, z_rvl, z_stp, z_srl, z_srt, z_sti, z_stb, z_shl, z_ixt, z_ixl, z_ixr, z_slt, z_sll, z_lent, z_lenl, z_lenr, z_suml, z_sumt, z_maxl, z_maxt, z_minl, z_bi, z_bb, z_tul, z_tut, z_tur, z_lil, z_lit, z_all, z_max2, z_min2, z_kt, z_kl, z_cot, z_col, z_da, z_ds0, z_ds1, z_sql, z_sqt, z_isLr, z_fn, z_fb, z_fi, z_fs, sn_0, sn_1, sn_2, sn_3, sn_4, sn_5, sn_6, sn_7, sn_8, sn_9, sn_10, sn_11, sn_12, sn_13, sn_14, sn_15, sn_16, sn_17, sn_18, sn_19, dd_i0s, dd_s1, hfa]
        exact fin v0 s5 (by simp [fstep, hff])
      | true =>
        rw [hff] at hfa
        simp only [q_fallen4, post_cons]
        simp [ex, xB_eq, ev, evs, evb, evt, evo, evi, evf, tst, K.val, Bz.isi, isOwn, post_bind, post_ok, post_lift, post_ite, post_noexc, post_nil, bind_ok, fk_nx, fk_rt, fr_nx, fr_rt, lift_some, sto, stoT, wipeS, z_add, z_adds, z_addt, z_addl, z_sub, z_mul, z_mult, z_mull, z_fdiv, z_mod, z_eq, z_ne, z_eqi, z_eqb, z_eqs, z_eqn, z_lt, z_le, z_gt, z_ge, z_is0, z_is1, z_is2, z_is3, z_is4, z_is5, z_in0, z_in1, z_in2, z_in3, z_in4, z_in5, z_inl, z_int, z_nil, z_nit, z_t0, z_t1, z_t2, z_t3, z_t4, z_t5, z_tr, z_isb, z_isb1, z_isb2, z_isb3, z_isb4, z_isb5, z_addb, z_subb, z_nsb, z_rvt, z_rvl, z_stp, z_srl, z_srt, z_sti, z_stb, z_shl, z_ixt, z_ixl, z_ixr, z_slt, z_sll, z_lent, z_lenl, z_lenr, z_suml, z_sumt, z_maxl, z_maxt, z_minl, z_bi, z_bb, z_tul, z_tut, z_tur, z_lil, z_lit, z_all, z_max2, z_min2, z_kt, z_kl, z_cot, z_col, z_da, z_ds0, z_ds1, z_sql, z_sqt, z_isLr, z_fn, z_fb, z_fi, z_fs, sn_0, sn_1, sn_2, sn_3, sn_4, sn_5, sn_6, sn_7, sn_8, sn_9, sn_10, sn_11, sn_12, sn_13, sn_14, sn_15, sn_16, sn_17, sn_18, sn_19, dd_i0s, dd_s1, hfa]
        simp only [q_fallen2, post_cons]
        simp [ex, xB_eq, ev, evs, evb, evt, evo, evi, evf, tst, K.val, Bz.isi, isOwn, post_bind, post_ok, post_lift, post_ite, post_noexc, post_nil, bind_ok, fk_nx, fk_rt, fr_nx, fr_rt, lift_some, sto, stoT, wipeS, z_add, z_adds, z_addt, z_addl, z_sub, z_mul, z_mult, z_mull, z_fdiv, z_mod, z_eq, z_ne, z_eqi, z_eqb, z_eqs, z_eqn, z_lt, z_le, z_gt, z_ge, z_is0, z_is1, z_is2, z_is3, z_is4, z_is5, z_in0, z_in1, z_in2, z_in3, z_in4, z_in5, z_inl, z_int, z_nil, z_nit, z_t0, z_t1, z_t2, z_t3, z_t4, z_t5, z_tr, z_isb, z_isb1, z_isb2, z_isb3, z_isb4, z_isb5, z_addb, z_subb, z_nsb, z_rvt, z_rvl, z_stp, z_srl, z_srt, z_sti, z_stb, z_shl, z_ixt, z_ixl, z_ixr, z_slt, z_sll, z_lent, z_lenl, z_lenr, z_suml, z_sumt, z_maxl, z_maxt, z_minl, z_bi, z_bb, z_tul, z_tut, z_tur, z_lil, z_lit, z_all, z_max2, z_min2, z_kt, z_kl, z_cot, z_col, z_da, z_ds0, z_ds1, z_sql, z_sqt, z_isLr, z_fn, z_fb, z_fi, z_fs, sn_0, sn_1, sn_2, sn_3, sn_4, sn_5, sn_6, sn_7, sn_8, sn_9, sn_10, sn_11, sn_12, sn_13, sn_14, sn_15, sn_16, sn_17, sn_18, sn_19, dd_i2]
        refine for_post (fun j env s' => s' = s ∧ ∃ s5, env = [.v (ru a b), .v (.d (frE player ds)), .own ((cntL b (v0 ++ ps.take j)).map .int), .v (.d p.e), .v (.d (Dd.e (.stroke f ps off))), s5]) _ 0 ⟨rfl, s5, by simp⟩ ?_ ?_
        · rintro j y env s' hy ⟨rfl, t5, rfl⟩
          rw [Nat.zero_add] at *
          rw [List.getElem?_map, Option.map_eq_some_iff] at hy
          obtain ⟨z, hz, rfl⟩ := hy
          have hzm := hd.mem z (List.mem_of_getElem? hz)
          refine ⟨_, rfl, ?_⟩
          have htj : v0 ++ ps.take (j + 1) = v0 ++ ps.take j ++ [z] := by rw [List.take_succ, hz, List.append_assoc]; rfl
          rw [htj]
          generalize v0 ++ ps.take j = w
          obtain ⟨c1, c2⟩ := cntL_at (bl := w) hzm
          have c3 := cntL_set (bl := w) hzm
          rw [List.length_map] at c1
          simp only [q_fallen1, post_cons]
          simp [ex, xB_eq, ev, evs, evb, evt, evo, evi, evf, tst, K.val, Bz.isi, isOwn, post_bind, post_ok, post_lift, post_ite, post_noexc, post_nil, bind_ok, fk_nx, fk_rt, fr_nx, fr_rt, lift_some, sto, stoT, wipeS, z_add, z_adds, z_addt, z_addl, z_sub, z_mul, z_mult, z_mull, z_fdiv, z_mod, z_eq, z_ne, z_eqi, z_eqb, z_eqs, z_eqn, z_lt, z_le, z_gt, z_ge, z_is0, z_is1, z_is2, z_is3, z_is4, z_is5, z_in0, z_in1, z_in2, z_in3, z_in4, z_in5, z_inl, z_int, z_nil, z_nit, z_t0, z_t1, z_t2, z_t3, z_t4, z_t5, z_tr, z_isb, z_isb1, z_isb2, z_isb3, z_isb4, z_isb5, z_addb, z_subb, z_nsb, z_rvt, z_rvl, z_stp, z_srl, z_srt, z_sti, z_stb, z_shl, z_ixt, z_ixl, z_ixr, z_slt, z_sll, z_lent, z_lenl, z_lenr, z_suml, z_sumt, z_maxl, z_maxt, z_minl, z_bi, z_bb, z_tul, z_tut, z_tur, z_lil, z_lit, z_all, z_max2, z_min2, z_kt, z_kl, z_cot, z_col, z_da, z_ds0, z_ds1, z_sql, z_sqt, z_isLr, z_fn, z_fb, z_fi, z_fs, sn_0, sn_1, sn_2, sn_3, sn_4, sn_5, sn_6, sn_7, sn_8, sn_9, sn_10, sn_11, sn_12, sn_13, sn_14, sn_15, sn_16, sn_17, sn_18, sn_19, c2, c1, c3]
          rw [show z.toNat - 1 = (z - 1).toNat by omega]
          exact c3
        · rintro env s' ⟨rfl, t5, rfl⟩
          rw [Nat.zero_add, List.length_map, List.take_length, fk_nx, post_nil]
          rw [fk_nx]
          exact fin (v0 ++ ps) t5 (by simp [fstep, hff])
  · rintro env s ⟨rfl, f1, s4, s5, h1, rfl⟩
    rw [fk_nx, Nat.zero_add, List.length_map, List.take_length]
    simp only [q_fallen6, post_cons]
    simp [ex, xB_eq, ev, evs, evb, evt, evo, evi, evf, tst, K.val, Bz.isi, isOwn, post_bind, post_ok, post_lift, post_ite, post_noexc, post_nil, bind_ok, fk_nx, fk_rt, fr_nx, fr_rt, lift_some, sto, stoT, wipeS, z_add, z_adds, z_addt, z_addl, z_sub, z_mul, z_mult, z_mull, z_fdiv, z_mod, z_eq, z_ne, z_eqi, z_eqb, z_eqs, z_eqn, z_lt, z_le, z_gt, z_ge, z_is0, z_is1, z_is2, z_is3, z_is4, z_is5, z_in0, z_in1, z_in2, z_in3, z_in4, z_in5, z_inl, z_int, z_nil, z_nit, z_t0, z_t1, z_t2, z_t3, z_t4, z_t5, z_tr, z_isb, z_isb1, z_isb2, z_isb3, z_isb4, z_isb5, z_addb, z_subb, z_nsb, z_rvt, z_rvl, z_stp, z_srl, z_srt, z_sti, z_stb, z_shl, z_ixt, z_ixl, z_ixr, z_slt, z_sll, z_lent, z_lenl, z_lenr, z_suml, z_sumt, z_maxl, z_maxt, z_minl, z_bi, z_bb, z_tul, z_tut, z_tur, z_lil, z_lit, z_all, z_max2, z_min2, z_kt, z_kl, z_cot, z_col, z_da, z_ds0, z_ds1, z_sql, z_sqt, z_isLr, z_fn, z_fb, z_fi, z_fs, sn_0, sn_1, sn_2, sn_3, sn_4, sn_5, sn_6, sn_7, sn_8, sn_9, sn_10, sn_11, sn_12, sn_13, sn_14, sn_15, sn_16, sn_17, sn_18, sn_19]
    simp only [q_fallen5, post_cons]
    simp [ex, xB_eq, ev, evs, evb, evt, evo, evi, evf, tst, K.val, Bz.isi, isOwn, post_bind, post_ok, post_lift, post_ite, post_noexc, post_nil, bind_ok, fk_nx, fk_rt, fr_nx, fr_rt, lift_some, sto, stoT, wipeS, z_add, z_adds, z_addt, z_addl, z_sub, z_mul, z_mult, z_mull, z_fdiv, z_mod, z_eq, z_ne, z_eqi, z_eqb, z_eqs, z_eqn, z_lt, z_le, z_gt, z_ge, z_is0, z_is1, z_is2, z_is3, z_is4, z_is5, z_in0, z_in1, z_in2, z_in3, z_in4, z_in5, z_inl, z_int, z_nil, z_nit, z_t0, z_t1, z_t2, z_t3, z_t4, z_t5, z_tr, z_isb, z_isb1, z_isb2, z_isb3, z_isb4, z_isb5, z_addb, z_subb, z_nsb, z_rvt, z_rvl, z_stp, z_srl, z_srt, z_sti, z_stb, z_shl, z_ixt, z_ixl, z_ixr, z_slt, z_sll, z_lent, z_lenl, z_lenr, z_suml, z_sumt, z_maxl, z_maxt, z_minl, z_bi, z_bb, z_tul, z_tut, z_tur, z_lil, z_lit, z_all, z_max2, z_min2, z_kt, z_kl, z_cot, z_col, z_da, z_ds0, z_ds1, z_sql, z_sqt, z_isLr, z_fn, z_fb, z_fi, z_fs, sn_0, sn_1, sn_2, sn_3, sn_4, sn_5, sn_6, sn_7, sn_8, sn_9, sn_10, sn_11, sn_12, sn_13, sn_14, sn_15, sn_16, sn_17, sn_18, sn_19]
    exact hP
structure Gf where
  c0 : Int
  l0 : Int
  c1 : Int
  l1 : Int
def gadd (v : Gf) (up g : Int) : Gf := if up = 0 then { v with c0 := v.c0 + (if 0 < g then 1 else 0), l0 := v.l0 + g } else { v with c1 := v.c1 + (if 0 < g then 1 else 0), l1 := v.l1 + g }
def gstep (v : Gf) (p : Pl) : Dd → Gf
  | .stroke f ps off => gadd v p.up (jd p f ps off).2
  | _ => v
def grun (b : Int) : List Dd → Gf → Fo → Gf
  | [], v, _ => v
  | d :: r, v, fo => match fo.pl with
    | none => v
    | some p => match moved b p d with
      | none => v
      | some f2 => grun b r (gstep v p d) f2
def fouV (a b player : Int) (ds : List Dd) : Gf := grun b ds ⟨0, 0, 0, 0⟩ (begin0 a player)
theorem grun_snoc {b : Int} {d : Dd} : ∀ {ds : List Dd} {v : Gf} {fo f1 f2 : Fo} {p : Pl}, ds.foldlM (step b) fo = some f1 → f1.pl = some p → moved b p d = some f2 → grun b (ds ++ [d]) v fo = gstep (grun b ds v fo) p d
  | [], v, fo, f1, f2, p, e, hp, hm => by
    cases e
    show grun b [d] v fo = gstep v p d
    unfold grun
    rw [hp]
    simp only [hm]
    rfl
  | c :: r, v, fo, f1, f2, p, e, hp, hm => by
    rw [List.foldlM_cons] at e
    cases h1 : step b fo c with
    | none => rw [h1] at e; cases e
    | some g =>
      rw [h1] at e
      have e : r.foldlM (step b) g = some f1 := e
      unfold step at h1
      cases h2 : fo.pl with
      | none => rw [h2] at h1; cases h1
      | some q =>
        rw [h2] at h1
        have h1 : moved b q c = some g := h1
        show grun b (c :: (r ++ [d])) v fo = gstep (grun b (c :: r) v fo) p d
        unfold grun
        rw [h2]
        simp only [h1]
        exact grun_snoc e hp hm
theorem fou_snoc {a b player : Int} {ds : List Dd} {f1 f2 : Fo} {p : Pl} {d : Dd} (h : led a b player ds = some f1) (hp : f1.pl = some p) (hm : moved b p d = some f2) : fouV a b player (ds ++ [d]) = gstep (fouV a b player ds) p d := grun_snoc h hp hm
def stF (st : Stt) (v : Gf) : Stt := st ++ [.lst [.int v.c0, .int v.l0], .lst [.int v.c1, .int v.l1], .nest [st.length, st.length + 1]]
section
variable {st : Stt} {v : Gf} {x : PyData} {i : Int}
theorem sf_n : st ++ [.lst [.int 0, .int 0], .lst [.int 0, .int 0], .nest [st.length, st.length + 1]] = stF st ⟨0, 0, 0, 0⟩ := rfl
theorem sf_g0 : (stF st v)[st.length]? = some (.lst [.int v.c0, .int v.l0]) := by unfold stF; simp
theorem sf_g1 : (stF st v)[st.length + 1]? = some (.lst [.int v.c1, .int v.l1]) := by unfold stF; simp
theorem sf_g2 : (stF st v)[st.length + 2]? = some (.nest [st.length, st.length + 1]) := by unfold stF; simp
theorem sf_s0 {y z : Int} : (stF st v).set st.length (.lst [.int y, .int z]) = stF st { v with c0 := y, l0 := z } := by unfold stF; simp
theorem sf_s1 {y z : Int} : (stF st v).set (st.length + 1) (.lst [.int y, .int z]) = stF st { v with c1 := y, l1 := z } := by unfold stF; simp
end
def Ig (st : Stt) (a b player : Int) (ds : List Dd) (i : Nat) (env : List Sl) (s : Stt) : Prop := s = stF st (fouV a b player (ds.take i)) ∧ ∃ f1 s4, led a b player (ds.take i) = some f1 ∧ env = [.v (ru a b), .v (.d (frE player ds)), .v (.ref (st.length + 2)), .v (.d (oP f1.pl)), s4]
def gfE (v : Gf) : PyData := .tuple [.tuple [.int v.c0, .int v.l0], .tuple [.int v.c1, .int v.l1]]
theorem fouls_ok {k : Nat} {a b player : Int} {ds : List Dd} {fo : Fo} {st : Stt} (ha : 1 ≤ a ∧ a ≤ 1000) (hb : 1 ≤ b) (hf : FrOk a b player ds fo) : rn Gm (k + 6) 43 [ru a b, .d (frE player ds)] st = .ok (.d (gfE (fouV a b player ds))) (stF st (fouV a b player ds)) := by
  refine Post.eqQ fun P hP => ?_
  rw [run_at (d := ⟨5, 2, b_fouls⟩) rfl]
  rw [post_runB]
  refine ⟨rfl, ?_⟩
  have hfp : ∀ st, rn Gm (k + 5) 31 [ru a b, .d (.int player)] st = .ok (.d (oP (begin0 a player).pl)) st := fun st => firstp_ok (k := k + 4)
  simp only [b_fouls, post_cons]
  simp [ex, xB_eq, ev, evs, evb, evt, evo, evi, evf, tst, K.val, Bz.isi, isOwn, post_bind, post_ok, post_lift, post_ite, post_noexc, post_nil, bind_ok, fk_nx, fk_rt, fr_nx, fr_rt, lift_some, sto, stoT, wipeS, z_add, z_adds, z_addt, z_addl, z_sub, z_mul, z_mult, z_mull, z_fdiv, z_mod, z_eq, z_ne, z_eqi, z_eqb, z_eqs, z_eqn, z_lt, z_le, z_gt, z_ge, z_is0, z_is1, z_is2, z_is3, z_is4, z_is5, z_in0, z_in1, z_in2, z_in3, z_in4, z_in5, z_inl, z_int, z_nil, z_nit, z_t0, z_t1, z_t2, z_t3, z_t4, z_t5, z_tr, z_isb, z_isb1, z_isb2, z_isb3, z_isb4, z_isb5, z_addb, z_subb, z_nsb, z_rvt, z_rvl, z_stp, z_srl, z_srt, z_sti, z_stb, z_shl, z_ixt, z_ixl, z_ixr, z_slt, z_sll, z_lent, z_lenl, z_lenr, z_suml, z_sumt, z_maxl, z_maxt, z_minl, z_bi, z_bb, z_tul, z_tut, z_tur, z_lil, z_lit, z_all, z_max2, z_min2, z_kt, z_kl, z_cot, z_col, z_da, z_ds0, z_ds1, z_sql, z_sqt, z_isLr, z_fn, z_fb, z_fi, z_fs, sn_0, sn_1, sn_2, sn_3, sn_4, sn_5, sn_6, sn_7, sn_8, sn_9, sn_10, sn_11, sn_12, sn_13, sn_14, sn_15, sn_16, sn_17, sn_18, sn_19, sf_n]
  simp only [q_fouls7, post_cons]
  simp [ex, xB_eq, ev, evs, evb, evt, evo, evi, evf, tst, K.val, Bz.isi, isOwn, post_bind, post_ok, post_lift, post_ite, post_noexc, post_nil, bind_ok, fk_nx, fk_rt, fr_nx, fr_rt, lift_some, sto, stoT, wipeS, z_add, z_adds, z_addt, z_addl, z_sub, z_mul, z_mult, z_mull, z_fdiv, z_mod, z_eq, z_ne, z_eqi, z_eqb, z_eqs, z_eqn, z_lt, z_le, z_gt, z_ge, z_is0, z_is1, z_is2, z_is3, z_is4, z_is5, z_in0, z_in1, z_in2, z_in3, z_in4, z_in5, z_inl, z_int, z_nil, z_nit, z_t0, z_t1, z_t2, z_t3, z_t4, z_t5, z_tr, z_isb, z_isb1, z_isb2, z_isb3, z_isb4, z_isb5, z_addb, z_subb, z_nsb, z_rvt, z_rvl, z_stp, z_srl, z_srt, z_sti, z_stb, z_shl, z_ixt, z_ixl, z_ixr, z_slt, z_sll, z_lent, z_lenl, z_lenr, z_suml, z_sumt, z_maxl, z_maxt, z_minl, z_bi, z_bb, z_tul, z_tut, z_tur, z_lil, z_lit, z_all, z_max2, z_min2, z_kt, z_kl, z_cot, z_col, z_da, z_ds0, z_ds1, z_sql, z_sqt, z_isLr, z_fn, z_fb, z_fi, z_fs, sn_0, sn_1, sn_2, sn_3, sn_4, sn_5, sn_6, sn_7, sn_8, sn_9, sn_10, sn_11, sn_12, sn_13, sn_14, sn_15, sn_16, sn_17, sn_18, sn_19, fr_i0, hfp]
  simp only [q_fouls6, post_cons]
  simp [ex, xB_eq, ev, evs, evb, evt, evo, evi, evf, tst, K.val, Bz.isi, isOwn, post_bind, post_ok, post_lift, post_ite, post_noexc, post_nil, bind_ok, fk_nx, fk_rt, fr_nx, fr_rt, lift_some, sto, stoT, wipeS, z_add, z_adds, z_addt, z_addl, z_sub, z_mul, z_mult, z_mull, z_fdiv, z_mod, z_eq, z_ne, z_eqi, z_eqb, z_eqs, z_eqn, z_lt, z_le, z_gt, z_ge, z_is0, z_is1, z_is2, z_is3, z_is4, z_is5, z_in0, z_in1, z_in2, z_in3, z_in4, z_in5, z_inl, z_int, z_nil, z_nit, z_t0, z_t1, z_t2, z_t3, z_t4, z_t5, z_tr, z_isb, z_isb1, z_isb2, z_isb3, z_isb4, z_isb5, z_addb, z_subb, z_nsb, z_rvt, z_rvl, z_stp, z_srl, z_srt, z_sti, z_stb, z_shl, z_ixt, z_ixl, z_ixr, z_slt, z_sll, z_lent, z_lenl, z_lenr, z_suml, z_sumt, z_maxl, z_maxt, z_minl, z_bi, z_bb, z_tul, z_tut, z_tur, z_lil, z_lit, z_all, z_max2, z_min2, z_kt, z_kl, z_cot, z_col, z_da, z_ds0, z_ds1, z_sql, z_sqt, z_isLr, z_fn, z_fb, z_fi, z_fs, sn_0, sn_1, sn_2, sn_3, sn_4, sn_5, sn_6, sn_7, sn_8, sn_9, sn_10, sn_11, sn_12, sn_13, sn_14, sn_15, sn_16, sn_17, sn_18, sn_19, fr_i1]
  refine for_post (Ig st a b player ds) _ 0 ⟨rfl, begin0 a player, _, rfl, rfl⟩ ?_ ?_
  · rintro i x env s hx ⟨rfl, f1, s4, h1, rfl⟩
    rw [Nat.zero_add] at *
    rw [List.getElem?_map, Option.map_eq_some_iff] at hx
    obtain ⟨d, hx, rfl⟩ := hx
    obtain ⟨g1, p, f2, q1, q2, q3, q4⟩ := led_next hf.led hx
    rw [h1] at q1
    cases q1
    have hpo := led_ok ha.1 hb hf.pl h1 p q2
    have hd := hf.ok d (List.mem_of_getElem? hx)
    have hbh := fun st => behind_ok (k := k) (st := st) hpo hd hb q3
    have htk : ds.take (i + 1) = ds.take i ++ [d] := by rw [List.take_succ, hx]; rfl
    have hvs := fou_snoc h1 q2 q3
    rw [← htk] at hvs
    have fin : ∀ (v : Gf), v = gstep (fouV a b player (ds.take i)) p d → Post (xB (rn Gm (k + 5)) q_fouls3 [.v (ru a b), .v (.d (frE player ds)), .v (.ref (st.length + 2)), .v (.d p.e), .v (.d d.e)] (stF st v)) fun fl s' => match fl with | .nx e2 => Ig st a b player ds (i + 1) e2 s' | .rt v => Fk (xB (rn Gm (k + 5)) q_fouls5) (Fr P) (.rt v) s' := by
      intro v hv
      simp only [q_fouls3, post_cons]
      simp [ex, xB_eq, ev, evs, evb, evt, evo, evi, evf, tst, K.val, Bz.isi, isOwn, post_bind, post_ok, post_lift, post_ite, post_noexc, post_nil, bind_ok, fk_nx, fk_rt, fr_nx, fr_rt, lift_some, sto, stoT, wipeS, z_add, z_adds, z_addt, z_addl, z_sub, z_mul, z_mult, z_mull, z_fdiv, z_mod, z_eq, z_ne, z_eqi, z_eqb, z_eqs, z_eqn, z_lt, z_le, z_gt, z_ge, z_is0, z_is1, z_is2, z_is3, z_is4, z_is5, z_in0, z_in1, z_in2, z_in3, z_in4, z_in5, z_inl, z_int, z_nil, z_nit, z_t0, z_t1, z_t2, z_t3, z_t4, z_t5, z_tr, z_isb, z_isb1, z_isb2, z_isb3, z_isb4, z_isb5, z_addb, z_subb, z_nsb, z_rvt, z_rvl, z_stp, z_srl, z_srt, z_sti, z_stb, z_shl, z_ixt, z_ixl, z_ixr, z_slt, z_sll, z_lent, z_lenl, z_lenr, z_suml, z_sumt, z_maxl, z_maxt, z_minl, z_bi, z_bb, z_tul, z_tut, z_tur, z_lil, z_lit, z_all, z_max2, z_min2, z_kt, z_kl, z_cot, z_col, z_da, z_ds0, z_ds1, z_sql, z_sqt, z_isLr, z_fn, z_fb, z_fi, z_fs, sn_0, sn_1, sn_2, sn_3, sn_4, sn_5, sn_6, sn_7, sn_8, sn_9, sn_10, sn_11, sn_12, sn_13, sn_14, sn_15, sn_16, sn_17, sn_18, sn_19, hbh, fo_i0]
      rw [hv, ← hvs]
      exact ⟨rfl, f2, _, q4, rfl⟩
    generalize fouV a b player (ds.take i) = v0 at *
    refine ⟨_, rfl, ?_⟩
    rw [q2, oP_some]
    cases d with
    | give =>
      simp only [q_fouls4, post_cons]
      simp [ex, xB_eq, ev, evs, evb, evt, evo, evi, evf, tst, K.val, Bz.isi, isOwn, post_bind, post_ok, post_lift, post_ite, post_noexc, post_nil, bind_ok, fk_nx, fk_rt, fr_nx, fr_rt, lift_some, sto, stoT, wipeS, z_add, z_adds, z_addt, z_addl, z_sub, z_mul, z_mult, z_mull, z_fdiv, z_mod, z_eq, z_ne, z_eqi, z_eqb, z_eqs, z_eqn, z_lt, z_le, z_gt, z_ge, z_is0, z_is1, z_is2, z_is3, z_is4, z_is5, z_in0, z_in1, z_in2, z_in3, z_in4, z_in5, z_inl, z_int, z_nil, z_nit, z_t0, z_t1, z_t2, z_t3, z_t4, z_t5, z_tr, z_isb, z_isb1, z_isb2, z_isb3, z_isb4, z_isb5, z_addb, z_subb, z_nsb, z_rvt, z_rvl, z_stp, z_srl, z_srt, z_sti, z_stb, z_shl, z_ixt, z_ixl, z_ixr, z_slt, z_sll, z_lent, z_lenl, z_lenr, z_suml, z_sumt, z_maxl, z_maxt, z_minl, z_bi, z_bb, z_tul, z_tut, z_tur, z_lil, z_lit, z_all, z_max2, z_min2, z_kt, z_kl, z_cot, z_col, z_da, z_ds0, z_ds1, z_sql, z_sqt, z_isLr, z_fn, z_fb, z_fi, z_fs, sn_0, sn_1, sn_2, sn_3, sn_4, sn_5, sn_6, sn_7, sn_8, sn_9, sn_10, sn_11, sn_12, sn_13, sn_14, sn_15, sn_16, sn_17, sn_18, sn_19, dd_i0g]
      exact fin v0 rfl
    | free =>
      simp only [q_fouls4, post_cons]
      simp [ex, xB_eq, ev, evs, evb, evt, evo, evi, evf, tst, K.val, Bz.isi, isOwn, post_bind, post_ok, post_lift, post_ite, post_noexc, post_nil, bind_ok, fk_nx, fk_rt, fr_nx, fr_rt, lift_some, sto, stoT, wipeS, z_add, z_adds, z_addt, z_addl, z_sub, z_mul, z_mult, z_mull, z_fdiv, z_mod, z_eq, z_ne, z_eqi, z_eqb, z_eqs, z_eqn, z_lt, z_le, z_gt, z_ge, z_is0, z_is1, z_is2, z_is3, z_is4, z_is5, z_in0, z_in1, z_in2, z_in3, z_in4, z_in5, z_inl, z_int, z_nil, z_nit, z_t0, z_t1, z_t2, z_t3, z_t4, z_t5, z_tr, z_isb, z_isb1, z_isb2, z_isb3, z_isb4, z_isb5, z_addb, z_subb, z_nsb, z_rvt, z_rvl, z_stp, z_srl, z_srt, z_sti, z_stb, z_shl, z_ixt, z_ixl, z_ixr, z_slt, z_sll, z_lent, z_lenl, z_lenr, z_suml, z_sumt, z_maxl, z_maxt, z_minl, z_bi, z_bb, z_tul, z_tut, z_tur, z_lil, z_lit, z_all, z_max2, z_min2, z_kt, z_kl, z_cot, z_col, z_da, z_ds0, z_ds1, z_sql, z_sqt, z_isLr, z_fn, z_fb, z_fi, z_fs, sn_0, sn_1, sn_2, sn_3, sn_4, sn_5, sn_6, sn_7, sn_8, sn_9, sn_10, sn_11, sn_12, sn_13, sn_14, sn_15, sn_16, sn_17, sn_18, sn_19, dd_i0f]
      exact fin v0 rfl
    | pass =>
      simp only [q_fouls4, post_cons]
      simp [ex, xB_eq, ev, evs, evb, evt, evo, evi, evf, tst, K.val, Bz.isi, isOwn, post_bind, post_ok, post_lift, post_ite, post_noexc, post_nil, bind_ok, fk_nx, fk_rt, fr_nx, fr_rt, lift_some, sto, stoT, wipeS, z_add, z_adds, z_addt, z_addl, z_sub, z_mul, z_mult, z_mull, z_fdiv, z_mod, z_eq, z_ne, z_eqi, z_eqb, z_eqs, z_eqn, z_lt, z_le, z_gt, z_ge, z_is0, z_is1, z_is2, z_is3, z_is4, z_is5, z_in0, z_in1, z_in2, z_in3, z_in4, z_in5, z_inl, z_int, z_nil, z_nit, z_t0, z_t1, z_t2, z_t3, z_t4, z_t5, z_tr, z_isb, z_isb1, z_isb2, z_isb3, z_isb4, z_isb5, z_addb, z_subb, z_nsb, z_rvt, z_rvl, z_stp, z_srl, z_srt, z_sti, z_stb, z_shl, z_ixt, z_ixl, z_ixr, z_slt, z_sll, z_lent, z_lenl, z_lenr, z_suml, z_sumt, z_maxl, z_maxt, z_minl, z_bi, z_bb, z_tul, z_tut, z_tur, z_lil, z_lit, z_all, z_max2, z_min2, z_kt, z_kl, z_cot, z_col, z_da, z_ds0, z_ds1, z_sql, z_sqt, z_isLr, z_fn, z_fb, z_fi, z_fs, sn_0, sn_1, sn_2, sn_3, sn_4, sn_5, sn_6, sn_7, sn_8, sn_9, sn_10, sn_11, sn_12, sn_13, sn_14, sn_15, sn_16, sn_17, sn_18, sn_19, dd_i0p]
      exact fin v0 rfl
    | stroke f ps off =>
      have hlen : ps.length ≤ 1000 := by have := hd.len; omega
      have hfa := fun st => fair_ok (k := k + 3) (p := p) (f := f) (ps := ps) (off := off) (st := st) hlen
      have hfo := fun st => foulv_ok (k := k + 2) (p := p) (f := f) (ps := ps) (off := off) (st := st) hlen
      rw [foul_jd] at hfo
      cases hff : fair p f ps off with
      | true =>
        rw [hff] at hfa
        have hz := jd_fair hff
        have := fin v0 (by
          show v0 = gadd v0 p.up (jd p f ps off).2
          rw [hz]; unfold gadd; split <;> simp)
        simp only [q_fouls4, post_cons]
        simp [ex, xB_eq, ev, evs, evb, evt, evo, evi, evf, tst, K.val, Bz.isi, isOwn, post_bind, post_ok, post_lift, post_ite, post_noexc, post_nil, bind_ok, fk_nx, fk_rt, fr_nx, fr_rt, lift_some, sto, stoT, wipeS, z_add, z_adds, z_addt, z_addl, z_sub, z_mul, z_mult, z_mull, z_fdiv, z_mod, z_eq, z_ne, z_eqi, z_eqb, z_eqs, z_eqn, z_lt, z_le, z_gt, z_ge, z_is0, z_is1, z_is2, z_is3, z_is4, z_is5, z_in0, z_in1, z_in2, z_in3, z_in4, z_in5, z_inl, z_int, z_nil, z_nit, z_t0, z_t1, z_t2, z_t3, z_t4, z_t5, z_tr, z_isb, z_isb1, z_isb2, z_isb3, z_isb4, z_isb5, z_addb, z_subb, z_nsb, z_rvt, z_rvl, z_stp, z_srl, z_srt, z_sti, z_stb, z_shl, z_ixt, z_ixl, z_ixr, z_slt, z_sll, z_lent, z_lenl, z_lenr, z_suml, z_sumt, z_maxl, z_maxt, z_minl, z_bi, z_bb, z_tul, z_tut, z_tur, z_lil, z_lit, z_all, z_max2, z_min2, z_kt, z_kl, z_cot, z_col, z_da, z_ds0, z_ds1, z_sql, z_sqt, z_isLr, z_fn, z_fb, z_fi, z_fs, sn_0, sn_1, sn_2, sn_3, sn_4, sn_5, sn_6, sn_7, sn_8, sn_9, sn_10, sn_11, sn_12, sn_13, sn_14, sn_15, sn_16, sn_17, sn_18, sn_19, dd_i0s, dd_s1, hfa]
        exact this
      | false =>
        rw [hff] at hfa
        have hz := jd_foul (p := p) (f := f) (ps := ps) (off := off) (by rw [hff]; simp)
        have fin2 := fun v h => fin v h
        have hg : ∀ v, v = gadd v0 p.up (jd p f ps off).2 → v = gstep v0 p (.stroke f ps off) := fun v h => h
        generalize (jd p f ps off).2 = g at *
        rcases hpo.up with u | u
        · have := fin { v0 with c0 := v0.c0 + 1, l0 := v0.l0 + g } (hg _ (by unfold gadd; rw [if_pos u, if_pos (by omega)]))
          simp only [q_fouls4, post_cons]
          simp [ex, xB_eq, ev, evs, evb, evt, evo, evi, evf, tst, K.val, Bz.isi, isOwn, post_bind, post_ok, post_lift, post_ite, post_noexc, post_nil, bind_ok, fk_nx, fk_rt, fr_nx, fr_rt, lift_some, sto, stoT, wipeS, z_add, z_adds, z_addt, z_addl, z_sub, z_mul, z_mult, z_mull, z_fdiv, z_mod, z_eq, z_ne, z_eqi, z_eqb, z_eqs, z_eqn, z_lt, z_le, z_gt, z_ge, z_is0, z_is1, z_is2, z_is3, z_is4, z_is5, z_in0, z_in1, z_in2, z_in3, z_in4, z_in5, z_inl, z_int, z_nil, z_nit, z_t0, z_t1, z_t2, z_t3, z_t4, z_t5, z_tr, z_isb, z_isb1, z_isb2, z_isb3, z_isb4, z_isb5, z_addb, z_subb, z_nsb, z_rvt, z_rvl, z_stp, z_srl, z_srt, z_sti, z_stb, z_shl, z_ixt, z_ixl, z_ixr, z_slt, z_sll, z_lent, z_lenl, z_lenr, z_suml, z_sumt, z_maxl, z_maxt, z_minl, z_bi, z_bb, z_tul, z_tut, z_tur, z_lil, z_lit, z_all, z_max2, z_min2, z_kt, z_kl, z_cot, z_col, z_da, z_ds0, z_ds1, z_sql, z_sqt, z_isLr, z_fn, z_fb, z_fi, z_fs, sn_0, sn_1, sn_2, sn_3, sn_4, sn_5, sn_6, sn_7, sn_8, sn_9, sn_10, sn_11, sn_12, sn_13, sn_14, sn_15, sn_16, sn_17, sn_18, sn_19, dd_i0s, dd_s1, hfa]
          simp only [q_fouls2, post_cons]
          simp [ex, xB_eq, ev, evs, evb, evt, evo, evi, evf, tst, K.val, Bz.isi, isOwn, post_bind, post_ok, post_lift, post_ite, post_noexc, post_nil, bind_ok, fk_nx, fk_rt, fr_nx, fr_rt, lift_some, sto, stoT, wipeS, z_add, z_adds, z_addt, z_addl, z_sub, z_mul, z_mult, z_mull, z_fdiv, z_mod, z_eq, z_ne, z_eqi, z_eqb, z_eqs, z_eqn, z_lt, z_le, z_gt, z_ge, z_is0, z_is1, z_is2, z_is3, z_is4, z_is5, z_in0, z_in1, z_in2, z_in3, z_in4, z_in5, z_inl, z_int, z_nil, z_nit, z_t0, z_t1, z_t2, z_t3, z_t4, z_t5, z_tr, z_isb, z_isb1, z_isb2, z_isb3, z_isb4, z_isb5, z_addb, z_subb, z_nsb, z_rvt, z_rvl, z_stp, z_srl, z_srt, z_sti, z_stb, z_shl, z_ixt, z_ixl, z_ixr, z_slt, z_sll, z_lent, z_lenl, z_lenr, z_suml, z_sumt, z_maxl, z_maxt, z_minl, z_bi, z_bb, z_tul, z_tut, z_tur, z_lil, z_lit, z_all, z_max2, z_min2, z_kt, z_kl, z_cot, z_col, z_da, z_ds0, z_ds1, z_sql, z_sqt, z_isLr, z_fn, z_fb, z_fi, z_fs, sn_0, sn_1, sn_2, sn_3, sn_4, sn_5, sn_6, sn_7, sn_8, sn_9, sn_10, sn_11, sn_12, sn_13, sn_14, sn_15, sn_16, sn_17, sn_18, sn_19, pl_i0, u, sf_g2, sf_g0, L2.atI, L2.ixN, sf_s0]
          simp only [q_fouls1, post_cons]
          simp [ex, xB_eq, ev, evs, evb, evt, evo, evi, evf, tst, K.val, Bz.isi, isOwn, post_bind, post_ok, post_lift, post_ite, post_noexc, post_nil, bind_ok, fk_nx, fk_rt, fr_nx, fr_rt, lift_some, sto, stoT, wipeS, z_add, z_adds, z_addt, z_addl, z_sub, z_mul, z_mult, z_mull, z_fdiv, z_mod, z_eq, z_ne, z_eqi, z_eqb, z_eqs, z_eqn, z_lt, z_le, z_gt, z_ge, z_is0, z_is1, z_is2, z_is3, z_is4, z_is5, z_in0, z_in1, z_in2, z_in3, z_in4, z_in5, z_inl, z_int, z_nil, z_nit, z_t0, z_t1, z_t2, z_t3, z_t4, z_t5, z_tr, z_isb, z_isb1, z_isb2, z_isb3, z_isb4, z_isb5, z_addb, z_subb, z_nsb, z_rvt, z_rvl, z_stp, z_srl, z_srt, z_sti, z_stb, z_shl, z_ixt, z_ixl, z_ixr, z_slt, z_sll, z_lent, z_lenl, z_lenr, z_suml, z_sumt, z_maxl, z_maxt, z_minl, z_bi, z_bb, z_tul, z_tut, z_tur, z_lil, z_lit, z_all, z_max2, z_min2, z_kt, z_kl, z_cot, z_col, z_da, z_ds0, z_ds1, z_sql, z_sqt, z_isLr, z_fn, z_fb, z_fi, z_fs, sn_0, sn_1, sn_2, sn_3, sn_4, sn_5, sn_6, sn_7, sn_8, sn_9, sn_10, sn_11, sn_12, sn_13, sn_14, sn_15, sn_16, sn_17, sn_18, sn_19, pl_i0, u, sf_g2, sf_g0, L2.atI, L2.ixN, dd_s1, hfo, sf_s0]
          exact this
        · have := fin { v0 with c1 := v0.c1 + 1, l1 := v0.l1 + g } (hg _ (by unfold gadd; rw [if_neg (by omega), if_pos (by omega)]))
          simp only [q_fouls4, post_cons]
          simp [ex, xB_eq, ev, evs, evb, evt, evo, evi, evf, tst, K.val, Bz.isi, isOwn, post_bind, post_ok, post_lift, post_ite, post_noexc, post_nil, bind_ok, fk_nx, fk_rt, fr_nx, fr_rt, lift_some, sto, stoT, wipeS, z_add, z_adds, z_addt, z_addl, z_sub, z_mul, z_mult, z_mull, z_fdiv, z_mod, z_eq, z_ne, z_eqi, z_eqb, z_eqs, z_eqn, z_lt, z_le, z_gt, z_ge, z_is0, z_is1, z_is2, z_is3, z_is4, z_is5, z_in0, z_in1, z_in2, z_in3, z_in4, z_in5, z_inl, z_int, z_nil, z_nit, z_t0, z_t1, z_t2, z_t3, z_t4, z_t5, z_tr, z_isb, z_isb1, z_isb2, z_isb3, z_isb4, z_isb5, z_addb, z_subb, z_nsb, z_rvt, z_rvl, z_stp, z_srl, z_srt, z_sti, z_stb, z_shl, z_ixt, z_ixl, z_ixr, z_slt, z_sll, z_lent, z_lenl, z_lenr, z_suml, z_sumt, z_maxl, z_maxt, z_minl, z_bi, z_bb, z_tul, z_tut, z_tur, z_lil, z_lit, z_all, z_max2, z_min2, z_kt, z_kl, z_cot, z_col, z_da, z_ds0, z_ds1, z_sql, z_sqt, z_isLr, z_fn, z_fb, z_fi, z_fs, sn_0, sn_1, sn_2, sn_3, sn_4, sn_5, sn_6, sn_7, sn_8, sn_9, sn_10, sn_11, sn_12, sn_13, sn_14, sn_15, sn_16, sn_17, sn_18, sn_19, dd_i0s, dd_s1, hfa]
          simp only [q_fouls2, post_cons]
          simp [ex, xB_eq, ev, evs, evb, evt, evo, evi, evf, tst, K.val, Bz.isi, isOwn, post_bind, post_ok, post_lift, post_ite, post_noexc, post_nil, bind_ok, fk_nx, fk_rt, fr_nx, fr_rt, lift_some, sto, stoT, wipeS, z_add, z_adds, z_addt, z_addl, z_sub, z_mul, z_mult, z_mull, z_fdiv, z_mod, z_eq, z_ne, z_eqi, z_eqb, z_eqs, z_eqn, z_lt, z_le, z_gt, z_ge, z_is0, z_is1, z_is2, z_is3, z_is4, z_is5, z_in0, z_in1, z_in2, z_in3, z_in4, z_in5, z_inl, z_int, z_nil, z_nit, z_t0, z_t1, z_t2, z_t3, z_t4, z_t5, z_tr, z_isb, z_isb1, z_isb2, z_isb3, z_isb4, z_isb5, z_addb, z_subb, z_nsb, z_rvt, z_rvl, z_stp, z_srl, z_srt, z_sti, z_stb, z_shl, z_ixt, z_ixl, z_ixr, z_slt, z_sll, z_lent, z_lenl, z_lenr, z_suml, z_sumt, z_maxl, z_maxt, z_minl, z_bi, z_bb, z_tul, z_tut, z_tur, z_lil, z_lit, z_all, z_max2, z_min2, z_kt, z_kl, z_cot, z_col, z_da, z_ds0, z_ds1, z_sql, z_sqt, z_isLr, z_fn, z_fb, z_fi, z_fs, sn_0, sn_1, sn_2, sn_3, sn_4, sn_5, sn_6, sn_7, sn_8, sn_9, sn_10, sn_11, sn_12, sn_13, sn_14, sn_15, sn_16, sn_17, sn_18, sn_19, pl_i0, u, sf_g2, sf_g1, L2.atI, L2.ixN, sf_s1]
          simp only [q_fouls1, post_cons]
          simp [ex, xB_eq, ev, evs, evb, evt, evo, evi, evf, tst, K.val, Bz.isi, isOwn, post_bind, post_ok, post_lift, post_ite, post_noexc, post_nil, bind_ok, fk_nx, fk_rt, fr_nx, fr_rt, lift_some, sto, stoT, wipeS, z_add, z_adds, z_addt, z_addl, z_sub, z_mul, z_mult, z_mull, z_fdiv, z_mod, z_eq, z_ne, z_eqi, z_eqb, z_eqs, z_eqn, z_lt, z_le, z_gt, z_ge, z_is0, z_is1, z_is2, z_is3, z_is4, z_is5, z_in0, z_in1, z_in2, z_in3, z_in4, z_in5, z_inl, z_int, z_nil, z_nit, z_t0, z_t1, z_t2, z_t3, z_t4, z_t5, z_tr, z_isb, z_isb1, z_isb2, z_isb3, z_isb4, z_isb5, z_addb, z_subb, z_nsb, z_rvt, z_rvl, z_stp, z_srl, z_srt, z_sti, z_stb, z_shl, z_ixt, z_ixl, z_ixr, z_slt, z_sll, z_lent, z_lenl, z_lenr, z_suml, z_sumt, z_maxl, z_maxt, z_minl, z_bi, z_bb, z_tul, z_tut, z_tur, z_lil, z_lit, z_all, z_max2, z_min2, z_kt, z_kl, z_cot, z_col, z_da, z_ds0, z_ds1, z_sql, z_sqt, z_isLr, z_fn, z_fb, z_fi, z_fs, sn_0, sn_1, sn_2, sn_3, sn_4, sn_5, sn_6, sn_7, sn_8, sn_9, sn_10, sn_11, sn_12, sn_13, sn_14, sn_15, sn_16, sn_17, sn_18, sn_19, pl_i0, u, sf_g2, sf_g1, L2.atI, L2.ixN, dd_s1, hfo, sf_s1]
          exact this
  · rintro env s ⟨rfl, f1, s4, h1, rfl⟩
    rw [fk_nx, Nat.zero_add, List.length_map, List.take_length]
    simp only [q_fouls5, post_cons]
    simp [ex, xB_eq, ev, evs, evb, evt, evo, evi, evf, tst, K.val, Bz.isi, isOwn, post_bind, post_ok, post_lift, post_ite, post_noexc, post_nil, bind_ok, fk_nx, fk_rt, fr_nx, fr_rt, lift_some, sto, stoT, wipeS, z_add, z_adds, z_addt, z_addl, z_sub, z_mul, z_mult, z_mull, z_fdiv, z_mod, z_eq, z_ne, z_eqi, z_eqb, z_eqs, z_eqn, z_lt, z_le, z_gt, z_ge, z_is0, z_is1, z_is2, z_is3, z_is4, z_is5, z_in0, z_in1, z_in2, z_in3, z_in4, z_in5, z_inl, z_int, z_nil, z_nit, z_t0, z_t1, z_t2, z_t3, z_t4, z_t5, z_tr, z_isb, z_isb1, z_isb2, z_isb3, z_isb4, z_isb5, z_addb, z_subb, z_nsb, z_rvt, z_rvl, z_stp, z_srl, z_srt, z_sti, z_stb, z_shl, z_ixt, z_ixl, z_ixr, z_slt, z_sll, z_lent, z_lenl, z_lenr, z_suml, z_sumt, z_maxl, z_maxt, z_minl, z_bi, z_bb, z_tul, z_tut, z_tur, z_lil, z_lit, z_all, z_max2, z_min2, z_kt, z_kl, z_cot, z_col, z_da, z_ds0, z_ds1, z_sql, z_sqt, z_isLr, z_fn, z_fb, z_fi, z_fs, sn_0, sn_1, sn_2, sn_3, sn_4, sn_5, sn_6, sn_7, sn_8, sn_9, sn_10, sn_11, sn_12, sn_13, sn_14, sn_15, sn_16, sn_17, sn_18, sn_19, sf_g2, sf_g0, sf_g1, L2.atI, L2.ixN]
    exact hP
/-! ### what is equal to itself -/
theorem depthAll_le {n : Nat} : ∀ {xs : List PyData}, (∀ x ∈ xs, x.depth ≤ n) → PyData.depthAll xs ≤ n
  | [], _ => by simp [PyData.depthAll]
  | x :: r, h => by
    have h1 := h x (List.mem_cons_self ..)
    have h2 := depthAll_le (n := n) (xs := r) fun y hy => h y (List.mem_cons_of_mem _ hy)
    simp only [PyData.depthAll]
    omega
theorem eqvAll_refl : ∀ {xs : List PyData}, (∀ x ∈ xs, PyData.eqv x x = true) → PyData.eqvAll xs xs = true
  | [], _ => rfl
  | x :: r, h => by
    simp only [PyData.eqvAll, Bool.and_eq_true]
    exact ⟨h x (List.mem_cons_self ..), eqvAll_refl fun y hy => h y (List.mem_cons_of_mem _ hy)⟩
theorem okD_eqv : ∀ {k : Nat} {d : PyData}, okD k d = true → PyData.eqv d d = true ∧ d.depth ≤ k + 1
  | k, .none, _ => ⟨rfl, by simp [PyData.depth]⟩
  | k, .bool b, _ => ⟨by simp [PyData.eqv], by simp [PyData.depth]⟩
  | k, .int i, _ => ⟨by simp [PyData.eqv], by simp [PyData.depth]⟩
  | k, .str s, _ => ⟨by simp [PyData.eqv], by simp [PyData.depth]⟩
  | 0, .tuple xs, h => by
    simp only [okD, List.isEmpty_iff] at h
    subst h
    exact ⟨rfl, by simp [PyData.depth, PyData.depthAll]⟩
  | k + 1, .tuple xs, h => by
    simp only [okD, Bool.and_eq_true, decide_eq_true_eq, List.all_eq_true] at h
    refine ⟨?_, ?_⟩
    · simp only [PyData.eqv]
      exact eqvAll_refl fun x hx => (okD_eqv (h.2 x hx)).1
    · simp only [PyData.depth]
      have := depthAll_le (n := k + 1) (xs := xs) fun x hx => (okD_eqv (h.2 x hx)).2
      omega
  | k, .list xs, h => by cases k <;> cases h
  | k, .dict xs, h => by cases k <;> cases h
theorem eqD_refl {k : Nat} {d : PyData} (h : okD k d = true) (hk : k ≤ 50) : eqD d d = some true := by
  obtain ⟨h1, h2⟩ := okD_eqv h
  unfold eqD
  rw [if_pos (by omega), h1]
theorem eqD_reflL {k : Nat} {xs : List PyData} (h : ∀ x ∈ xs, okD k x = true) (hk : k ≤ 50) : eqD (.list xs) (.list xs) = some true := by
  unfold eqD
  have h2 := depthAll_le (n := k + 1) (xs := xs) fun x hx => (okD_eqv (h x hx)).2
  rw [if_pos (by simp only [PyData.depth]; omega)]
  simp only [PyData.eqv]
  rw [eqvAll_refl fun x hx => (okD_eqv (h x hx)).1]
theorem okT2 {k : Nat} {x y : PyData} (h : okD k x = true) (h2 : okD k y = true) : okD (k + 1) (.tuple [x, y]) = true := by
  show (decide (2 ≤ szl) && (okD k x && (okD k y && true))) = true
  rw [h, h2]
  rfl
theorem okT3 {k : Nat} {x y z : PyData} (h : okD k x = true) (h2 : okD k y = true) (h3 : okD k z = true) : okD (k + 1) (.tuple [x, y, z]) = true := by
  show (decide (3 ≤ szl) && (okD k x && (okD k y && (okD k z && true)))) = true
  rw [h, h2, h3]
  rfl
/-! ### runs, ball by ball -/
structure R3 where
  reds : Int
  on : Int
  low : Int
def R3.e (s : R3) : PyData := .tuple [.int s.reds, .int s.on, .int s.low]
def nxB (b : Int) (s : R3) : List Int := if s.on = 1 then [1] else if s.on = 0 then rgI 2 (b + 1 + 1) else (rgI s.low (b + 1 + 1)).take 1
def afB (s : R3) : R3 := if s.on = 1 then ⟨s.reds - 1, 0, s.low⟩ else if s.on = 0 then ⟨s.reds, if 0 < s.reds then 1 else 2, s.low⟩ else ⟨s.reds, s.low + 1, s.low + 1⟩
def st0 (a : Int) : R3 := ⟨a, 1, 2⟩
def rnB (b : Int) : List PyData → R3 → Bool
  | [], _ => true
  | .int y :: r, s => decide (y ∈ nxB b s) && rnB b r (afB s)
  | _ :: _, _ => false
/-- what a state keeps -/
structure R3Ok (b : Int) (s : R3) : Prop where
  reds : 0 ≤ s.reds ∧ s.reds ≤ 1000
  low : 2 ≤ s.low ∧ s.low ≤ b + 2
  on : s.on = 0 ∧ s.low = 2 ∨ s.on = 1 ∧ 0 < s.reds ∧ s.low = 2 ∨ s.on = s.low ∧ s.reds = 0
theorem rgI_nil {x y : Int} (h : y ≤ x) : rgI x y = [] := by
  unfold rgI
  rw [show (y - x).toNat = 0 by omega]
  rfl
theorem rgI_cons {x y : Int} (h : x < y) : rgI x y = x :: rgI (x + 1) y := by
  unfold rgI
  rw [show (y - x).toNat = (y - (x + 1)).toNat + 1 by omega, List.range_succ_eq_map, List.map_cons, List.map_map]
  congr 1
  · simp
  · refine List.map_congr_left fun i _ => ?_
    show x + ((i + 1 : Nat) : Int) = x + 1 + (i : Int)
    omega
theorem nx_low {b : Int} {s : R3} (h : 2 ≤ s.on) : nxB b s = if s.low < b + 2 then [s.low] else [] := by
  unfold nxB
  rw [if_neg (by omega), if_neg (by omega)]
  split
  · rw [rgI_cons (by omega)]; rfl
  · rw [rgI_nil (by omega)]; rfl
theorem R3Ok.af {b : Int} {s : R3} (h : R3Ok b s) {y : Int} (hn : y ∈ nxB b s) : R3Ok b (afB s) := by
  have h1 := h.reds
  have h2 := h.low
  have h3 := h.on
  unfold afB
  by_cases o1 : s.on = 1
  · rw [if_pos o1]
    exact ⟨by show 0 ≤ s.reds - 1 ∧ s.reds - 1 ≤ 1000; omega, h2, .inl ⟨rfl, by show s.low = 2; omega⟩⟩
  · rw [if_neg o1]
    by_cases o0 : s.on = 0
    · rw [if_pos o0]
      refine ⟨h1, h2, ?_⟩
      by_cases hr : 0 < s.reds
      · exact .inr (.inl ⟨by simp [hr], hr, by show s.low = 2; omega⟩)
      · exact .inr (.inr ⟨by simp [hr]; omega, by show s.reds = 0; omega⟩)
    · rw [if_neg o0]
      rw [nx_low (by omega)] at hn
      split at hn
      · exact ⟨h1, by show 2 ≤ s.low + 1 ∧ s.low + 1 ≤ b + 2; omega, .inr (.inr ⟨rfl, by show s.reds = 0; omega⟩)⟩
      · cases hn
theorem st0_ok {a b : Int} (ha : 1 ≤ a ∧ a ≤ 1000) (hb : 0 ≤ b) : R3Ok b (st0 a) := ⟨by show 0 ≤ a ∧ a ≤ 1000; omega, by show (2 : Int) ≤ 2 ∧ 2 ≤ b + 2; omega, .inr (.inl ⟨rfl, by show 0 < a; omega, rfl⟩)⟩
/-! what the law asks of a run -/
def parB : Nat → List Int → Bool
  | _, [] => true
  | i, x :: r => (decide (x = 1) != decide (i % 2 = 1)) && parB (i + 1) r
def lawB (a b : Int) (xs : List Int) : Bool := xs.all (fun x => decide (1 ≤ x ∧ x ≤ b + 1)) && parB 0 (xs.take (2 * a).toNat) && decide (xs.drop (2 * a).toNat = rgI 2 (2 + ((xs.drop (2 * a).toNat).length : Int)))
theorem parB_two {i : Nat} : ∀ {xs : List Int}, parB (i + 2) xs = parB i xs
  | [] => rfl
  | x :: r => by
    have := parB_two (i := i + 1) (xs := r)
    simp only [parB]
    rw [show i + 2 + 1 = i + 1 + 2 by omega, this, show (i + 2) % 2 = i % 2 by omega]
theorem low_run {b : Int} : ∀ {xs : List Int} {low : Int}, 2 ≤ low → low ≤ b + 2 → (rnB b (xs.map .int) ⟨0, low, low⟩ = true ↔ (∀ x ∈ xs, x ≤ b + 1) ∧ xs = rgI low (low + (xs.length : Int)))
  | [], low, h1, h2 => by
    simp only [List.map_nil, rnB, true_iff]
    exact ⟨by simp, by simp [rgI]⟩
  | x :: r, low, h1, h2 => by
    have haf : afB ⟨0, low, low⟩ = ⟨0, low + 1, low + 1⟩ := by unfold afB; rw [if_neg (by simp; omega), if_neg (by simp; omega)]
    simp only [List.map_cons, rnB, Bool.and_eq_true, decide_eq_true_eq, haf]
    rw [nx_low (by show 2 ≤ low; omega)]
    simp only
    by_cases hl : low < b + 2
    · have hc : rgI low (low + ((r.length + 1 : Nat) : Int)) = low :: rgI (low + 1) (low + 1 + (r.length : Int)) := by
        rw [rgI_cons (by omega), show low + ((r.length + 1 : Nat) : Int) = low + 1 + (r.length : Int) by omega]
      rw [if_pos hl, low_run (by omega) (by omega), List.mem_singleton, List.length_cons, hc]
      constructor
      · rintro ⟨rfl, h3, h4⟩
        refine ⟨fun y hy => ?_, by rw [← h4]⟩
        rcases List.mem_cons.mp hy with q | q
        · omega
        · exact h3 y q
      · rintro ⟨h3, h4⟩
        injection h4 with h5 h6
        exact ⟨h5, fun y hy => h3 y (List.mem_cons_of_mem _ hy), h6⟩
    · rw [if_neg hl]
      constructor
      · rintro ⟨h, _⟩; cases h
      · rintro ⟨h3, h4⟩
        rw [List.length_cons, rgI_cons (show low < low + ((r.length + 1 : Nat) : Int) by omega)] at h4
        injection h4 with h5 _
        have := h3 x (List.mem_cons_self ..)
        omega
theorem red_run {b : Int} (hb : 1 ≤ b) : ∀ {n : Nat} {xs : List Int}, (∀ x ∈ xs, 1 ≤ x ∧ x ≤ b + 1) → (rnB b (xs.map .int) ⟨((n + 1 : Nat) : Int), 1, 2⟩ = true ↔ parB 0 (xs.take (2 * (n + 1))) = true ∧ xs.drop (2 * (n + 1)) = rgI 2 (2 + ((xs.drop (2 * (n + 1))).length : Int)))
  | n, [], _ => by simp [rnB, parB, rgI]
  | n, [x], h => by
    have e : 2 * (n + 1) = (2 * n + 1) + 1 := by omega
    rw [e]
    simp only [List.map_cons, List.map_nil, rnB, nxB, if_true, List.mem_singleton, Bool.and_true, decide_eq_true_eq, List.take_succ_cons, List.take_nil, parB, List.drop_succ_cons, List.drop_nil, List.length_nil]
    simp [rgI]
  | n, x :: y :: r, h => by
    have e : 2 * (n + 1) = (2 * n) + 1 + 1 := by omega
    have hy := h y (by simp)
    have af1 : afB ⟨((n + 1 : Nat) : Int), 1, 2⟩ = ⟨(n : Int), 0, 2⟩ := by
      unfold afB
      rw [if_pos rfl]
      congr 1
      simp
    have af2 : afB ⟨(n : Int), 0, 2⟩ = ⟨(n : Int), if 0 < (n : Int) then 1 else 2, 2⟩ := by
      unfold afB
      rw [if_neg (by simp), if_pos rfl]
    have n1 : nxB b ⟨((n + 1 : Nat) : Int), 1, 2⟩ = [1] := by unfold nxB; rw [if_pos rfl]
    have n2 : nxB b ⟨(n : Int), 0, 2⟩ = rgI 2 (b + 1 + 1) := by unfold nxB; rw [if_neg (by simp), if_pos rfl]
    rw [e]
    simp only [List.map_cons, rnB, af1, af2, n1, n2, Bool.and_eq_true, decide_eq_true_eq, List.mem_singleton, rgI_mem, List.take_succ_cons, parB, List.drop_succ_cons]
    rw [show (0 : Nat) + 1 + 1 = 0 + 2 by rfl, parB_two]
    have hx : (decide (x = 1) != decide (0 % 2 = 1)) = true ↔ x = 1 := by simp
    have hy2 : (decide (y = 1) != decide True) = true ↔ ¬ y = 1 := by simp
    rw [hx, hy2]
    have hr : ∀ z ∈ r, 1 ≤ z ∧ z ≤ b + 1 := fun z hz => h z (List.mem_cons_of_mem _ (List.mem_cons_of_mem _ hz))
    cases n with
    | zero =>
      rw [if_neg (by simp)]
      have := low_run (b := b) (xs := r) (low := 2) (by omega) (by omega)
      simp only [Nat.mul_zero, List.take_zero, List.drop_zero, parB]
      rw [show ((0 : Nat) : Int) = 0 from rfl, this]
      constructor
      · rintro ⟨h1, h2, h3, h4⟩
        exact ⟨⟨h1, by omega, trivial⟩, h4⟩
      · rintro ⟨⟨h1, h2, _⟩, h4⟩
        exact ⟨h1, ⟨by omega, by omega⟩, fun z hz => (hr z hz).2, h4⟩
    | succ m =>
      rw [if_pos (by omega), red_run hb hr]
      constructor
      · rintro ⟨h1, h2, h3, h4⟩
        exact ⟨⟨h1, by omega, h3⟩, h4⟩
      · rintro ⟨⟨h1, h2, h3⟩, h4⟩
        exact ⟨h1, ⟨by omega, by omega⟩, h3, h4⟩
theorem run_law {a b : Int} {xs : List Int} (ha : 1 ≤ a) (hb : 1 ≤ b) (h : ∀ x ∈ xs, 1 ≤ x ∧ x ≤ b + 1) : rnB b (xs.map .int) (st0 a) = lawB a b xs := by
  obtain ⟨n, hn⟩ : ∃ n : Nat, a = ((n + 1 : Nat) : Int) := ⟨(a - 1).toNat, by omega⟩
  have e : (2 * a).toNat = 2 * (n + 1) := by omega
  rw [Bool.eq_iff_iff]
  unfold lawB st0
  rw [e, hn, red_run hb h]
  have hall : (xs.all fun x => decide (1 ≤ x ∧ x ≤ b + 1)) = true := List.all_eq_true.mpr fun x hx => decide_eq_true (h x hx)
  rw [hall, Bool.true_and, Bool.and_eq_true, decide_eq_true_eq]
theorem rnB_mem {b : Int} : ∀ {xs : List PyData} {s : R3}, rnB b xs s = true → R3Ok b s → 1 ≤ b → ∀ x ∈ xs, ∃ i : Int, x = .int i ∧ 1 ≤ i ∧ i ≤ b + 1
  | [], _, _, _, _, x, hx => by cases hx
  | .int y :: r, s, h, hs, hb, x, hx => by
    simp only [rnB, Bool.and_eq_true, decide_eq_true_eq] at h
    rcases List.mem_cons.mp hx with q | q
    · refine ⟨y, q, ?_⟩
      have := h.1
      unfold nxB at this
      have h2 := hs.low
      split at this
      · rw [List.mem_singleton.mp this]; omega
      · split at this
        · have := rgI_mem.mp this; omega
        · have := rgI_mem.mp (List.mem_of_mem_take this); omega
    · exact rnB_mem h.2 (hs.af h.1) hb x q
  | .none :: r, _, h, _, _, _, _ => by simp [rnB] at h
  | .bool _ :: r, _, h, _, _, _, _ => by simp [rnB] at h
  | .str _ :: r, _, h, _, _, _, _ => by simp [rnB] at h
  | .list _ :: r, _, h, _, _, _, _ => by simp [rnB] at h
  | .tuple _ :: r, _, h, _, _, _, _ => by simp [rnB] at h
  | .dict _ :: r, _, h, _, _, _, _ => by simp [rnB] at h
theorem rows_ok {k : Nat} {l : List Int} {st : Stt} (h : l.length ≤ 1000) : rn Gm (k + 1) 59 [.d (.tuple (l.map .int))] st = .ok (.d (.tuple (l.map fun x => stk x [x] false))) st := by
  refine Post.eqQ fun P hP => ?_
  rw [run_at (d := ⟨3, 1, b_rows_of⟩) rfl]
  rw [post_runB]
  refine ⟨rfl, ?_⟩
  simp only [b_rows_of, post_cons]
  simp [ex, xB_eq, ev, evs, evb, evt, evo, evi, evf, tst, K.val, Bz.isi, isOwn, post_bind, post_ok, post_lift, post_ite, post_noexc, post_nil, bind_ok, fk_nx, fk_rt, fr_nx, fr_rt, lift_some, sto, stoT, wipeS, z_add, z_adds, z_addt, z_addl, z_sub, z_mul, z_mult, z_mull, z_fdiv, z_mod, z_eq, z_ne, z_eqi, z_eqb, z_eqs, z_eqn, z_lt, z_le, z_gt, z_ge, z_is0, z_is1, z_is2, z_is3, z_is4, z_is5, z_in0, z_in1, z_in2, z_in3, z_in4, z_in5, z_inl, z_int, z_nil, z_nit, z_t0, z_t1, z_t2, z_t3, z_t4, z_t5, z_tr, z_isb, z_isb1, z_isb2, z_isb3, z_isb4, z_isb5, z_addb, z_subb, z_nsb, z_rvt, z_rvl, z_stp, z_srl, z_srt, z_sti, z_stb, z_shl, z_ixt, z_ixl, z_ixr, z_slt, z_sll, z_lent, z_lenl, z_lenr, z_suml, z_sumt, z_maxl, z_maxt, z_minl, z_bi, z_bb, z_tul, z_tut, z_tur, z_lil, z_lit, z_all, z_max2, z_min2, z_kt, z_kl, z_cot, z_col, z_da, z_ds0, z_ds1, z_sql, z_sqt, z_isLr, z_fn, z_fb, z_fi, z_fs, sn_0, sn_1, sn_2, sn_3, sn_4, sn_5, sn_6, sn_7, sn_8, sn_9, sn_10, sn_11, sn_12, sn_13, sn_14, sn_15, sn_16, sn_17, sn_18, sn_19]
  rw [lc_map PyData.int (p := fun x => true) (f := fun x => stk x [x] false)]
  rotate_left
  · unfold szl; simp; omega
  · intro x hx
    refine ⟨_, rfl, by simp [ex, xB_eq, ev, evs, evb, evt, evo, evi, evf, tst, K.val, Bz.isi, isOwn, post_bind, post_ok, post_lift, post_ite, post_noexc, post_nil, bind_ok, fk_nx, fk_rt, fr_nx, fr_rt, lift_some, sto, stoT, wipeS, z_add, z_adds, z_addt, z_addl, z_sub, z_mul, z_mult, z_mull, z_fdiv, z_mod, z_eq, z_ne, z_eqi, z_eqb, z_eqs, z_eqn, z_lt, z_le, z_gt, z_ge, z_is0, z_is1, z_is2, z_is3, z_is4, z_is5, z_in0, z_in1, z_in2, z_in3, z_in4, z_in5, z_inl, z_int, z_nil, z_nit, z_t0, z_t1, z_t2, z_t3, z_t4, z_t5, z_tr, z_isb, z_isb1, z_isb2, z_isb3, z_isb4, z_isb5, z_addb, z_subb, z_nsb, z_rvt, z_rvl, z_stp, z_srl, z_srt, z_sti, z_stb, z_shl, z_ixt, z_ixl, z_ixr, z_slt, z_sll, z_lent, z_lenl, z_lenr, z_suml, z_sumt, z_maxl, z_maxt, z_minl, z_bi, z_bb, z_tul, z_tut, z_tur, z_lil, z_lit, z_all, z_max2, z_min2, z_kt, z_kl, z_cot, z_col, z_da, z_ds0, z_ds1, z_sql, z_sqt, z_isLr, z_fn, z_fb, z_fi, z_fs, sn_0, sn_1, sn_2, sn_3, sn_4, sn_5, sn_6, sn_7, sn_8, sn_9, sn_10, sn_11, sn_12, sn_13, sn_14, sn_15, sn_16, sn_17, sn_18, sn_19], fun _ => ?_⟩
    refine Post.eqQ fun Q hQ => ?_
    simp [ex, xB_eq, ev, evs, evb, evt, evo, evi, evf, tst, K.val, Bz.isi, isOwn, post_bind, post_ok, post_lift, post_ite, post_noexc, post_nil, bind_ok, fk_nx, fk_rt, fr_nx, fr_rt, lift_some, sto, stoT, wipeS, z_add, z_adds, z_addt, z_addl, z_sub, z_mul, z_mult, z_mull, z_fdiv, z_mod, z_eq, z_ne, z_eqi, z_eqb, z_eqs, z_eqn, z_lt, z_le, z_gt, z_ge, z_is0, z_is1, z_is2, z_is3, z_is4, z_is5, z_in0, z_in1, z_in2, z_in3, z_in4, z_in5, z_inl, z_int, z_nil, z_nit, z_t0, z_t1, z_t2, z_t3, z_t4, z_t5, z_tr, z_isb, z_isb1, z_isb2, z_isb3, z_isb4, z_isb5, z_addb, z_subb, z_nsb, z_rvt, z_rvl, z_stp, z_srl, z_srt, z_sti, z_stb, z_shl, z_ixt, z_ixl, z_ixr, z_slt, z_sll, z_lent, z_lenl, z_lenr, z_suml, z_sumt, z_maxl, z_maxt, z_minl, z_bi, z_bb, z_tul, z_tut, z_tur, z_lil, z_lit, z_all, z_max2, z_min2, z_kt, z_kl, z_cot, z_col, z_da, z_ds0, z_ds1, z_sql, z_sqt, z_isLr, z_fn, z_fb, z_fi, z_fs, sn_0, sn_1, sn_2, sn_3, sn_4, sn_5, sn_6, sn_7, sn_8, sn_9, sn_10, sn_11, sn_12, sn_13, sn_14, sn_15, sn_16, sn_17, sn_18, sn_19]
    exact hQ
  simp only [post_ok, List.nil_append, filt_t]
  simp [ex, xB_eq, ev, evs, evb, evt, evo, evi, evf, tst, K.val, Bz.isi, isOwn, post_bind, post_ok, post_lift, post_ite, post_noexc, post_nil, bind_ok, fk_nx, fk_rt, fr_nx, fr_rt, lift_some, sto, stoT, wipeS, z_add, z_adds, z_addt, z_addl, z_sub, z_mul, z_mult, z_mull, z_fdiv, z_mod, z_eq, z_ne, z_eqi, z_eqb, z_eqs, z_eqn, z_lt, z_le, z_gt, z_ge, z_is0, z_is1, z_is2, z_is3, z_is4, z_is5, z_in0, z_in1, z_in2, z_in3, z_in4, z_in5, z_inl, z_int, z_nil, z_nit, z_t0, z_t1, z_t2, z_t3, z_t4, z_t5, z_tr, z_isb, z_isb1, z_isb2, z_isb3, z_isb4, z_isb5, z_addb, z_subb, z_nsb, z_rvt, z_rvl, z_stp, z_srl, z_srt, z_sti, z_stb, z_shl, z_ixt, z_ixl, z_ixr, z_slt, z_sll, z_lent, z_lenl, z_lenr, z_suml, z_sumt, z_maxl, z_maxt, z_minl, z_bi, z_bb, z_tul, z_tut, z_tur, z_lil, z_lit, z_all, z_max2, z_min2, z_kt, z_kl, z_cot, z_col, z_da, z_ds0, z_ds1, z_sql, z_sqt, z_isLr, z_fn, z_fb, z_fi, z_fs, sn_0, sn_1, sn_2, sn_3, sn_4, sn_5, sn_6, sn_7, sn_8, sn_9, sn_10, sn_11, sn_12, sn_13, sn_14, sn_15, sn_16, sn_17, sn_18, sn_19]
  exact hP
theorem clear_ok {k : Nat} {a b : Int} {l : List Int} {st : Stt} (ha : 1 ≤ a ∧ a ≤ 1000) (hb : 1 ≤ b) (hl : (l.length : Int) = 2 * a + b → L2.atI (l.map PyData.int) (-1) = some (.int (b + 1))) : rn Gm (k + 2) 58 [ru a b, .d (.tuple (l.map .int))] st = .ok (.d (.bool (decide ((l.length : Int) = 2 * a + b)))) st := by
  refine Post.eqQ fun P hP => ?_
  rw [run_at (d := ⟨2, 2, b_is_clear⟩) rfl]
  rw [post_runB]
  refine ⟨rfl, ?_⟩
  have ea : L2.atI [PyData.int a, .int b] 0 = some (.int a) := rfl
  have eb : L2.atI [PyData.int a, .int b] 1 = some (.int b) := rfl
  have hm : mulOk 2 a = true := mulOk_l (by omega) (by omega)
  by_cases h : (l.length : Int) = 2 * a + b
  · have := hl h
    rw [decide_eq_true h] at hP
    simp only [b_is_clear, post_cons]
    simp [ex, xB_eq, ev, evs, evb, evt, evo, evi, evf, tst, K.val, Bz.isi, isOwn, post_bind, post_ok, post_lift, post_ite, post_noexc, post_nil, bind_ok, fk_nx, fk_rt, fr_nx, fr_rt, lift_some, sto, stoT, wipeS, z_add, z_adds, z_addt, z_addl, z_sub, z_mul, z_mult, z_mull, z_fdiv, z_mod, z_eq, z_ne, z_eqi, z_eqb, z_eqs, z_eqn, z_lt, z_le, z_gt, z_ge, z_is0, z_is1, z_is2, z_is3, z_is4, z_is5, z_in0, z_in1, z_in2, z_in3, z_in4, z_in5, z_inl, z_int, z_nil, z_nit, z_t0, z_t1, z_t2, z_t3, z_t4, z_t5, z_tr, z_isb, z_isb1, z_isb2, z_isb3, z_isb4, z_isb5, z_addb, z_subb, z_nsb, z_rvt, z_rvl, z_stp, z_srl, z_srt, z_sti, z_stb, z_shl, z_ixt, z_ixl, z_ixr, z_slt, z_sll, z_lent, z_lenl, z_lenr, z_suml, z_sumt, z_maxl, z_maxt, z_minl, z_bi, z_bb, z_tul, z_tut, z_tur, z_lil, z_lit, z_all, z_max2, z_min2, z_kt, z_kl, z_cot, z_col, z_da, z_ds0, z_ds1, z_sql, z_sqt, z_isLr, z_fn, z_fb, z_fi, z_fs, sn_0, sn_1, sn_2, sn_3, sn_4, sn_5, sn_6, sn_7, sn_8, sn_9, sn_10, sn_11, sn_12, sn_13, sn_14, sn_15, sn_16, sn_17, sn_18, sn_19, ea, eb, hm, z_eqi, h, top_ok, this]
    exact hP
  · rw [decide_eq_false h] at hP
    simp only [b_is_clear, post_cons]
    simp [ex, xB_eq, ev, evs, evb, evt, evo, evi, evf, tst, K.val, Bz.isi, isOwn, post_bind, post_ok, post_lift, post_ite, post_noexc, post_nil, bind_ok, fk_nx, fk_rt, fr_nx, fr_rt, lift_some, sto, stoT, wipeS, z_add, z_adds, z_addt, z_addl, z_sub, z_mul, z_mult, z_mull, z_fdiv, z_mod, z_eq, z_ne, z_eqi, z_eqb, z_eqs, z_eqn, z_lt, z_le, z_gt, z_ge, z_is0, z_is1, z_is2, z_is3, z_is4, z_is5, z_in0, z_in1, z_in2, z_in3, z_in4, z_in5, z_inl, z_int, z_nil, z_nit, z_t0, z_t1, z_t2, z_t3, z_t4, z_t5, z_tr, z_isb, z_isb1, z_isb2, z_isb3, z_isb4, z_isb5, z_addb, z_subb, z_nsb, z_rvt, z_rvl, z_stp, z_srl, z_srt, z_sti, z_stb, z_shl, z_ixt, z_ixl, z_ixr, z_slt, z_sll, z_lent, z_lenl, z_lenr, z_suml, z_sumt, z_maxl, z_maxt, z_minl, z_bi, z_bb, z_tul, z_tut, z_tur, z_lil, z_lit, z_all, z_max2, z_min2, z_kt, z_kl, z_cot, z_col, z_da, z_ds0, z_ds1, z_sql, z_sqt, z_isLr, z_fn, z_fb, z_fi, z_fs, sn_0, sn_1, sn_2, sn_3, sn_4, sn_5, sn_6, sn_7, sn_8, sn_9, sn_10, sn_11, sn_12, sn_13, sn_14, sn_15, sn_16, sn_17, sn_18, sn_19, ea, eb, hm, z_eqi, h]
    exact hP
def weave (cs : List Int) : List Int := cs.flatMap fun c => [1, c]
theorem weave_snoc {cs : List Int} {c : Int} : weave (cs ++ [c]) = weave cs ++ [1, c] := by simp [weave]
theorem weave_len : ∀ {cs : List Int}, (weave cs).length = 2 * cs.length
  | [] => rfl
  | c :: r => by
    have := weave_len (cs := r)
    simp only [weave, List.flatMap_cons, List.length_append, List.length_cons, List.length_nil] at this ⊢
    omega
/-- a run that is drawn -/
structure RunV (a b : Int) (run : List Int) : Prop where
  ex : ∃ cs j, (cs.length : Int) = a ∧ (∀ c ∈ cs, 2 ≤ c ∧ c ≤ b + 1) ∧ run = (weave cs ++ rgI 2 (b + 2)).take j
theorem rnB_take {b : Int} : ∀ {xs : List PyData} {s : R3} (j : Nat), rnB b xs s = true → rnB b (xs.take j) s = true
  | _, _, 0, _ => by simp [rnB]
  | [], _, j + 1, _ => by simp [rnB]
  | .int y :: r, s, j + 1, h => by
    simp only [rnB, Bool.and_eq_true] at h
    simp only [List.take_succ_cons, rnB, h.1, Bool.true_and]
    exact rnB_take j h.2
  | .none :: r, _, j + 1, h => by simp [rnB] at h
  | .bool _ :: r, _, j + 1, h => by simp [rnB] at h
  | .str _ :: r, _, j + 1, h => by simp [rnB] at h
  | .list _ :: r, _, j + 1, h => by simp [rnB] at h
  | .tuple _ :: r, _, j + 1, h => by simp [rnB] at h
  | .dict _ :: r, _, j + 1, h => by simp [rnB] at h
theorem rgI_end {b : Int} (hb : 1 ≤ b) : rnB b ((rgI 2 (b + 2)).map .int) ⟨0, 2, 2⟩ = true := by
  rw [low_run (by omega) (by omega)]
  refine ⟨fun x hx => by have := rgI_mem.mp hx; omega, ?_⟩
  rw [rgI_len]
  congr 1
  omega
theorem weave_run {b : Int} (hb : 1 ≤ b) : ∀ {cs : List Int}, cs ≠ [] → (∀ c ∈ cs, 2 ≤ c ∧ c ≤ b + 1) → rnB b ((weave cs ++ rgI 2 (b + 2)).map .int) ⟨(cs.length : Int), 1, 2⟩ = true
  | [], h, _ => absurd rfl h
  | c :: r, _, h => by
    have hc := h c (List.mem_cons_self ..)
    have hr : ∀ x ∈ r, 2 ≤ x ∧ x ≤ b + 1 := fun x hx => h x (List.mem_cons_of_mem _ hx)
    have af1 : afB ⟨((r.length + 1 : Nat) : Int), 1, 2⟩ = ⟨(r.length : Int), 0, 2⟩ := by
      unfold afB
      rw [if_pos rfl]
      congr 1
      simp
    have af2 : afB ⟨(r.length : Int), 0, 2⟩ = ⟨(r.length : Int), if 0 < (r.length : Int) then 1 else 2, 2⟩ := by
      unfold afB
      rw [if_neg (by simp), if_pos rfl]
    have n1 : nxB b ⟨((r.length + 1 : Nat) : Int), 1, 2⟩ = [1] := by unfold nxB; rw [if_pos rfl]
    have n2 : nxB b ⟨(r.length : Int), 0, 2⟩ = rgI 2 (b + 1 + 1) := by unfold nxB; rw [if_neg (by simp), if_pos rfl]
    have hw : weave (c :: r) = 1 :: c :: weave r := rfl
    rw [hw, List.length_cons]
    simp only [List.cons_append, List.map_cons, rnB, af1, af2, n1, n2, Bool.and_eq_true, decide_eq_true_eq, List.mem_singleton, rgI_mem]
    refine ⟨trivial, ⟨by omega, by omega⟩, ?_⟩
    cases r with
    | nil =>
      rw [if_neg (by simp)]
      exact rgI_end hb
    | cons d q =>
      rw [if_pos (by simp)]
      exact weave_run hb (by simp) hr
theorem RunV.run {a b : Int} {run : List Int} (h : RunV a b run) (ha : 1 ≤ a) (hb : 1 ≤ b) : rnB b (run.map .int) (st0 a) = true := by
  obtain ⟨cs, j, h1, h2, rfl⟩ := h.ex
  rw [List.map_take]
  refine rnB_take j ?_
  unfold st0
  rw [← h1]
  exact weave_run hb (by intro q; rw [q] at h1; simp at h1; omega) h2
theorem whole_len {a b : Int} {cs : List Int} (h1 : (cs.length : Int) = a) (hb : 0 ≤ b) : ((weave cs ++ rgI 2 (b + 2)).length : Int) = 2 * a + b := by
  rw [List.length_append, weave_len, rgI_len]
  omega
theorem RunV.len {a b : Int} {run : List Int} (h : RunV a b run) (hb : 0 ≤ b) : (run.length : Int) ≤ 2 * a + b := by
  obtain ⟨cs, j, h1, h2, rfl⟩ := h.ex
  have := whole_len (b := b) h1 hb
  rw [List.length_take]
  omega
theorem at_last' {l : List PyData} {x : PyData} : L2.atI (l ++ [x]) (-1) = some x := by
  have h : L2.ixN (l ++ [x]).length (-1) = some l.length := by
    unfold L2.ixN
    rw [List.length_append, List.length_singleton, if_neg (by omega), if_pos (by omega)]
    congr 1
    omega
  unfold L2.atI
  rw [h]
  show (l ++ [x])[l.length]? = _
  simp
theorem RunV.last {a b : Int} {run : List Int} (h : RunV a b run) (hb : 1 ≤ b) (hl : (run.length : Int) = 2 * a + b) : L2.atI (run.map PyData.int) (-1) = some (.int (b + 1)) := by
  obtain ⟨cs, j, h1, h2, rfl⟩ := h.ex
  have hw := whole_len (b := b) h1 (by omega)
  rw [List.length_take] at hl
  rw [List.take_of_length_le (by omega), show b + 2 = b + 1 + 1 by omega, rgI_succ (by omega), ← List.append_assoc, List.map_append]
  exact at_last'
theorem drun_ok {k : Nat} {ns : Sc} {n : Nat} {a b : Int} (ha : 1 ≤ a ∧ a ≤ 100) (hb : 2 ≤ b ∧ b ≤ 100) (hn : n < 800000) : Post (rn Gm (k + 3) 60 [.ref 0, .ref 1, ru a b] (Tw ns n)) fun v s => ∃ run m, v = .d (.tuple (run.map .int)) ∧ RunV a b run ∧ s = Tw ns m ∧ m ≤ n + 102 := by
  suffices h : ∀ P : Va → Stt → Prop, (∀ run m, RunV a b run → m ≤ n + 102 → P (.d (.tuple (run.map .int))) (Tw ns m)) → Post (rn Gm (k + 3) 60 [.ref 0, .ref 1, ru a b] (Tw ns n)) P from h _ fun run m h1 h2 => ⟨run, m, rfl, h1, rfl, h2⟩
  intro P hP
  rw [run_at (d := ⟨5, 3, b_law_drawn_run⟩) rfl]
  rw [post_runB]
  refine ⟨rfl, ?_⟩
  have ea : L2.atI [PyData.int a, .int b] 0 = some (.int a) := rfl
  have eb : L2.atI [PyData.int a, .int b] 1 = some (.int b) := rfl
  have hr : rngOk 0 a = true := by unfold rngOk; exact decide_eq_true (by omega)
  have hr2 : rngOk 2 (b + 2) = true := by unfold rngOk; exact decide_eq_true (by omega)
  have hlen : (rng2 0 a).length = a.toNat := by rw [rng2_rgI, List.length_map, rgI_len]; congr 1; omega
  simp only [b_law_drawn_run, post_cons]
  simp [ex, xB_eq, ev, evs, evb, evt, evo, evi, evf, tst, K.val, Bz.isi, isOwn, post_bind, post_ok, post_lift, post_ite, post_noexc, post_nil, bind_ok, fk_nx, fk_rt, fr_nx, fr_rt, lift_some, sto, stoT, wipeS, z_add, z_adds, z_addt, z_addl, z_sub, z_mul, z_mult, z_mull, z_fdiv, z_mod, z_eq, z_ne, z_eqi, z_eqb, z_eqs, z_eqn, z_lt, z_le, z_gt, z_ge, z_is0, z_is1, z_is2, z_is3, z_is4, z_is5, z_in0, z_in1, z_in2, z_in3, z_in4, z_in5, z_inl, z_int, z_nil, z_nit, z_t0, z_t1, z_t2, z_t3, z_t4, z_t5, z_tr, z_isb, z_isb1, z_isb2, z_isb3, z_isb4, z_isb5, z_addb, z_subb, z_nsb, z_rvt, z_rvl, z_stp, z_srl, z_srt, z_sti, z_stb, z_shl, z_ixt, z_ixl, z_ixr, z_slt, z_sll, z_lent, z_lenl, z_lenr, z_suml, z_sumt, z_maxl, z_maxt, z_minl, z_bi, z_bb, z_tul, z_tut, z_tur, z_lil, z_lit, z_all, z_max2, z_min2, z_kt, z_kl, z_cot, z_col, z_da, z_ds0, z_ds1, z_sql, z_sqt, z_isLr, z_fn, z_fb, z_fi, z_fs, sn_0, sn_1, sn_2, sn_3, sn_4, sn_5, sn_6, sn_7, sn_8, sn_9, sn_10, sn_11, sn_12, sn_13, sn_14, sn_15, sn_16, sn_17, sn_18, sn_19]
  simp only [q_law_drawn_run4, post_cons]
  simp [ex, xB_eq, ev, evs, evb, evt, evo, evi, evf, tst, K.val, Bz.isi, isOwn, post_bind, post_ok, post_lift, post_ite, post_noexc, post_nil, bind_ok, fk_nx, fk_rt, fr_nx, fr_rt, lift_some, sto, stoT, wipeS, z_add, z_adds, z_addt, z_addl, z_sub, z_mul, z_mult, z_mull, z_fdiv, z_mod, z_eq, z_ne, z_eqi, z_eqb, z_eqs, z_eqn, z_lt, z_le, z_gt, z_ge, z_is0, z_is1, z_is2, z_is3, z_is4, z_is5, z_in0, z_in1, z_in2, z_in3, z_in4, z_in5, z_inl, z_int, z_nil, z_nit, z_t0, z_t1, z_t2, z_t3, z_t4, z_t5, z_tr, z_isb, z_isb1, z_isb2, z_isb3, z_isb4, z_isb5, z_addb, z_subb, z_nsb, z_rvt, z_rvl, z_stp, z_srl, z_srt, z_sti, z_stb, z_shl, z_ixt, z_ixl, z_ixr, z_slt, z_sll, z_lent, z_lenl, z_lenr, z_suml, z_sumt, z_maxl, z_maxt, z_minl, z_bi, z_bb, z_tul, z_tut, z_tur, z_lil, z_lit, z_all, z_max2, z_min2, z_kt, z_kl, z_cot, z_col, z_da, z_ds0, z_ds1, z_sql, z_sqt, z_isLr, z_fn, z_fb, z_fi, z_fs, sn_0, sn_1, sn_2, sn_3, sn_4, sn_5, sn_6, sn_7, sn_8, sn_9, sn_10, sn_11, sn_12, sn_13, sn_14, sn_15, sn_16, sn_17, sn_18, sn_19, ea, hr]
  refine for_post (fun i env s => ∃ cs s4, cs.length = i ∧ (∀ c ∈ cs, 2 ≤ c ∧ c ≤ b + 1) ∧ s = Tw ns (n + i) ∧ env = [.v (.ref 0), .v (.ref 1), .v (ru a b), .v (.d (.tuple ((weave cs).map .int))), s4]) _ 0 ⟨[], _, rfl, by simp, rfl, rfl⟩ ?_ ?_
  · rintro i x env s hx ⟨cs, s4, hl, hc, rfl, rfl⟩
    have hi : i < (rng2 0 a).length := (List.getElem?_eq_some_iff.mp hx).1
    rw [hlen] at hi
    rw [Nat.zero_add] at *
    refine ⟨_, rfl, ?_⟩
    have hne : rng2 2 (b + 2) ≠ [] := by
      rw [rng2_rgI, rgI_cons (by omega)]
      simp
    simp only [q_law_drawn_run1, post_cons]
    simp [ex, xB_eq, ev, evs, evb, evt, evo, evi, evf, tst, K.val, Bz.isi, isOwn, post_bind, post_ok, post_lift, post_ite, post_noexc, post_nil, bind_ok, fk_nx, fk_rt, fr_nx, fr_rt, lift_some, sto, stoT, wipeS, z_add, z_adds, z_addt, z_addl, z_sub, z_mul, z_mult, z_mull, z_fdiv, z_mod, z_eq, z_ne, z_eqi, z_eqb, z_eqs, z_eqn, z_lt, z_le, z_gt, z_ge, z_is0, z_is1, z_is2, z_is3, z_is4, z_is5, z_in0, z_in1, z_in2, z_in3, z_in4, z_in5, z_inl, z_int, z_nil, z_nit, z_t0, z_t1, z_t2, z_t3, z_t4, z_t5, z_tr, z_isb, z_isb1, z_isb2, z_isb3, z_isb4, z_isb5, z_addb, z_subb, z_nsb, z_rvt, z_rvl, z_stp, z_srl, z_srt, z_sti, z_stb, z_shl, z_ixt, z_ixl, z_ixr, z_slt, z_sll, z_lent, z_lenl, z_lenr, z_suml, z_sumt, z_maxl, z_maxt, z_minl, z_bi, z_bb, z_tul, z_tut, z_tur, z_lil, z_lit, z_all, z_max2, z_min2, z_kt, z_kl, z_cot, z_col, z_da, z_ds0, z_ds1, z_sql, z_sqt, z_isLr, z_fn, z_fb, z_fi, z_fs, sn_0, sn_1, sn_2, sn_3, sn_4, sn_5, sn_6, sn_7, sn_8, sn_9, sn_10, sn_11, sn_12, sn_13, sn_14, sn_15, sn_16, sn_17, sn_18, sn_19, eb, hr2]
    refine (pick_ok hne (by omega)).imp ?_
    rintro _ _ ⟨x, rfl, hx, rfl⟩
    rw [rng2_rgI] at hx
    obtain ⟨c, hcm, rfl⟩ := List.mem_map.mp hx
    have hcm := rgI_mem.mp hcm
    have hz : (weave cs).length + 2 ≤ szl := by rw [weave_len]; unfold szl; omega
    simp [ex, xB_eq, ev, evs, evb, evt, evo, evi, evf, tst, K.val, Bz.isi, isOwn, post_bind, post_ok, post_lift, post_ite, post_noexc, post_nil, bind_ok, fk_nx, fk_rt, fr_nx, fr_rt, lift_some, sto, stoT, wipeS, z_add, z_adds, z_addt, z_addl, z_sub, z_mul, z_mult, z_mull, z_fdiv, z_mod, z_eq, z_ne, z_eqi, z_eqb, z_eqs, z_eqn, z_lt, z_le, z_gt, z_ge, z_is0, z_is1, z_is2, z_is3, z_is4, z_is5, z_in0, z_in1, z_in2, z_in3, z_in4, z_in5, z_inl, z_int, z_nil, z_nit, z_t0, z_t1, z_t2, z_t3, z_t4, z_t5, z_tr, z_isb, z_isb1, z_isb2, z_isb3, z_isb4, z_isb5, z_addb, z_subb, z_nsb, z_rvt, z_rvl, z_stp, z_srl, z_srt, z_sti, z_stb, z_shl, z_ixt, z_ixl, z_ixr, z_slt, z_sll, z_lent, z_lenl, z_lenr, z_suml, z_sumt, z_maxl, z_maxt, z_minl, z_bi, z_bb, z_tul, z_tut, z_tur, z_lil, z_lit, z_all, z_max2, z_min2, z_kt, z_kl, z_cot, z_col, z_da, z_ds0, z_ds1, z_sql, z_sqt, z_isLr, z_fn, z_fb, z_fi, z_fs, sn_0, sn_1, sn_2, sn_3, sn_4, sn_5, sn_6, sn_7, sn_8, sn_9, sn_10, sn_11, sn_12, sn_13, sn_14, sn_15, sn_16, sn_17, sn_18, sn_19, hz]
    refine ⟨cs ++ [c], by simp [hl], fun y hy => ?_, rfl, ?_⟩
    · rcases List.mem_append.mp hy with q | q
      · exact hc y q
      · rw [List.mem_singleton.mp q]; omega
    · rw [weave_snoc, List.map_append]; rfl
  · rintro env s ⟨cs, s4, hl, hc, rfl, rfl⟩
    rw [hlen, Nat.zero_add] at *
    rw [fk_nx]
    have h1 : (cs.length : Int) = a := by omega
    have hw := whole_len (b := b) h1 (by omega)
    have hz : (weave cs).length + (rng2 2 (b + 2)).length ≤ szl := by
      rw [rng2_rgI, List.length_map, ← List.length_append]; unfold szl; omega
    obtain ⟨whole, eW⟩ : ∃ whole, whole = weave cs ++ rgI 2 (b + 2) := ⟨_, rfl⟩
    have hmp : List.map PyData.int (weave cs) ++ rng2 2 (b + 2) = whole.map .int := by rw [rng2_rgI, eW, List.map_append]
    rw [← eW] at hw
    have fin : ∀ (i : Int) (m : Nat), 0 ≤ i → m ≤ n + 102 → P (.d (.tuple ((whole.take i.toNat).map .int))) (Tw ns m) := fun i m _ hm => hP _ m ⟨cs, i.toNat, h1, hc, by rw [eW]⟩ hm
    simp only [q_law_drawn_run3, post_cons]
    simp [ex, xB_eq, ev, evs, evb, evt, evo, evi, evf, tst, K.val, Bz.isi, isOwn, post_bind, post_ok, post_lift, post_ite, post_noexc, post_nil, bind_ok, fk_nx, fk_rt, fr_nx, fr_rt, lift_some, sto, stoT, wipeS, z_add, z_adds, z_addt, z_addl, z_sub, z_mul, z_mult, z_mull, z_fdiv, z_mod, z_eq, z_ne, z_eqi, z_eqb, z_eqs, z_eqn, z_lt, z_le, z_gt, z_ge, z_is0, z_is1, z_is2, z_is3, z_is4, z_is5, z_in0, z_in1, z_in2, z_in3, z_in4, z_in5, z_inl, z_int, z_nil, z_nit, z_t0, z_t1, z_t2, z_t3, z_t4, z_t5, z_tr, z_isb, z_isb1, z_isb2, z_isb3, z_isb4, z_isb5, z_addb, z_subb, z_nsb, z_rvt, z_rvl, z_stp, z_srl, z_srt, z_sti, z_stb, z_shl, z_ixt, z_ixl, z_ixr, z_slt, z_sll, z_lent, z_lenl, z_lenr, z_suml, z_sumt, z_maxl, z_maxt, z_minl, z_bi, z_bb, z_tul, z_tut, z_tur, z_lil, z_lit, z_all, z_max2, z_min2, z_kt, z_kl, z_cot, z_col, z_da, z_ds0, z_ds1, z_sql, z_sqt, z_isLr, z_fn, z_fb, z_fi, z_fs, sn_0, sn_1, sn_2, sn_3, sn_4, sn_5, sn_6, sn_7, sn_8, sn_9, sn_10, sn_11, sn_12, sn_13, sn_14, sn_15, sn_16, sn_17, sn_18, sn_19, eb, hr2, hz, hmp]
    have cutn : ∀ i : Int, 0 ≤ i → cut (whole.map PyData.int) none (some i) = (whole.take i.toNat).map .int := by
      intro i hi
      unfold cut
      simp only [HT.sIx]
      rw [if_neg (by omega), List.drop_zero, List.map_take, List.length_map]
      by_cases hle : i.toNat ≤ whole.length
      · rw [Nat.min_eq_left hle]; rfl
      · rw [Nat.min_eq_right (by omega), List.take_of_length_le (by rw [List.length_map]; omega), List.take_of_length_le (by rw [List.length_map]; omega)]
    simp only [q_law_drawn_run2, post_cons]
    simp [ex, xB_eq, ev, evs, evb, evt, evo, evi, evf, tst, K.val, Bz.isi, isOwn, post_bind, post_ok, post_lift, post_ite, post_noexc, post_nil, bind_ok, fk_nx, fk_rt, fr_nx, fr_rt, lift_some, sto, stoT, wipeS, z_add, z_adds, z_addt, z_addl, z_sub, z_mul, z_mult, z_mull, z_fdiv, z_mod, z_eq, z_ne, z_eqi, z_eqb, z_eqs, z_eqn, z_lt, z_le, z_gt, z_ge, z_is0, z_is1, z_is2, z_is3, z_is4, z_is5, z_in0, z_in1, z_in2, z_in3, z_in4, z_in5, z_inl, z_int, z_nil, z_nit, z_t0, z_t1, z_t2, z_t3, z_t4, z_t5, z_tr, z_isb, z_isb1, z_isb2, z_isb3, z_isb4, z_isb5, z_addb, z_subb, z_nsb, z_rvt, z_rvl, z_stp, z_srl, z_srt, z_sti, z_stb, z_shl, z_ixt, z_ixl, z_ixr, z_slt, z_sll, z_lent, z_lenl, z_lenr, z_suml, z_sumt, z_maxl, z_maxt, z_minl, z_bi, z_bb, z_tul, z_tut, z_tur, z_lil, z_lit, z_all, z_max2, z_min2, z_kt, z_kl, z_cot, z_col, z_da, z_ds0, z_ds1, z_sql, z_sqt, z_isLr, z_fn, z_fb, z_fi, z_fs, sn_0, sn_1, sn_2, sn_3, sn_4, sn_5, sn_6, sn_7, sn_8, sn_9, sn_10, sn_11, sn_12, sn_13, sn_14, sn_15, sn_16, sn_17, sn_18, sn_19]
    refine (draw_ok (by omega) (by omega)).imp ?_
    rintro _ _ ⟨j, rfl, j0, j1, rfl⟩
    try simp [ex, xB_eq, ev, evs, evb, evt, evo, evi, evf, tst, K.val, Bz.isi, isOwn, post_bind, post_ok, post_lift, post_ite, post_noexc, post_nil, bind_ok, fk_nx, fk_rt, fr_nx, fr_rt, lift_some, sto, stoT, wipeS, z_add, z_adds, z_addt, z_addl, z_sub, z_mul, z_mult, z_mull, z_fdiv, z_mod, z_eq, z_ne, z_eqi, z_eqb, z_eqs, z_eqn, z_lt, z_le, z_gt, z_ge, z_is0, z_is1, z_is2, z_is3, z_is4, z_is5, z_in0, z_in1, z_in2, z_in3, z_in4, z_in5, z_inl, z_int, z_nil, z_nit, z_t0, z_t1, z_t2, z_t3, z_t4, z_t5, z_tr, z_isb, z_isb1, z_isb2, z_isb3, z_isb4, z_isb5, z_addb, z_subb, z_nsb, z_rvt, z_rvl, z_stp, z_srl, z_srt, z_sti, z_stb, z_shl, z_ixt, z_ixl, z_ixr, z_slt, z_sll, z_lent, z_lenl, z_lenr, z_suml, z_sumt, z_maxl, z_maxt, z_minl, z_bi, z_bb, z_tul, z_tut, z_tur, z_lil, z_lit, z_all, z_max2, z_min2, z_kt, z_kl, z_cot, z_col, z_da, z_ds0, z_ds1, z_sql, z_sqt, z_isLr, z_fn, z_fb, z_fi, z_fs, sn_0, sn_1, sn_2, sn_3, sn_4, sn_5, sn_6, sn_7, sn_8, sn_9, sn_10, sn_11, sn_12, sn_13, sn_14, sn_15, sn_16, sn_17, sn_18, sn_19]
    refine (pick_ok (by simp) (by omega)).imp ?_
    rintro _ _ ⟨x, rfl, hx, rfl⟩
    simp only [List.mem_cons, List.not_mem_nil, or_false] at hx
    rcases hx with rfl | rfl
    · have := fin (whole.length : Int) (n + a.toNat + 1 + 1) (by omega) (by omega)
      have c1 := cutn (whole.length : Int) (by omega)
      simp [ex, xB_eq, ev, evs, evb, evt, evo, evi, evf, tst, K.val, Bz.isi, isOwn, post_bind, post_ok, post_lift, post_ite, post_noexc, post_nil, bind_ok, fk_nx, fk_rt, fr_nx, fr_rt, lift_some, sto, stoT, wipeS, z_add, z_adds, z_addt, z_addl, z_sub, z_mul, z_mult, z_mull, z_fdiv, z_mod, z_eq, z_ne, z_eqi, z_eqb, z_eqs, z_eqn, z_lt, z_le, z_gt, z_ge, z_is0, z_is1, z_is2, z_is3, z_is4, z_is5, z_in0, z_in1, z_in2, z_in3, z_in4, z_in5, z_inl, z_int, z_nil, z_nit, z_t0, z_t1, z_t2, z_t3, z_t4, z_t5, z_tr, z_isb, z_isb1, z_isb2, z_isb3, z_isb4, z_isb5, z_addb, z_subb, z_nsb, z_rvt, z_rvl, z_stp, z_srl, z_srt, z_sti, z_stb, z_shl, z_ixt, z_ixl, z_ixr, z_slt, z_sll, z_lent, z_lenl, z_lenr, z_suml, z_sumt, z_maxl, z_maxt, z_minl, z_bi, z_bb, z_tul, z_tut, z_tur, z_lil, z_lit, z_all, z_max2, z_min2, z_kt, z_kl, z_cot, z_col, z_da, z_ds0, z_ds1, z_sql, z_sqt, z_isLr, z_fn, z_fb, z_fi, z_fs, sn_0, sn_1, sn_2, sn_3, sn_4, sn_5, sn_6, sn_7, sn_8, sn_9, sn_10, sn_11, sn_12, sn_13, sn_14, sn_15, sn_16, sn_17, sn_18, sn_19, c1]
      simpa using this
    · have := fin j (n + a.toNat + 1 + 1) j0 (by omega)
      have c1 := cutn j j0
      simp [ex, xB_eq, ev, evs, evb, evt, evo, evi, evf, tst, K.val, Bz.isi, isOwn, post_bind, post_ok, post_lift, post_ite, post_noexc, post_nil, bind_ok, fk_nx, fk_rt, fr_nx, fr_rt, lift_some, sto, stoT, wipeS, z_add, z_adds, z_addt, z_addl, z_sub, z_mul, z_mult, z_mull, z_fdiv, z_mod, z_eq, z_ne, z_eqi, z_eqb, z_eqs, z_eqn, z_lt, z_le, z_gt, z_ge, z_is0, z_is1, z_is2, z_is3, z_is4, z_is5, z_in0, z_in1, z_in2, z_in3, z_in4, z_in5, z_inl, z_int, z_nil, z_nit, z_t0, z_t1, z_t2, z_t3, z_t4, z_t5, z_tr, z_isb, z_isb1, z_isb2, z_isb3, z_isb4, z_isb5, z_addb, z_subb, z_nsb, z_rvt, z_rvl, z_stp, z_srl, z_srt, z_sti, z_stb, z_shl, z_ixt, z_ixl, z_ixr, z_slt, z_sll, z_lent, z_lenl, z_lenr, z_suml, z_sumt, z_maxl, z_maxt, z_minl, z_bi, z_bb, z_tul, z_tut, z_tur, z_lil, z_lit, z_all, z_max2, z_min2, z_kt, z_kl, z_cot, z_col, z_da, z_ds0, z_ds1, z_sql, z_sqt, z_isLr, z_fn, z_fb, z_fi, z_fs, sn_0, sn_1, sn_2, sn_3, sn_4, sn_5, sn_6, sn_7, sn_8, sn_9, sn_10, sn_11, sn_12, sn_13, sn_14, sn_15, sn_16, sn_17, sn_18, sn_19, c1]
      simpa using this
section
variable {k : Nat} {a b : Int} {st : Stt}
theorem full_ok (ha : 0 ≤ a ∧ a ≤ 1000) (hb : 0 ≤ b ∧ b ≤ 1000) : rn Gm (k + 3) 4 [ru a b] st = .ok (.d (.int (a * (1 + (b + 1)) + (rgI 2 (b + 1 + 1)).sum))) st := by
  refine Post.eq ?_
  rw [run_at (d := ⟨1, 1, b_full_worth⟩) rfl]
  rw [post_runB]
  refine ⟨rfl, ?_⟩
  have hm : mulOk a (1 + (b + 1)) = true := mulOk_l (by omega) (by omega)
  have h2 := colours_ok (k := k) (a := a) (b := b) (low := 2) (st := st) (by omega) (by omega)
  simp only [b_full_worth, post_cons]
  simp [ex, xB_eq, ev, evs, evb, evt, evo, evi, evf, tst, K.val, Bz.isi, isOwn, post_bind, post_ok, post_lift, post_ite, post_noexc, post_nil, bind_ok, fk_nx, fk_rt, fr_nx, fr_rt, lift_some, sto, stoT, wipeS, z_add, z_adds, z_addt, z_addl, z_sub, z_mul, z_mult, z_mull, z_fdiv, z_mod, z_eq, z_ne, z_eqi, z_eqb, z_eqs, z_eqn, z_lt, z_le, z_gt, z_ge, z_is0, z_is1, z_is2, z_is3, z_is4, z_is5, z_in0, z_in1, z_in2, z_in3, z_in4, z_in5, z_inl, z_int, z_nil, z_nit, z_t0, z_t1, z_t2, z_t3, z_t4, z_t5, z_tr, z_isb, z_isb1, z_isb2, z_isb3, z_isb4, z_isb5, z_addb, z_subb, z_nsb, z_rvt, z_rvl, z_stp, z_srl, z_srt, z_sti, z_stb, z_shl, z_ixt, z_ixl, z_ixr, z_slt, z_sll, z_lent, z_lenl, z_lenr, z_suml, z_sumt, z_maxl, z_maxt, z_minl, z_bi, z_bb, z_tul, z_tut, z_tur, z_lil, z_lit, z_all, z_max2, z_min2, z_kt, z_kl, z_cot, z_col, z_da, z_ds0, z_ds1, z_sql, z_sqt, z_isLr, z_fn, z_fb, z_fi, z_fs, sn_0, sn_1, sn_2, sn_3, sn_4, sn_5, sn_6, sn_7, sn_8, sn_9, sn_10, sn_11, sn_12, sn_13, sn_14, sn_15, sn_16, sn_17, sn_18, sn_19, L2.atI, L2.ixN, top_ok, h2, hm, ints_map]
theorem sum_ok {l : List Int} : rn Gm (k + 1) 5 [.d (.tuple (l.map .int))] st = .ok (.d (.int l.sum)) st := by
  refine Post.eq ?_
  rw [run_at (d := ⟨1, 1, b_sum_of⟩) rfl]
  rw [post_runB]
  refine ⟨rfl, ?_⟩
  simp only [b_sum_of, post_cons]
  simp [ex, xB_eq, ev, evs, evb, evt, evo, evi, evf, tst, K.val, Bz.isi, isOwn, post_bind, post_ok, post_lift, post_ite, post_noexc, post_nil, bind_ok, fk_nx, fk_rt, fr_nx, fr_rt, lift_some, sto, stoT, wipeS, z_add, z_adds, z_addt, z_addl, z_sub, z_mul, z_mult, z_mull, z_fdiv, z_mod, z_eq, z_ne, z_eqi, z_eqb, z_eqs, z_eqn, z_lt, z_le, z_gt, z_ge, z_is0, z_is1, z_is2, z_is3, z_is4, z_is5, z_in0, z_in1, z_in2, z_in3, z_in4, z_in5, z_inl, z_int, z_nil, z_nit, z_t0, z_t1, z_t2, z_t3, z_t4, z_t5, z_tr, z_isb, z_isb1, z_isb2, z_isb3, z_isb4, z_isb5, z_addb, z_subb, z_nsb, z_rvt, z_rvl, z_stp, z_srl, z_srt, z_sti, z_stb, z_shl, z_ixt, z_ixl, z_ixr, z_slt, z_sll, z_lent, z_lenl, z_lenr, z_suml, z_sumt, z_maxl, z_maxt, z_minl, z_bi, z_bb, z_tul, z_tut, z_tur, z_lil, z_lit, z_all, z_max2, z_min2, z_kt, z_kl, z_cot, z_col, z_da, z_ds0, z_ds1, z_sql, z_sqt, z_isLr, z_fn, z_fb, z_fi, z_fs, sn_0, sn_1, sn_2, sn_3, sn_4, sn_5, sn_6, sn_7, sn_8, sn_9, sn_10, sn_11, sn_12, sn_13, sn_14, sn_15, sn_16, sn_17, sn_18, sn_19, ints_map]
end
/-- the balls, by hand -/
def outs (l : List Int) : List PyData := (sortU l).map fun x => .tuple [.int x, .int (l.count x)]
theorem sorted_ok {k : Nat} {l : List Int} {st : Stt} (hl : l.length ≤ 60) : rn Gm (k + 1) 6 [.d (.tuple (l.map .int))] st = .ok (.d (.tuple (outs l))) st := by
  refine Post.eq ?_
  rw [run_at (d := ⟨3, 1, b_sorted_out⟩) rfl]
  rw [post_runB]
  refine ⟨rfl, ?_⟩
  simp only [b_sorted_out, post_cons]
  simp [ex, xB_eq, ev, evs, evb, evt, evo, evi, evf, tst, K.val, Bz.isi, isOwn, post_bind, post_ok, post_lift, post_ite, post_noexc, post_nil, bind_ok, fk_nx, fk_rt, fr_nx, fr_rt, lift_some, sto, stoT, wipeS, z_add, z_adds, z_addt, z_addl, z_sub, z_mul, z_mult, z_mull, z_fdiv, z_mod, z_eq, z_ne, z_eqi, z_eqb, z_eqs, z_eqn, z_lt, z_le, z_gt, z_ge, z_is0, z_is1, z_is2, z_is3, z_is4, z_is5, z_in0, z_in1, z_in2, z_in3, z_in4, z_in5, z_inl, z_int, z_nil, z_nit, z_t0, z_t1, z_t2, z_t3, z_t4, z_t5, z_tr, z_isb, z_isb1, z_isb2, z_isb3, z_isb4, z_isb5, z_addb, z_subb, z_nsb, z_rvt, z_rvl, z_stp, z_srl, z_srt, z_sti, z_stb, z_shl, z_ixt, z_ixl, z_ixr, z_slt, z_sll, z_lent, z_lenl, z_lenr, z_suml, z_sumt, z_maxl, z_maxt, z_minl, z_bi, z_bb, z_tul, z_tut, z_tur, z_lil, z_lit, z_all, z_max2, z_min2, z_kt, z_kl, z_cot, z_col, z_da, z_ds0, z_ds1, z_sql, z_sqt, z_isLr, z_fn, z_fb, z_fi, z_fs, sn_0, sn_1, sn_2, sn_3, sn_4, sn_5, sn_6, sn_7, sn_8, sn_9, sn_10, sn_11, sn_12, sn_13, sn_14, sn_15, sn_16, sn_17, sn_18, sn_19]
  simp only [q_sorted_out4, post_cons]
  simp [ex, xB_eq, ev, evs, evb, evt, evo, evi, evf, tst, K.val, Bz.isi, isOwn, post_bind, post_ok, post_lift, post_ite, post_noexc, post_nil, bind_ok, fk_nx, fk_rt, fr_nx, fr_rt, lift_some, sto, stoT, wipeS, z_add, z_adds, z_addt, z_addl, z_sub, z_mul, z_mult, z_mull, z_fdiv, z_mod, z_eq, z_ne, z_eqi, z_eqb, z_eqs, z_eqn, z_lt, z_le, z_gt, z_ge, z_is0, z_is1, z_is2, z_is3, z_is4, z_is5, z_in0, z_in1, z_in2, z_in3, z_in4, z_in5, z_inl, z_int, z_nil, z_nit, z_t0, z_t1, z_t2, z_t3, z_t4, z_t5, z_tr, z_isb, z_isb1, z_isb2, z_isb3, z_isb4, z_isb5, z_addb, z_subb, z_nsb, z_rvt, z_rvl, z_stp, z_srl, z_srt, z_sti, z_stb, z_shl, z_ixt, z_ixl, z_ixr, z_slt, z_sll, z_lent, z_lenl, z_lenr, z_suml, z_sumt, z_maxl, z_maxt, z_minl, z_bi, z_bb, z_tul, z_tut, z_tur, z_lil, z_lit, z_all, z_max2, z_min2, z_kt, z_kl, z_cot, z_col, z_da, z_ds0, z_ds1, z_sql, z_sqt, z_isLr, z_fn, z_fb, z_fi, z_fs, sn_0, sn_1, sn_2, sn_3, sn_4, sn_5, sn_6, sn_7, sn_8, sn_9, sn_10, sn_11, sn_12, sn_13, sn_14, sn_15, sn_16, sn_17, sn_18, sn_19, ints_map, hl]
  refine for_post (fun i env s => s = st ∧ ∃ s2, env = [.v (.d (.tuple (l.map .int))), .own ((outs l).take i), s2]) _ 0 ⟨rfl, _, rfl⟩ ?_ ?_
  · rintro i x env s hx ⟨rfl, s2, rfl⟩
    rw [List.getElem?_map, Option.map_eq_some_iff] at hx
    obtain ⟨z, hz, rfl⟩ := hx
    have ho : (outs l)[i]? = some (.tuple [.int z, .int (l.count z)]) := by
      unfold outs; rw [List.getElem?_map, hz]; rfl
    have hlen : ((outs l).take i).length < szl := by
      have : (outs l).length ≤ 60 := by unfold outs; rw [List.length_map]; exact Nat.le_trans sortU_len hl
      rw [List.length_take]; unfold szl; omega
    refine ⟨_, rfl, ?_⟩
    simp only [q_sorted_out1, post_cons]
    simp [ex, xB_eq, ev, evs, evb, evt, evo, evi, evf, tst, K.val, Bz.isi, isOwn, post_bind, post_ok, post_lift, post_ite, post_noexc, post_nil, bind_ok, fk_nx, fk_rt, fr_nx, fr_rt, lift_some, sto, stoT, wipeS, z_add, z_adds, z_addt, z_addl, z_sub, z_mul, z_mult, z_mull, z_fdiv, z_mod, z_eq, z_ne, z_eqi, z_eqb, z_eqs, z_eqn, z_lt, z_le, z_gt, z_ge, z_is0, z_is1, z_is2, z_is3, z_is4, z_is5, z_in0, z_in1, z_in2, z_in3, z_in4, z_in5, z_inl, z_int, z_nil, z_nit, z_t0, z_t1, z_t2, z_t3, z_t4, z_t5, z_tr, z_isb, z_isb1, z_isb2, z_isb3, z_isb4, z_isb5, z_addb, z_subb, z_nsb, z_rvt, z_rvl, z_stp, z_srl, z_srt, z_sti, z_stb, z_shl, z_ixt, z_ixl, z_ixr, z_slt, z_sll, z_lent, z_lenl, z_lenr, z_suml, z_sumt, z_maxl, z_maxt, z_minl, z_bi, z_bb, z_tul, z_tut, z_tur, z_lil, z_lit, z_all, z_max2, z_min2, z_kt, z_kl, z_cot, z_col, z_da, z_ds0, z_ds1, z_sql, z_sqt, z_isLr, z_fn, z_fb, z_fi, z_fs, sn_0, sn_1, sn_2, sn_3, sn_4, sn_5, sn_6, sn_7, sn_8, sn_9, sn_10, sn_11, sn_12, sn_13, sn_14, sn_15, sn_16, sn_17, sn_18, sn_19, flat_ints, countP_ints, flat]
    rw [if_pos (by rwa [List.length_take] at hlen), ← List.countP_map, countP_ints, List.take_succ, ho]
    rfl
  · rintro env s ⟨rfl, s2, rfl⟩
    rw [fk_nx]
    simp only [q_sorted_out3, post_cons]
    simp [ex, xB_eq, ev, evs, evb, evt, evo, evi, evf, tst, K.val, Bz.isi, isOwn, post_bind, post_ok, post_lift, post_ite, post_noexc, post_nil, bind_ok, fk_nx, fk_rt, fr_nx, fr_rt, lift_some, sto, stoT, wipeS, z_add, z_adds, z_addt, z_addl, z_sub, z_mul, z_mult, z_mull, z_fdiv, z_mod, z_eq, z_ne, z_eqi, z_eqb, z_eqs, z_eqn, z_lt, z_le, z_gt, z_ge, z_is0, z_is1, z_is2, z_is3, z_is4, z_is5, z_in0, z_in1, z_in2, z_in3, z_in4, z_in5, z_inl, z_int, z_nil, z_nit, z_t0, z_t1, z_t2, z_t3, z_t4, z_t5, z_tr, z_isb, z_isb1, z_isb2, z_isb3, z_isb4, z_isb5, z_addb, z_subb, z_nsb, z_rvt, z_rvl, z_stp, z_srl, z_srt, z_sti, z_stb, z_shl, z_ixt, z_ixl, z_ixr, z_slt, z_sll, z_lent, z_lenl, z_lenr, z_suml, z_sumt, z_maxl, z_maxt, z_minl, z_bi, z_bb, z_tul, z_tut, z_tur, z_lil, z_lit, z_all, z_max2, z_min2, z_kt, z_kl, z_cot, z_col, z_da, z_ds0, z_ds1, z_sql, z_sqt, z_isLr, z_fn, z_fb, z_fi, z_fs, sn_0, sn_1, sn_2, sn_3, sn_4, sn_5, sn_6, sn_7, sn_8, sn_9, sn_10, sn_11, sn_12, sn_13, sn_14, sn_15, sn_16, sn_17, sn_18, sn_19]
    simp only [q_sorted_out2, post_cons]
    simp [ex, xB_eq, ev, evs, evb, evt, evo, evi, evf, tst, K.val, Bz.isi, isOwn, post_bind, post_ok, post_lift, post_ite, post_noexc, post_nil, bind_ok, fk_nx, fk_rt, fr_nx, fr_rt, lift_some, sto, stoT, wipeS, z_add, z_adds, z_addt, z_addl, z_sub, z_mul, z_mult, z_mull, z_fdiv, z_mod, z_eq, z_ne, z_eqi, z_eqb, z_eqs, z_eqn, z_lt, z_le, z_gt, z_ge, z_is0, z_is1, z_is2, z_is3, z_is4, z_is5, z_in0, z_in1, z_in2, z_in3, z_in4, z_in5, z_inl, z_int, z_nil, z_nit, z_t0, z_t1, z_t2, z_t3, z_t4, z_t5, z_tr, z_isb, z_isb1, z_isb2, z_isb3, z_isb4, z_isb5, z_addb, z_subb, z_nsb, z_rvt, z_rvl, z_stp, z_srl, z_srt, z_sti, z_stb, z_shl, z_ixt, z_ixl, z_ixr, z_slt, z_sll, z_lent, z_lenl, z_lenr, z_suml, z_sumt, z_maxl, z_maxt, z_minl, z_bi, z_bb, z_tul, z_tut, z_tur, z_lil, z_lit, z_all, z_max2, z_min2, z_kt, z_kl, z_cot, z_col, z_da, z_ds0, z_ds1, z_sql, z_sqt, z_isLr, z_fn, z_fb, z_fi, z_fs, sn_0, sn_1, sn_2, sn_3, sn_4, sn_5, sn_6, sn_7, sn_8, sn_9, sn_10, sn_11, sn_12, sn_13, sn_14, sn_15, sn_16, sn_17, sn_18, sn_19]
    exact List.take_of_length_le (by unfold outs; rw [List.length_map]; exact Nat.le_refl _)
/-! ### a run struck, ball by ball -/
def dsR (xs : List Int) : List Dd := xs.map fun x => .stroke x [x] false
def runP (player : Int) (s : R3) (t : Int) : Pl := ⟨player, s.on, s.reds, s.low, sel player t 0, sel player 0 t, 0⟩
theorem sel_add1 {i x y : Int} : sel i x 0 + sel i y 0 = sel i (x + y) 0 ∧ sel i 0 x + sel i 0 y = sel i 0 (x + y) := by
  unfold sel; split <;> simp
theorem run_step {b player t y : Int} {s : R3} (hb : 1 ≤ b) (hs : R3Ok b s) (hy : y ∈ nxB b s) (hpl : player = 0 ∨ player = 1) (ht : 0 ≤ t) :
    fair (runP player s t) y [y] false = true ∧ jd (runP player s t) y [y] false = (y, 0) ∧ 1 ≤ y ∧ y ≤ b + 1 ∧
    moved b (runP player s t) (.stroke y [y] false) = some (if s.on = b + 1 then ⟨none, some player, sel player (t + y) 0, sel player 0 (t + y)⟩ else ⟨some (runP player (afB s) (t + y)), none, sel player (t + y) 0, sel player 0 (t + y)⟩) := by
  have h1 := hs.reds
  have h2 := hs.low
  have h3 := hs.on
  obtain ⟨e1, e2⟩ := sel_add1 (i := player) (x := t) (y := y)
  have fin : ∀ (hyb : 1 ≤ y ∧ y ≤ b + 1) (hh : here (runP player s t) y [y] = true) (hf : fair (runP player s t) y [y] false = true) (hj : jd (runP player s t) y [y] false = (y, 0)) (hst : strk b (runP player s t) (y, 0) [y] = (if s.on = b + 1 then ⟨none, some player, sel player (t + y) 0, sel player 0 (t + y)⟩ else ⟨some (runP player (afB s) (t + y)), none, sel player (t + y) 0, sel player 0 (t + y)⟩)),
      fair (runP player s t) y [y] false = true ∧ jd (runP player s t) y [y] false = (y, 0) ∧ 1 ≤ y ∧ y ≤ b + 1 ∧ moved b (runP player s t) (.stroke y [y] false) = some (if s.on = b + 1 then ⟨none, some player, sel player (t + y) 0, sel player 0 (t + y)⟩ else ⟨some (runP player (afB s) (t + y)), none, sel player (t + y) 0, sel player 0 (t + y)⟩) := by
    intro hyb hh hf hj hst
    refine ⟨hf, hj, hyb.1, hyb.2, ?_⟩
    have a1 : moved b (runP player s t) (.stroke y [y] false) = some (strk b (runP player s t) (jd (runP player s t) y [y] false) [y]) := if_pos hh
    rw [a1, hj, hst]
  by_cases o1 : s.on = 1
  · have hy1 : y = 1 := by
      unfold nxB at hy
      rw [if_pos o1] at hy
      exact List.mem_singleton.mp hy
    subst hy1
    have hf : fair (runP player s t) 1 [1] false = true := by simp [fair, canF, runP, o1]
    refine fin (by omega) ?_ hf ?_ ?_
    · unfold here
      have hq : ¬ ((runP player s t).reds < (([1] : List Int).count 1 : Int) ∨ ((1 : Int) = 1 ∧ (runP player s t).reds = 0) ∨ ((1 : Int) < 1 ∧ (1 : Int) < (runP player s t).low)) := by
        show ¬ (s.reds < (([1] : List Int).count 1 : Int) ∨ ((1 : Int) = 1 ∧ s.reds = 0) ∨ ((1 : Int) < 1 ∧ (1 : Int) < s.low))
        simp
        omega
      rw [if_neg hq]
      simp
    · unfold jd
      rw [if_pos hf]
      show (if s.on = 1 then _ else _) = _
      rw [if_pos o1]
      rfl
    · unfold strk
      rw [if_neg (fun z => by have : s.on = b + 1 := z.1; omega), if_neg (show ¬ s.on = b + 1 by omega)]
      have haf : afB s = ⟨s.reds - 1, 0, s.low⟩ := by unfold afB; rw [if_pos o1]
      rw [haf]
      have hnl : ¬ (s.on = s.low) := by omega
      simp only [runP, o1, e1, e2]
      have hnl2 : ¬ ((1 : Int) = s.low) := by omega
      simp [hnl2, Int.add_zero]
      try exact ⟨⟨e1, e2⟩, e1, e2⟩
  · by_cases o0 : s.on = 0
    · have hy2 : 2 ≤ y ∧ y ≤ b + 1 := by
        unfold nxB at hy
        rw [if_neg o1, if_pos o0] at hy
        have := rgI_mem.mp hy
        omega
      have hy3 : 1 < y := by omega
      have hc : [y].count 1 = 0 := by rw [List.count_eq_zero]; simp; omega
      have hf : fair (runP player s t) y [y] false = true := by simp [fair, canF, runP, o0, hy3]
      refine fin (by omega) ?_ hf ?_ ?_
      · unfold here
        rw [hc, if_neg (by show ¬ (s.reds < _ ∨ _ ∨ (1 < y ∧ y < s.low)); omega)]
        have : ¬ (1 < y ∧ y < (runP player s t).low) := by show ¬ (1 < y ∧ y < s.low); omega
        simp [this]
      · unfold jd
        rw [if_pos hf]
        simp [runP, o0]
      · unfold strk
        rw [if_neg (fun z => by have : s.on = b + 1 := z.1; omega), if_neg (show ¬ s.on = b + 1 by omega), hc]
        have haf : afB s = ⟨s.reds, if 0 < s.reds then 1 else 2, s.low⟩ := by unfold afB; rw [if_neg o1, if_pos o0]
        rw [haf]
        have hnl : ¬ (s.on = s.low) := by omega
        have h0y : 0 < y := by omega
        have hlow : s.low = 2 := by omega
        simp only [runP, o0, e1, e2]
        have hnl2 : ¬ ((0 : Int) = s.low) := by omega
        simp [hnl2, h0y, hlow, Int.add_zero]
        try exact ⟨⟨e1, e2⟩, e1, e2⟩
    · have hon : s.on = s.low ∧ s.reds = 0 := by omega
      have hyl : y = s.low ∧ s.low ≤ b + 1 := by
        rw [nx_low (by omega)] at hy
        split at hy
        · exact ⟨List.mem_singleton.mp hy, by omega⟩
        · cases hy
      have hc : [y].count 1 = 0 := by rw [List.count_eq_zero]; simp; omega
      have hf : fair (runP player s t) y [y] false = true := by
        have h0 : ¬ s.low = 0 := by omega
        simp [fair, canF, runP, hon.1, hyl.1, h0]
      refine fin (by omega) ?_ hf ?_ ?_
      · unfold here
        rw [hc, if_neg (by show ¬ (s.reds < _ ∨ (y = 1 ∧ s.reds = 0) ∨ (1 < y ∧ y < s.low)); omega)]
        have : ¬ (1 < y ∧ y < (runP player s t).low) := by show ¬ (1 < y ∧ y < s.low); omega
        simp [this]
      · unfold jd
        rw [if_pos hf]
        have h0 : ¬ s.low = 0 := by omega
        have h1 : ¬ s.low = 1 := by omega
        simp [runP, hon.1, h0, h1, hyl.1]
      · unfold strk
        have h0y : 0 < y := by omega
        by_cases ht2 : s.on = b + 1
        · rw [if_pos (show (runP player s t).on = b + 1 ∧ _ from ⟨ht2, .inr h0y⟩), if_pos ht2]
          simp only [runP, e1, e2]
          rcases hpl with u | u
          · subst u
            simp only [sel, if_true]
            rw [if_neg (by omega), if_neg (by omega)]
          · subst u
            simp only [sel, show ¬ ((1 : Int) = 0) by omega, if_false]
            rw [if_neg (by omega), if_pos (by omega)]
        · rw [if_neg (show ¬ ((runP player s t).on = b + 1 ∧ _) from fun z => ht2 z.1), if_neg ht2, hc]
          have haf : afB s = ⟨s.reds, s.low + 1, s.low + 1⟩ := by unfold afB; rw [if_neg o1, if_neg o0]
          rw [haf]
          have h1l : ¬ s.low = 1 := by omega
          simp only [runP, hon.1, hon.2, hyl.1, e1, e2]
          rw [← hyl.1]
          have hy1 : ¬ y = 1 := by omega
          simp [h0y, hy1]
          exact ⟨e1, e2⟩
/-- how many balls there are still to come -/
def remB (b : Int) (s : R3) : Int := if s.on = 1 then 2 * s.reds + b else if s.on = 0 then 1 + 2 * s.reds + b else b + 2 - s.low
theorem rem_af {b : Int} {s : R3} (hs : R3Ok b s) : remB b (afB s) = remB b s - 1 := by
  have h1 := hs.reds
  have h2 := hs.low
  have h3 := hs.on
  unfold remB afB
  by_cases o1 : s.on = 1
  · rw [if_pos o1, if_pos o1]
    simp
    omega
  · rw [if_neg o1, if_neg o1]
    by_cases o0 : s.on = 0
    · rw [if_pos o0, if_pos o0]
      by_cases hr : 0 < s.reds
      · simp [hr]; omega
      · simp [hr]; omega
    · rw [if_neg o0, if_neg o0]
      simp only
      rw [if_neg (by omega), if_neg (by omega)]
      omega
def lastB (a b : Int) (xs : List Int) : Int := ((List.range (min (2 * a).toNat xs.length / 2)).map fun (m : Nat) => b + 1 - xs.getD (1 + 2 * m) 0).sum
theorem lastB_snoc {a b : Int} {xs : List Int} {y : Int} : lastB a b (xs ++ [y]) = lastB a b xs + if xs.length < (2 * a).toNat ∧ xs.length % 2 = 1 then b + 1 - y else 0 := by
  unfold lastB
  have hc : ∀ n, 2 * n ≤ xs.length → ((List.range n).map fun (m : Nat) => b + 1 - (xs ++ [y]).getD (1 + 2 * m) 0) = ((List.range n).map fun (m : Nat) => b + 1 - xs.getD (1 + 2 * m) 0) := by
    intro n hn
    refine List.map_congr_left fun m hm => ?_
    have := List.mem_range.mp hm
    rw [List.getD_eq_getElem?_getD, List.getD_eq_getElem?_getD, List.getElem?_append_left (by omega)]
  rw [List.length_append, List.length_singleton]
  by_cases h : xs.length < (2 * a).toNat ∧ xs.length % 2 = 1
  · rw [if_pos h]
    have e1 : min (2 * a).toNat (xs.length + 1) / 2 = min (2 * a).toNat xs.length / 2 + 1 := by omega
    rw [e1, List.range_succ, List.map_append, List.sum_append, hc _ (by omega)]
    simp only [List.map_cons, List.map_nil, List.sum_cons, List.sum_nil, Int.add_zero]
    have : 1 + 2 * (min (2 * a).toNat xs.length / 2) = xs.length := by omega
    rw [this, List.getD_eq_getElem?_getD, List.getElem?_append_right (Nat.le_refl _)]
    simp
  · rw [if_neg h, Int.add_zero]
    have e1 : min (2 * a).toNat (xs.length + 1) / 2 = min (2 * a).toNat xs.length / 2 := by omega
    rw [e1, hc _ (by omega)]
/-- all that is told of a run that is struck -/
structure RunS (a b player : Int) (xs : List Int) (s : R3) (fo : Fo) : Prop where
  ok : FrOk a b player (dsR xs) fo
  st : R3Ok b s
  rem : remB b s = 2 * a + b - xs.length
  p0 : fo.p0 = sel player xs.sum 0
  p1 : fo.p1 = sel player 0 xs.sum
  nn : 0 ≤ xs.sum
  pl : fo.pl = if s.low = b + 2 then none else some (runP player s xs.sum)
  win : fo.win = if s.low = b + 2 then some player else none
  vis : visV a b player (dsR xs) = ⟨if xs = [] then [] else [(player, xs.sum, (xs.length : Int))], decide (xs = [])⟩
  fal : falV a b player (dsR xs) = xs
  fou : fouV a b player (dsR xs) = ⟨0, 0, 0, 0⟩
  lst : s.low ≠ b + 2 → restV a b s.reds s.low + (if s.on = 0 then b + 1 else 0) + xs.sum + lastB a b xs = a * (1 + (b + 1)) + clS 2 (b + 1 + 1)
theorem dsR_snoc {xs : List Int} {y : Int} : dsR (xs ++ [y]) = dsR xs ++ [.stroke y [y] false] := by unfold dsR; rw [List.map_append]; rfl
theorem RunS.snoc {a b player : Int} {xs : List Int} {s : R3} {fo : Fo} {y : Int} (h : RunS a b player xs s fo) (ha : 1 ≤ a) (hb : 1 ≤ b) (hy : y ∈ nxB b s) : ∃ f2, RunS a b player (xs ++ [y]) (afB s) f2 := by
  have h1 := h.st.reds
  have h2 := h.st.low
  have h3 := h.st.on
  have hpl := h.ok.pl
  have hlow : s.low ≠ b + 2 := by
    intro q
    rw [nx_low (by omega)] at hy
    rw [if_neg (by omega)] at hy
    cases hy
  obtain ⟨k1, k2, k3, k4, k5⟩ := run_step hb h.st hy hpl h.nn
  have hpl0 := h.pl
  rw [if_neg hlow] at hpl0
  have hd : DdOk a b (.stroke y [y] false) := ok_one ha ⟨k3, k4⟩
  have hsum : (xs ++ [y]).sum = xs.sum + y := by simp
  have hst := h.st.af hy
  have hafl : (afB s).low = b + 2 ↔ s.on = b + 1 := by
    unfold afB
    by_cases o1 : s.on = 1
    · rw [if_pos o1]; show s.low = b + 2 ↔ _; omega
    · rw [if_neg o1]
      by_cases o0 : s.on = 0
      · rw [if_pos o0]; show s.low = b + 2 ↔ _; omega
      · rw [if_neg o0]; show s.low + 1 = b + 2 ↔ _; omega
  generalize hf2 : (if s.on = b + 1 then (⟨none, some player, sel player (xs.sum + y) 0, sel player 0 (xs.sum + y)⟩ : Fo) else ⟨some (runP player (afB s) (xs.sum + y)), none, sel player (xs.sum + y) 0, sel player 0 (xs.sum + y)⟩) = f2 at k5
  have hvv := vis_snoc h.ok.led hpl0 k5
  have hfv := fal_snoc h.ok.led hpl0 k5
  have hgv := fou_snoc h.ok.led hpl0 k5
  refine ⟨f2, ?_, hst, ?_, ?_, ?_, ?_, ?_, ?_, ?_, ?_, ?_, ?_⟩
  · rw [dsR_snoc]; exact h.ok.snoc hpl0 hd k5
  · rw [rem_af h.st, h.rem]; simp; omega
  · rw [hsum, ← hf2]; split <;> rfl
  · rw [hsum, ← hf2]; split <;> rfl
  · rw [hsum]; have := h.nn; omega
  · rw [hsum, ← hf2]
    by_cases q : s.on = b + 1
    · rw [if_pos q, if_pos (hafl.mpr q)]
    · rw [if_neg q, if_neg fun z => q (hafl.mp z)]
  · rw [← hf2]
    by_cases q : s.on = b + 1
    · rw [if_pos q, if_pos (hafl.mpr q)]
    · rw [if_neg q, if_neg fun z => q (hafl.mp z)]
  · rw [dsR_snoc, hvv, h.vis]
    show Vs.mk (vadd (vbase _ _) (jd _ y [y] false).1) (newF _ f2) = _
    have hnf : newF (runP player s xs.sum) f2 = false := by
      rw [← hf2]
      unfold newF
      by_cases q : s.on = b + 1
      · rw [if_pos q]
      · rw [if_neg q]; simp [runP]
    rw [hnf, k2, hsum]
    have hne : xs ++ [y] ≠ [] := by simp
    rw [if_neg hne]
    simp only [hne, decide_false]
    congr 1
    unfold vbase
    by_cases q : xs = []
    · subst q
      simp [vadd, runP]
    · simp [q, vadd]
  · rw [dsR_snoc, hfv, h.fal]
    show (if fair (runP player s xs.sum) y [y] false = true then xs ++ [y] else xs) = xs ++ [y]
    rw [if_pos k1]
  · rw [dsR_snoc, hgv, h.fou]
    show gadd ⟨0, 0, 0, 0⟩ player (jd (runP player s xs.sum) y [y] false).2 = _
    rw [k2]
    unfold gadd
    split <;> rfl
  · intro hl2
    have hon : s.on ≠ b + 1 := fun q => hl2 (hafl.mpr q)
    have hi := h.lst hlow
    rw [lastB_snoc, hsum]
    have hrem := h.rem
    unfold restV at hi ⊢
    unfold remB at hrem
    unfold afB
    by_cases o1 : s.on = 1
    · rw [if_pos o1] at hrem ⊢
      have hy1 : y = 1 := by
        unfold nxB at hy
        rw [if_pos o1] at hy
        exact List.mem_singleton.mp hy
      rw [if_neg (show ¬ s.on = 0 by omega)] at hi
      rw [if_neg (show ¬ (xs.length < (2 * a).toNat ∧ xs.length % 2 = 1) by omega)]
      simp only [if_true]
      have : (s.reds - 1) * (1 + (b + 1)) = s.reds * (1 + (b + 1)) - (1 + (b + 1)) := by rw [Int.sub_mul]; omega
      rw [this]
      omega
    · rw [if_neg o1] at hrem ⊢
      by_cases o0 : s.on = 0
      · rw [if_pos o0] at hrem hi ⊢
        rw [if_pos (show xs.length < (2 * a).toNat ∧ xs.length % 2 = 1 by omega)]
        have : ¬ ((if 0 < s.reds then (1 : Int) else 2) = 0) := by split <;> omega
        simp only [this, if_false]
        omega
      · rw [if_neg o0] at hrem hi ⊢
        have hyl : y = s.low := by
          rw [nx_low (by omega)] at hy
          split at hy
          · exact List.mem_singleton.mp hy
          · cases hy
        rw [if_neg (show ¬ (xs.length < (2 * a).toNat ∧ xs.length % 2 = 1) by omega)]
        have hcl : clS s.low (b + 1 + 1) = s.low + clS (s.low + 1) (b + 1 + 1) := by
          unfold clS
          rw [rgI_cons (by omega)]
          simp
        simp only
        rw [if_neg (show ¬ s.low + 1 = 0 by omega)]
        omega
theorem runS0 {a b player : Int} (ha : 1 ≤ a ∧ a ≤ 1000) (hb : 1 ≤ b) (hpl : player = 0 ∨ player = 1) : RunS a b player [] (st0 a) (begin0 a player) := by
  have s0 : sel player 0 0 = 0 := by unfold sel; split <;> rfl
  have hl : ¬ (st0 a).low = b + 2 := by show ¬ (2 : Int) = b + 2; omega
  refine ⟨⟨hpl, rfl, by simp [dsR]⟩, st0_ok ha (by omega), ?_, ?_, ?_, by simp, ?_, ?_, rfl, rfl, rfl, fun _ => ?_⟩
  · unfold remB st0; simp
  · show (0 : Int) = sel player 0 0; rw [s0]
  · show (0 : Int) = sel player 0 0; rw [s0]
  · rw [if_neg hl]
    show some (⟨player, 1, a, 2, 0, 0, 0⟩ : Pl) = some ⟨player, 1, a, 2, sel player 0 0, sel player 0 0, 0⟩
    rw [s0]
  · rw [if_neg hl]; rfl
  · show restV a b a 2 + (if (1 : Int) = 0 then b + 1 else 0) + 0 + lastB a b [] = _
    unfold restV lastB
    simp
theorem rnB_snoc {b : Int} : ∀ {xs : List Int} {s : R3} {y : Int}, rnB b ((xs ++ [y]).map .int) s = true → rnB b (xs.map .int) s = true ∧ y ∈ nxB b (xs.foldl (fun s _ => afB s) s)
  | [], s, y, h => by
    simp only [List.nil_append, List.map_cons, List.map_nil, rnB, Bool.and_true, decide_eq_true_eq] at h
    exact ⟨rfl, h⟩
  | x :: r, s, y, h => by
    simp only [List.cons_append, List.map_cons, rnB, Bool.and_eq_true, decide_eq_true_eq] at h ⊢
    obtain ⟨h1, h2⟩ := rnB_snoc h.2
    exact ⟨⟨h.1, h1⟩, h2⟩
theorem runS_of {a b player : Int} (ha : 1 ≤ a ∧ a ≤ 1000) (hb : 1 ≤ b) (hpl : player = 0 ∨ player = 1) (xs : List Int) (h : rnB b (xs.map .int) (st0 a) = true) : ∃ fo, RunS a b player xs (xs.foldl (fun s _ => afB s) (st0 a)) fo := by
  have key : ∀ n : Nat, ∀ xs : List Int, xs.length = n → rnB b (xs.map .int) (st0 a) = true → ∃ fo, RunS a b player xs (xs.foldl (fun s _ => afB s) (st0 a)) fo := by
    intro n
    induction n with
    | zero =>
      intro xs hl _
      have : xs = [] := List.length_eq_zero_iff.mp hl
      subst this
      exact ⟨_, runS0 ha hb hpl⟩
    | succ n ih =>
      intro xs hl h
      have hne : xs ≠ [] := by intro q; rw [q] at hl; cases hl
      rw [← List.dropLast_concat_getLast hne] at h ⊢
      obtain ⟨h1, h2⟩ := rnB_snoc h
      obtain ⟨fo, hs⟩ := ih xs.dropLast (by rw [List.length_dropLast]; omega) h1
      obtain ⟨f2, hs2⟩ := hs.snoc ha.1 hb h2
      exact ⟨f2, by rw [List.foldl_append]; exact hs2⟩
  exact key xs.length xs rfl h
theorem tw_stF {ns : Sc} {n : Nat} {v : Gf} : stF (Tw ns n) v = Tw ⟨ns.ns, ns.jk ++ [.lst [.int v.c0, .int v.l0], .lst [.int v.c1, .int v.l1], .nest [(Tw ns n).length, (Tw ns n).length + 1]]⟩ n := rfl
theorem enum_rg {m : Int} {c : Int → PyData} : ∀ (k n : Nat), (m - ((n : Int) + 1)).toNat = k → enumD n ((rgI ((n : Int) + 1) m).map c) = (rgI ((n : Int) + 1) m).map fun x => .tuple [.int (x - 1), c x]
  | 0, n, h => by rw [rgI_nil (by omega)]; rfl
  | k + 1, n, h => by
    rw [rgI_cons (by omega), List.map_cons, List.map_cons]
    have := enum_rg (m := m) (c := c) k (n + 1) (by omega)
    simp only [enumD]
    rw [show ((n + 1 : Nat) : Int) + 1 = (n : Int) + 1 + 1 by omega] at this
    rw [this]
    congr 2
    simp
theorem fm_range {α : Type} {f : Nat → Option α} {g : Nat → α} : ∀ (k : Nat), (∀ m, m < k → f m = some (g m)) → (List.range k).filterMap f = (List.range k).map g
  | 0, _ => rfl
  | k + 1, h => by
    rw [List.range_succ, List.filterMap_append, List.map_append, fm_range k fun m hm => h m (by omega)]
    simp [h k (by omega)]
theorem stepL_odd {a : Int} {xs : List Int} (ha : 1 ≤ a) : stepL xs (some 1) (some (2 * a)) 2 = (List.range (min (2 * a).toNat xs.length / 2)).map fun (m : Nat) => xs.getD (1 + 2 * m) 0 := by
  have e1 : Builtin.Slice.sliceAdjust (some 1) (some (2 * a)) 2 (xs.length : Int) = (min 1 (xs.length : Int), min (2 * a) (xs.length : Int)) := by
    unfold Builtin.Slice.sliceAdjust
    have h2 : ¬ ((2 : Int) < 0) := by omega
    have h3 : ¬ ((1 : Int) < 0) := by omega
    have h4 : ¬ (2 * a < 0) := by omega
    simp only [h2, h3, h4, if_false]
  unfold stepL
  rw [e1]
  simp only
  have e2 : Builtin.Slice.slicePlaces (min 1 (xs.length : Int)) (min (2 * a) (xs.length : Int)) 2 = min (2 * a).toNat xs.length / 2 := by
    unfold Builtin.Slice.slicePlaces
    have h2 : (2 : Int) > 0 := by omega
    simp only [h2, if_true]
    split <;> omega
  rw [e2]
  refine fm_range _ fun m hm => ?_
  have : (min 1 (xs.length : Int) + (m : Int) * 2).toNat = 1 + 2 * m := by omega
  rw [this, List.getD_eq_getElem?_getD, List.getElem?_eq_getElem (by omega)]
  rfl
theorem cntL_rg {b : Int} {bl : List Int} : (rgI 1 (b + 2)).map (fun x => PyData.int (bl.count x : Int)) = (cntL b bl).map .int := by
  unfold rgI cntL
  rw [show (b + 2 - 1).toNat = (b + 1).toNat by omega, List.map_map, List.map_map]
  refine List.map_congr_left fun i _ => ?_
  show PyData.int (bl.count (1 + (i : Int)) : Int) = .int (bl.count ((i : Int) + 1) : Int)
  rw [Int.add_comm]
theorem outs_rg {b : Int} {xs : List Int} (h : ∀ x ∈ xs, 1 ≤ x ∧ x ≤ b + 1) : ((rgI 1 (b + 2)).filter fun x => decide (0 < (xs.count x : Int))).map (fun x => PyData.tuple [.int (x - 1 + 1), .int (xs.count x)]) = outs xs := by
  have e : ((rgI 1 (b + 2)).filter fun x => decide (0 < (xs.count x : Int))) = sortU xs := by
    refine lt_pair (sorted_filter rgI_sort) sortU_sort fun x => ?_
    rw [List.mem_filter, rgI_mem, sortU_in, decide_eq_true_eq]
    constructor
    · rintro ⟨_, h2⟩
      exact List.count_pos_iff.mp (by omega)
    · intro hx
      have := h x hx
      have := List.count_pos_iff.mpr hx
      exact ⟨by omega, by omega⟩
  rw [e]
  unfold outs
  refine List.map_congr_left fun x _ => ?_
  rw [show x - 1 + 1 = x by omega]
def Pc (ns : List Int) (n : Nat) (fl : Fl) (s : Stt) : Prop := ∃ s2 s3 s4 s5 s6 s7 s8 s9 s10 s11 s12 s13 s14 m jk, fl = .nx [.v (.ref 0), .v (.ref 1), s2, s3, s4, s5, s6, s7, s8, s9, s10, s11, s12, s13, s14, .non, .non, .non, .non] ∧ s = Tw ⟨ns, jk⟩ m ∧ m ≤ n + 200
abbrev sl9 (a b player : Int) (xs : List Int) (s2 s9 s10 s11 s12 s13 s14 : Sl) : List Sl := [.v (.ref 0), .v (.ref 1), s2, .v (ru a b), .v (.d (.tuple (xs.map .int))), .v (.d (.int player)), .v (.d (.tuple ((dsR xs).map Dd.e))), .v (.d (frE player (dsR xs))), .v (.d (.int xs.sum)), s9, s10, s11, s12, s13, s14, .non, .non, .non, .non]
theorem end_ok {ns : Sc} {n m : Nat} {a b player : Int} {xs : List Int} {s : R3} {fo : Fo} {s2 s9 s10 s11 s12 s13 s14 : Sl} (ha : 1 ≤ a ∧ a ≤ 10) (hb : 2 ≤ b ∧ b ≤ 8) (hr : RunV a b xs) (hs : RunS a b player xs s fo) (hm : m ≤ n + 200) :
    Post (xB (rn Gm 23) q_law17 (sl9 a b player xs s2 s9 s10 s11 s12 s13 s14) (Tw ns m)) (Pc ns.ns n) := by
  have h1 : 1 ≤ a ∧ a ≤ 1000 := by omega
  have hb1 : 1 ≤ b := by omega
  have hf := hs.ok
  have hst := hs.st
  have g1 := hst.reds
  have g2 := hst.low
  have g3 := hst.on
  have hrl := hr.len (by omega)
  have hrem := hs.rem
  have hdl : (dsR xs).length = xs.length := by unfold dsR; simp
  have L1 := fun st => placeof_ok (k := 16) (st := st) h1 hb1 hf.pl hf.ok hf.led
  have W1 := fun st => winnerof_ok (k := 16) (st := st) h1 hb1 hf.pl hf.ok hf.led
  have cl := fun st => clear_ok (k := 21) (a := a) (b := b) (l := xs) (st := st) h1 hb1 (hr.last hb1)
  have hov : ((xs.length : Int) = 2 * a + b) ↔ s.low = b + 2 := by
    unfold remB at hrem
    by_cases o1 : s.on = 1
    · rw [if_pos o1] at hrem; omega
    · rw [if_neg o1] at hrem
      by_cases o0 : s.on = 0
      · rw [if_pos o0] at hrem; omega
      · rw [if_neg o0] at hrem; omega
  simp only [q_law17, post_cons]
  simp [ex, xB_eq, ev, evs, evb, evt, evo, evi, evf, tst, K.val, Bz.isi, isOwn, post_bind, post_ok, post_lift, post_ite, post_noexc, post_nil, bind_ok, fk_nx, fk_rt, fr_nx, fr_rt, lift_some, sto, stoT, wipeS, z_add, z_adds, z_addt, z_addl, z_sub, z_mul, z_mult, z_mull, z_fdiv, z_mod, z_eq, z_ne, z_eqi, z_eqb, z_eqs, z_eqn, z_lt, z_le, z_gt, z_ge, z_is0, z_is1, z_is2, z_is3, z_is4, z_is5, z_in0, z_in1, z_in2, z_in3, z_in4, z_in5, z_inl, z_int, z_nil, z_nit, z_t0, z_t1, z_t2, z_t3, z_t4, z_t5, z_tr, z_isb, z_isb1, z_isb2, z_isb3, z_isb4, z_isb5, z_addb, z_subb, z_nsb, z_rvt, z_rvl, z_stp, z_srl, z_srt, z_sti, z_stb, z_shl, z_ixt, z_ixl, z_ixr, z_slt, z_sll, z_lent, z_lenl, z_lenr, z_suml, z_sumt, z_maxl, z_maxt, z_minl, z_bi, z_bb, z_tul, z_tut, z_tur, z_lil, z_lit, z_all, z_max2, z_min2, z_kt, z_kl, z_cot, z_col, z_da, z_ds0, z_ds1, z_sql, z_sqt, z_isLr, z_fn, z_fb, z_fi, z_fs, sn_0, sn_1, sn_2, sn_3, sn_4, sn_5, sn_6, sn_7, sn_8, sn_9, sn_10, sn_11, sn_12, sn_13, sn_14, sn_15, sn_16, sn_17, sn_18, sn_19, L1]
  by_cases hend : s.low = b + 2
  · have e1 : fo.pl = none := by rw [hs.pl, if_pos hend]
    have e2 : fo.win = some player := by rw [hs.win, if_pos hend]
    rw [e2, oI_some] at W1
    have e3 : decide ((xs.length : Int) = 2 * a + b) = true := decide_eq_true (hov.mpr hend)
    rw [e3] at cl
    have sm := fun st => same_ok (k := 22) (d := .bool true) (st := st) rfl
    rw [e1, oP_none]
    simp only [q_law16, post_cons]
    simp [ex, xB_eq, ev, evs, evb, evt, evo, evi, evf, tst, K.val, Bz.isi, isOwn, post_bind, post_ok, post_lift, post_ite, post_noexc, post_nil, bind_ok, fk_nx, fk_rt, fr_nx, fr_rt, lift_some, sto, stoT, wipeS, z_add, z_adds, z_addt, z_addl, z_sub, z_mul, z_mult, z_mull, z_fdiv, z_mod, z_eq, z_ne, z_eqi, z_eqb, z_eqs, z_eqn, z_lt, z_le, z_gt, z_ge, z_is0, z_is1, z_is2, z_is3, z_is4, z_is5, z_in0, z_in1, z_in2, z_in3, z_in4, z_in5, z_inl, z_int, z_nil, z_nit, z_t0, z_t1, z_t2, z_t3, z_t4, z_t5, z_tr, z_isb, z_isb1, z_isb2, z_isb3, z_isb4, z_isb5, z_addb, z_subb, z_nsb, z_rvt, z_rvl, z_stp, z_srl, z_srt, z_sti, z_stb, z_shl, z_ixt, z_ixl, z_ixr, z_slt, z_sll, z_lent, z_lenl, z_lenr, z_suml, z_sumt, z_maxl, z_maxt, z_minl, z_bi, z_bb, z_tul, z_tut, z_tur, z_lil, z_lit, z_all, z_max2, z_min2, z_kt, z_kl, z_cot, z_col, z_da, z_ds0, z_ds1, z_sql, z_sqt, z_isLr, z_fn, z_fb, z_fi, z_fs, sn_0, sn_1, sn_2, sn_3, sn_4, sn_5, sn_6, sn_7, sn_8, sn_9, sn_10, sn_11, sn_12, sn_13, sn_14, sn_15, sn_16, sn_17, sn_18, sn_19, cl, sm]
    simp only [q_law15, post_cons]
    simp [ex, xB_eq, ev, evs, evb, evt, evo, evi, evf, tst, K.val, Bz.isi, isOwn, post_bind, post_ok, post_lift, post_ite, post_noexc, post_nil, bind_ok, fk_nx, fk_rt, fr_nx, fr_rt, lift_some, sto, stoT, wipeS, z_add, z_adds, z_addt, z_addl, z_sub, z_mul, z_mult, z_mull, z_fdiv, z_mod, z_eq, z_ne, z_eqi, z_eqb, z_eqs, z_eqn, z_lt, z_le, z_gt, z_ge, z_is0, z_is1, z_is2, z_is3, z_is4, z_is5, z_in0, z_in1, z_in2, z_in3, z_in4, z_in5, z_inl, z_int, z_nil, z_nit, z_t0, z_t1, z_t2, z_t3, z_t4, z_t5, z_tr, z_isb, z_isb1, z_isb2, z_isb3, z_isb4, z_isb5, z_addb, z_subb, z_nsb, z_rvt, z_rvl, z_stp, z_srl, z_srt, z_sti, z_stb, z_shl, z_ixt, z_ixl, z_ixr, z_slt, z_sll, z_lent, z_lenl, z_lenr, z_suml, z_sumt, z_maxl, z_maxt, z_minl, z_bi, z_bb, z_tul, z_tut, z_tur, z_lil, z_lit, z_all, z_max2, z_min2, z_kt, z_kl, z_cot, z_col, z_da, z_ds0, z_ds1, z_sql, z_sqt, z_isLr, z_fn, z_fb, z_fi, z_fs, sn_0, sn_1, sn_2, sn_3, sn_4, sn_5, sn_6, sn_7, sn_8, sn_9, sn_10, sn_11, sn_12, sn_13, sn_14, sn_15, sn_16, sn_17, sn_18, sn_19, W1, z_eqi]
    simp only [q_law14, post_cons]
    simp [ex, xB_eq, ev, evs, evb, evt, evo, evi, evf, tst, K.val, Bz.isi, isOwn, post_bind, post_ok, post_lift, post_ite, post_noexc, post_nil, bind_ok, fk_nx, fk_rt, fr_nx, fr_rt, lift_some, sto, stoT, wipeS, z_add, z_adds, z_addt, z_addl, z_sub, z_mul, z_mult, z_mull, z_fdiv, z_mod, z_eq, z_ne, z_eqi, z_eqb, z_eqs, z_eqn, z_lt, z_le, z_gt, z_ge, z_is0, z_is1, z_is2, z_is3, z_is4, z_is5, z_in0, z_in1, z_in2, z_in3, z_in4, z_in5, z_inl, z_int, z_nil, z_nit, z_t0, z_t1, z_t2, z_t3, z_t4, z_t5, z_tr, z_isb, z_isb1, z_isb2, z_isb3, z_isb4, z_isb5, z_addb, z_subb, z_nsb, z_rvt, z_rvl, z_stp, z_srl, z_srt, z_sti, z_stb, z_shl, z_ixt, z_ixl, z_ixr, z_slt, z_sll, z_lent, z_lenl, z_lenr, z_suml, z_sumt, z_maxl, z_maxt, z_minl, z_bi, z_bb, z_tul, z_tut, z_tur, z_lil, z_lit, z_all, z_max2, z_min2, z_kt, z_kl, z_cot, z_col, z_da, z_ds0, z_ds1, z_sql, z_sqt, z_isLr, z_fn, z_fb, z_fi, z_fs, sn_0, sn_1, sn_2, sn_3, sn_4, sn_5, sn_6, sn_7, sn_8, sn_9, sn_10, sn_11, sn_12, sn_13, sn_14, sn_15, sn_16, sn_17, sn_18, sn_19]
    exact ⟨_, _, _, _, _, _, _, _, _, _, _, _, _, m, _, rfl, rfl, hm⟩
  · have e1 : fo.pl = some (runP player s xs.sum) := by rw [hs.pl, if_neg hend]
    have e3 : decide ((xs.length : Int) = 2 * a + b) = false := decide_eq_false fun q => hend (hov.mp q)
    rw [e3] at cl
    have sm := fun st => same_ok (k := 22) (d := .bool false) (st := st) rfl
    have hpo := hf.place ha.1 hb1 e1
    obtain ⟨p, hpE⟩ : ∃ p, p = runP player s xs.sum := ⟨_, rfl⟩
    rw [← hpE] at e1 hpo
    have po : p.on = s.on := by rw [hpE]; rfl
    have pu : p.up = player := by rw [hpE]; rfl
    have pr : p.reds = s.reds := by rw [hpE]; rfl
    have plw : p.low = s.low := by rw [hpE]; rfl
    have pf : p.free = 0 := by rw [hpE]; rfl
    have st1 := fun st => still_ok (k := 19) (a := a) (b := b) (p := p) (st := st) (by omega) (by omega) (by omega)
    have fw := fun st => full_ok (k := 20) (a := a) (b := b) (st := st) (by omega) (by omega)
    have hlst := hs.lst hend
    have hsum : stillV a b p + xs.sum + lastB a b xs = a * (1 + (b + 1)) + (rgI 2 (b + 1 + 1)).sum := by
      have : stillV a b p = restV a b s.reds s.low + (if s.on = 0 then b + 1 else 0) := by
        unfold stillV
        rw [po, pr, plw, pf]
        simp
      rw [this]
      exact hlst
    have ea : L2.atI [PyData.int a, .int b] 0 = some (.int a) := rfl
    have eb : L2.atI [PyData.int a, .int b] 1 = some (.int b) := rfl
    have hmu : mulOk 2 a = true := mulOk_l (by omega) (by omega)
    have hod := stepL_odd (a := a) (xs := xs) ha.1
    have hsm : stepL (xs.map PyData.int) (some 1) (some (2 * a)) 2 = (((List.range (min (2 * a).toNat xs.length / 2)).map fun (m : Nat) => xs.getD (1 + 2 * m) 0)).map .int := by rw [stepL_map, hod]
    have hll : (((List.range (min (2 * a).toNat xs.length / 2)).map fun (m : Nat) => xs.getD (1 + 2 * m) 0)).length ≤ 100 := by rw [List.length_map, List.length_range]; omega
    have hlb : (((List.range (min (2 * a).toNat xs.length / 2)).map fun (m : Nat) => xs.getD (1 + 2 * m) 0).map fun x => b + 1 - x).sum = lastB a b xs := by
      unfold lastB
      rw [List.map_map]
      rfl
    generalize ((List.range (min (2 * a).toNat xs.length / 2)).map fun (m : Nat) => xs.getD (1 + 2 * m) 0) = od at *
    have hz1 : od.length ≤ szl := by unfold szl; omega
    obtain ⟨f2, mv⟩ : ∃ f2, moved b p (.stroke 0 [] false) = some f2 := ⟨_, if_pos (here0 hpo)⟩
    have okf : DdOk a b (.stroke 0 [] false) := ok_foul0 (by omega) (by omega)
    have hfm := hf.snoc e1 okf mv
    have Lm := fun st => placeof_ok (k := 16) (st := st) h1 hb1 hfm.pl hfm.ok hfm.led
    have Vm := fun st => visits_ok (k := 17) (st := st) h1 hb1 hfm (by rw [List.length_append, List.length_singleton, hdl]; omega)
    have hvl : (visV a b player (dsR xs ++ [.stroke 0 [] false])).l = [(player, xs.sum, (xs.length : Int) + 1)] := by
      rw [vis_snoc hf.led e1 mv, hs.vis]
      show vadd (vbase _ p) (jd p 0 [] false).1 = _
      have hj : (jd p 0 [] false).1 = 0 := by
        unfold jd
        rw [fair0 (by omega)]
        rfl
      rw [hj]
      unfold vbase
      by_cases q : xs = []
      · subst q; simp [vadd, pu]
      · simp [q, vadd]
    rw [hvl] at Vm
    have hme : PyData.tuple [.int player, .tuple ((dsR xs).map Dd.e ++ [.tuple [.str "stroke", .int 0, .tuple [], .bool false]])] = frE player (dsR xs ++ [.stroke 0 [] false]) := by unfold frE; rw [List.map_append]; rfl
    have hz2 : (dsR xs).length + 1 ≤ szl := by rw [hdl]; unfold szl; omega
    have at1 : L2.atI [PyData.tuple [.int player, .int xs.sum, .int ((xs.length : Int) + 1)]] (-1) = some (.tuple [.int player, .int xs.sum, .int ((xs.length : Int) + 1)]) := rfl
    have v3 : v3E (player, xs.sum, (xs.length : Int) + 1) = .tuple [.int player, .int xs.sum, .int ((xs.length : Int) + 1)] := rfl
    have c2 : cut [PyData.int player, .int xs.sum, .int ((xs.length : Int) + 1)] none (some 2) = [.int player, .int xs.sum] := rfl
    have q2 : eqD (.tuple [.int player, .int xs.sum]) (.tuple [.int player, .int xs.sum]) = some true := eqD_refl (k := 3) (by simp [okD, szl]) (by omega)
    rw [e1, oP_some]
    generalize hdm : dsR xs ++ [.stroke 0 [] false] = dsm at *
    simp only [q_law16, post_cons]
    simp [ex, xB_eq, ev, evs, evb, evt, evo, evi, evf, tst, K.val, Bz.isi, isOwn, post_bind, post_ok, post_lift, post_ite, post_noexc, post_nil, bind_ok, fk_nx, fk_rt, fr_nx, fr_rt, lift_some, sto, stoT, wipeS, z_add, z_adds, z_addt, z_addl, z_sub, z_mul, z_mult, z_mull, z_fdiv, z_mod, z_eq, z_ne, z_eqi, z_eqb, z_eqs, z_eqn, z_lt, z_le, z_gt, z_ge, z_is0, z_is1, z_is2, z_is3, z_is4, z_is5, z_in0, z_in1, z_in2, z_in3, z_in4, z_in5, z_inl, z_int, z_nil, z_nit, z_t0, z_t1, z_t2, z_t3, z_t4, z_t5, z_tr, z_isb, z_isb1, z_isb2, z_isb3, z_isb4, z_isb5, z_addb, z_subb, z_nsb, z_rvt, z_rvl, z_stp, z_srl, z_srt, z_sti, z_stb, z_shl, z_ixt, z_ixl, z_ixr, z_slt, z_sll, z_lent, z_lenl, z_lenr, z_suml, z_sumt, z_maxl, z_maxt, z_minl, z_bi, z_bb, z_tul, z_tut, z_tur, z_lil, z_lit, z_all, z_max2, z_min2, z_kt, z_kl, z_cot, z_col, z_da, z_ds0, z_ds1, z_sql, z_sqt, z_isLr, z_fn, z_fb, z_fi, z_fs, sn_0, sn_1, sn_2, sn_3, sn_4, sn_5, sn_6, sn_7, sn_8, sn_9, sn_10, sn_11, sn_12, sn_13, sn_14, sn_15, sn_16, sn_17, sn_18, sn_19, cl, pl_is, sm]
    simp only [q_law15, post_cons]
    simp [ex, xB_eq, ev, evs, evb, evt, evo, evi, evf, tst, K.val, Bz.isi, isOwn, post_bind, post_ok, post_lift, post_ite, post_noexc, post_nil, bind_ok, fk_nx, fk_rt, fr_nx, fr_rt, lift_some, sto, stoT, wipeS, z_add, z_adds, z_addt, z_addl, z_sub, z_mul, z_mult, z_mull, z_fdiv, z_mod, z_eq, z_ne, z_eqi, z_eqb, z_eqs, z_eqn, z_lt, z_le, z_gt, z_ge, z_is0, z_is1, z_is2, z_is3, z_is4, z_is5, z_in0, z_in1, z_in2, z_in3, z_in4, z_in5, z_inl, z_int, z_nil, z_nit, z_t0, z_t1, z_t2, z_t3, z_t4, z_t5, z_tr, z_isb, z_isb1, z_isb2, z_isb3, z_isb4, z_isb5, z_addb, z_subb, z_nsb, z_rvt, z_rvl, z_stp, z_srl, z_srt, z_sti, z_stb, z_shl, z_ixt, z_ixl, z_ixr, z_slt, z_sll, z_lent, z_lenl, z_lenr, z_suml, z_sumt, z_maxl, z_maxt, z_minl, z_bi, z_bb, z_tul, z_tut, z_tur, z_lil, z_lit, z_all, z_max2, z_min2, z_kt, z_kl, z_cot, z_col, z_da, z_ds0, z_ds1, z_sql, z_sqt, z_isLr, z_fn, z_fb, z_fi, z_fs, sn_0, sn_1, sn_2, sn_3, sn_4, sn_5, sn_6, sn_7, sn_8, sn_9, sn_10, sn_11, sn_12, sn_13, sn_14, sn_15, sn_16, sn_17, sn_18, sn_19, pl_is]
    simp only [q_law14, post_cons]
    simp [ex, xB_eq, ev, evs, evb, evt, evo, evi, evf, tst, K.val, Bz.isi, isOwn, post_bind, post_ok, post_lift, post_ite, post_noexc, post_nil, bind_ok, fk_nx, fk_rt, fr_nx, fr_rt, lift_some, sto, stoT, wipeS, z_add, z_adds, z_addt, z_addl, z_sub, z_mul, z_mult, z_mull, z_fdiv, z_mod, z_eq, z_ne, z_eqi, z_eqb, z_eqs, z_eqn, z_lt, z_le, z_gt, z_ge, z_is0, z_is1, z_is2, z_is3, z_is4, z_is5, z_in0, z_in1, z_in2, z_in3, z_in4, z_in5, z_inl, z_int, z_nil, z_nit, z_t0, z_t1, z_t2, z_t3, z_t4, z_t5, z_tr, z_isb, z_isb1, z_isb2, z_isb3, z_isb4, z_isb5, z_addb, z_subb, z_nsb, z_rvt, z_rvl, z_stp, z_srl, z_srt, z_sti, z_stb, z_shl, z_ixt, z_ixl, z_ixr, z_slt, z_sll, z_lent, z_lenl, z_lenr, z_suml, z_sumt, z_maxl, z_maxt, z_minl, z_bi, z_bb, z_tul, z_tut, z_tur, z_lil, z_lit, z_all, z_max2, z_min2, z_kt, z_kl, z_cot, z_col, z_da, z_ds0, z_ds1, z_sql, z_sqt, z_isLr, z_fn, z_fb, z_fi, z_fs, sn_0, sn_1, sn_2, sn_3, sn_4, sn_5, sn_6, sn_7, sn_8, sn_9, sn_10, sn_11, sn_12, sn_13, sn_14, sn_15, sn_16, sn_17, sn_18, sn_19, pl_isn]
    simp only [q_law13, post_cons]
    simp [ex, xB_eq, ev, evs, evb, evt, evo, evi, evf, tst, K.val, Bz.isi, isOwn, post_bind, post_ok, post_lift, post_ite, post_noexc, post_nil, bind_ok, fk_nx, fk_rt, fr_nx, fr_rt, lift_some, sto, stoT, wipeS, z_add, z_adds, z_addt, z_addl, z_sub, z_mul, z_mult, z_mull, z_fdiv, z_mod, z_eq, z_ne, z_eqi, z_eqb, z_eqs, z_eqn, z_lt, z_le, z_gt, z_ge, z_is0, z_is1, z_is2, z_is3, z_is4, z_is5, z_in0, z_in1, z_in2, z_in3, z_in4, z_in5, z_inl, z_int, z_nil, z_nit, z_t0, z_t1, z_t2, z_t3, z_t4, z_t5, z_tr, z_isb, z_isb1, z_isb2, z_isb3, z_isb4, z_isb5, z_addb, z_subb, z_nsb, z_rvt, z_rvl, z_stp, z_srl, z_srt, z_sti, z_stb, z_shl, z_ixt, z_ixl, z_ixr, z_slt, z_sll, z_lent, z_lenl, z_lenr, z_suml, z_sumt, z_maxl, z_maxt, z_minl, z_bi, z_bb, z_tul, z_tut, z_tur, z_lil, z_lit, z_all, z_max2, z_min2, z_kt, z_kl, z_cot, z_col, z_da, z_ds0, z_ds1, z_sql, z_sqt, z_isLr, z_fn, z_fb, z_fi, z_fs, sn_0, sn_1, sn_2, sn_3, sn_4, sn_5, sn_6, sn_7, sn_8, sn_9, sn_10, sn_11, sn_12, sn_13, sn_14, sn_15, sn_16, sn_17, sn_18, sn_19, ea, hmu, hsm, hz1]
    rw [lc_map PyData.int (p := fun x => true) (f := fun x => .int (b + 1 - x))]
    rotate_left
    · unfold szl; simp; omega
    · intro x hx
      refine ⟨_, rfl, by simp [ex, xB_eq, ev, evs, evb, evt, evo, evi, evf, tst, K.val, Bz.isi, isOwn, post_bind, post_ok, post_lift, post_ite, post_noexc, post_nil, bind_ok, fk_nx, fk_rt, fr_nx, fr_rt, lift_some, sto, stoT, wipeS, z_add, z_adds, z_addt, z_addl, z_sub, z_mul, z_mult, z_mull, z_fdiv, z_mod, z_eq, z_ne, z_eqi, z_eqb, z_eqs, z_eqn, z_lt, z_le, z_gt, z_ge, z_is0, z_is1, z_is2, z_is3, z_is4, z_is5, z_in0, z_in1, z_in2, z_in3, z_in4, z_in5, z_inl, z_int, z_nil, z_nit, z_t0, z_t1, z_t2, z_t3, z_t4, z_t5, z_tr, z_isb, z_isb1, z_isb2, z_isb3, z_isb4, z_isb5, z_addb, z_subb, z_nsb, z_rvt, z_rvl, z_stp, z_srl, z_srt, z_sti, z_stb, z_shl, z_ixt, z_ixl, z_ixr, z_slt, z_sll, z_lent, z_lenl, z_lenr, z_suml, z_sumt, z_maxl, z_maxt, z_minl, z_bi, z_bb, z_tul, z_tut, z_tur, z_lil, z_lit, z_all, z_max2, z_min2, z_kt, z_kl, z_cot, z_col, z_da, z_ds0, z_ds1, z_sql, z_sqt, z_isLr, z_fn, z_fb, z_fi, z_fs, sn_0, sn_1, sn_2, sn_3, sn_4, sn_5, sn_6, sn_7, sn_8, sn_9, sn_10, sn_11, sn_12, sn_13, sn_14, sn_15, sn_16, sn_17, sn_18, sn_19], fun _ => ?_⟩
      refine Post.eqQ fun Q hQ => ?_
      simp [ex, xB_eq, ev, evs, evb, evt, evo, evi, evf, tst, K.val, Bz.isi, isOwn, post_bind, post_ok, post_lift, post_ite, post_noexc, post_nil, bind_ok, fk_nx, fk_rt, fr_nx, fr_rt, lift_some, sto, stoT, wipeS, z_add, z_adds, z_addt, z_addl, z_sub, z_mul, z_mult, z_mull, z_fdiv, z_mod, z_eq, z_ne, z_eqi, z_eqb, z_eqs, z_eqn, z_lt, z_le, z_gt, z_ge, z_is0, z_is1, z_is2, z_is3, z_is4, z_is5, z_in0, z_in1, z_in2, z_in3, z_in4, z_in5, z_inl, z_int, z_nil, z_nit, z_t0, z_t1, z_t2, z_t3, z_t4, z_t5, z_tr, z_isb, z_isb1, z_isb2, z_isb3, z_isb4, z_isb5, z_addb, z_subb, z_nsb, z_rvt, z_rvl, z_stp, z_srl, z_srt, z_sti, z_stb, z_shl, z_ixt, z_ixl, z_ixr, z_slt, z_sll, z_lent, z_lenl, z_lenr, z_suml, z_sumt, z_maxl, z_maxt, z_minl, z_bi, z_bb, z_tul, z_tut, z_tur, z_lil, z_lit, z_all, z_max2, z_min2, z_kt, z_kl, z_cot, z_col, z_da, z_ds0, z_ds1, z_sql, z_sqt, z_isLr, z_fn, z_fb, z_fi, z_fs, sn_0, sn_1, sn_2, sn_3, sn_4, sn_5, sn_6, sn_7, sn_8, sn_9, sn_10, sn_11, sn_12, sn_13, sn_14, sn_15, sn_16, sn_17, sn_18, sn_19, eb]
      exact hQ
    simp only [post_ok, List.nil_append, filt_t]
    have hin : intsOf (od.map fun x => PyData.int (b + 1 - x)) = some (od.map fun x => b + 1 - x) := by
      have := ints_map (l := od.map fun x => b + 1 - x)
      rw [List.map_map] at this
      exact this
    generalize od.map (fun x => PyData.int (b + 1 - x)) = odd at *
    generalize od.map (fun x => b + 1 - x) = oddi at *
    simp [ex, xB_eq, ev, evs, evb, evt, evo, evi, evf, tst, K.val, Bz.isi, isOwn, post_bind, post_ok, post_lift, post_ite, post_noexc, post_nil, bind_ok, fk_nx, fk_rt, fr_nx, fr_rt, lift_some, sto, stoT, wipeS, z_add, z_adds, z_addt, z_addl, z_sub, z_mul, z_mult, z_mull, z_fdiv, z_mod, z_eq, z_ne, z_eqi, z_eqb, z_eqs, z_eqn, z_lt, z_le, z_gt, z_ge, z_is0, z_is1, z_is2, z_is3, z_is4, z_is5, z_in0, z_in1, z_in2, z_in3, z_in4, z_in5, z_inl, z_int, z_nil, z_nit, z_t0, z_t1, z_t2, z_t3, z_t4, z_t5, z_tr, z_isb, z_isb1, z_isb2, z_isb3, z_isb4, z_isb5, z_addb, z_subb, z_nsb, z_rvt, z_rvl, z_stp, z_srl, z_srt, z_sti, z_stb, z_shl, z_ixt, z_ixl, z_ixr, z_slt, z_sll, z_lent, z_lenl, z_lenr, z_suml, z_sumt, z_maxl, z_maxt, z_minl, z_bi, z_bb, z_tul, z_tut, z_tur, z_lil, z_lit, z_all, z_max2, z_min2, z_kt, z_kl, z_cot, z_col, z_da, z_ds0, z_ds1, z_sql, z_sqt, z_isLr, z_fn, z_fb, z_fi, z_fs, sn_0, sn_1, sn_2, sn_3, sn_4, sn_5, sn_6, sn_7, sn_8, sn_9, sn_10, sn_11, sn_12, sn_13, sn_14, sn_15, sn_16, sn_17, sn_18, sn_19, hin, hlb]
    have hz3 : xs.length + 1 ≤ szl := by rw [← hdl]; exact hz2
    simp only [q_law12, post_cons]
    simp [ex, xB_eq, ev, evs, evb, evt, evo, evi, evf, tst, K.val, Bz.isi, isOwn, post_bind, post_ok, post_lift, post_ite, post_noexc, post_nil, bind_ok, fk_nx, fk_rt, fr_nx, fr_rt, lift_some, sto, stoT, wipeS, z_add, z_adds, z_addt, z_addl, z_sub, z_mul, z_mult, z_mull, z_fdiv, z_mod, z_eq, z_ne, z_eqi, z_eqb, z_eqs, z_eqn, z_lt, z_le, z_gt, z_ge, z_is0, z_is1, z_is2, z_is3, z_is4, z_is5, z_in0, z_in1, z_in2, z_in3, z_in4, z_in5, z_inl, z_int, z_nil, z_nit, z_t0, z_t1, z_t2, z_t3, z_t4, z_t5, z_tr, z_isb, z_isb1, z_isb2, z_isb3, z_isb4, z_isb5, z_addb, z_subb, z_nsb, z_rvt, z_rvl, z_stp, z_srl, z_srt, z_sti, z_stb, z_shl, z_ixt, z_ixl, z_ixr, z_slt, z_sll, z_lent, z_lenl, z_lenr, z_suml, z_sumt, z_maxl, z_maxt, z_minl, z_bi, z_bb, z_tul, z_tut, z_tur, z_lil, z_lit, z_all, z_max2, z_min2, z_kt, z_kl, z_cot, z_col, z_da, z_ds0, z_ds1, z_sql, z_sqt, z_isLr, z_fn, z_fb, z_fi, z_fs, sn_0, sn_1, sn_2, sn_3, sn_4, sn_5, sn_6, sn_7, sn_8, sn_9, sn_10, sn_11, sn_12, sn_13, sn_14, sn_15, sn_16, sn_17, sn_18, sn_19, st1, fw, z_eqi, hsum]
    generalize hdd : (dsR xs).map Dd.e = dd at *
    have hz4 : dd.length + 1 ≤ szl := by rw [← hdd, List.length_map]; exact hz2
    simp only [q_law11, post_cons]
    simp [ex, xB_eq, ev, evs, evb, evt, evo, evi, evf, tst, K.val, Bz.isi, isOwn, post_bind, post_ok, post_lift, post_ite, post_noexc, post_nil, bind_ok, fk_nx, fk_rt, fr_nx, fr_rt, lift_some, sto, stoT, wipeS, z_add, z_adds, z_addt, z_addl, z_sub, z_mul, z_mult, z_mull, z_fdiv, z_mod, z_eq, z_ne, z_eqi, z_eqb, z_eqs, z_eqn, z_lt, z_le, z_gt, z_ge, z_is0, z_is1, z_is2, z_is3, z_is4, z_is5, z_in0, z_in1, z_in2, z_in3, z_in4, z_in5, z_inl, z_int, z_nil, z_nit, z_t0, z_t1, z_t2, z_t3, z_t4, z_t5, z_tr, z_isb, z_isb1, z_isb2, z_isb3, z_isb4, z_isb5, z_addb, z_subb, z_nsb, z_rvt, z_rvl, z_stp, z_srl, z_srt, z_sti, z_stb, z_shl, z_ixt, z_ixl, z_ixr, z_slt, z_sll, z_lent, z_lenl, z_lenr, z_suml, z_sumt, z_maxl, z_maxt, z_minl, z_bi, z_bb, z_tul, z_tut, z_tur, z_lil, z_lit, z_all, z_max2, z_min2, z_kt, z_kl, z_cot, z_col, z_da, z_ds0, z_ds1, z_sql, z_sqt, z_isLr, z_fn, z_fb, z_fi, z_fs, sn_0, sn_1, sn_2, sn_3, sn_4, sn_5, sn_6, sn_7, sn_8, sn_9, sn_10, sn_11, sn_12, sn_13, sn_14, sn_15, sn_16, sn_17, sn_18, sn_19, hz4, hme]
    simp only [q_law10, post_cons]
    simp [ex, xB_eq, ev, evs, evb, evt, evo, evi, evf, tst, K.val, Bz.isi, isOwn, post_bind, post_ok, post_lift, post_ite, post_noexc, post_nil, bind_ok, fk_nx, fk_rt, fr_nx, fr_rt, lift_some, sto, stoT, wipeS, z_add, z_adds, z_addt, z_addl, z_sub, z_mul, z_mult, z_mull, z_fdiv, z_mod, z_eq, z_ne, z_eqi, z_eqb, z_eqs, z_eqn, z_lt, z_le, z_gt, z_ge, z_is0, z_is1, z_is2, z_is3, z_is4, z_is5, z_in0, z_in1, z_in2, z_in3, z_in4, z_in5, z_inl, z_int, z_nil, z_nit, z_t0, z_t1, z_t2, z_t3, z_t4, z_t5, z_tr, z_isb, z_isb1, z_isb2, z_isb3, z_isb4, z_isb5, z_addb, z_subb, z_nsb, z_rvt, z_rvl, z_stp, z_srl, z_srt, z_sti, z_stb, z_shl, z_ixt, z_ixl, z_ixr, z_slt, z_sll, z_lent, z_lenl, z_lenr, z_suml, z_sumt, z_maxl, z_maxt, z_minl, z_bi, z_bb, z_tul, z_tut, z_tur, z_lil, z_lit, z_all, z_max2, z_min2, z_kt, z_kl, z_cot, z_col, z_da, z_ds0, z_ds1, z_sql, z_sqt, z_isLr, z_fn, z_fb, z_fi, z_fs, sn_0, sn_1, sn_2, sn_3, sn_4, sn_5, sn_6, sn_7, sn_8, sn_9, sn_10, sn_11, sn_12, sn_13, sn_14, sn_15, sn_16, sn_17, sn_18, sn_19, Lm]
    by_cases ho : p.on = b + 1
    · simp only [q_law9, post_cons]
      simp [ex, xB_eq, ev, evs, evb, evt, evo, evi, evf, tst, K.val, Bz.isi, isOwn, post_bind, post_ok, post_lift, post_ite, post_noexc, post_nil, bind_ok, fk_nx, fk_rt, fr_nx, fr_rt, lift_some, sto, stoT, wipeS, z_add, z_adds, z_addt, z_addl, z_sub, z_mul, z_mult, z_mull, z_fdiv, z_mod, z_eq, z_ne, z_eqi, z_eqb, z_eqs, z_eqn, z_lt, z_le, z_gt, z_ge, z_is0, z_is1, z_is2, z_is3, z_is4, z_is5, z_in0, z_in1, z_in2, z_in3, z_in4, z_in5, z_inl, z_int, z_nil, z_nit, z_t0, z_t1, z_t2, z_t3, z_t4, z_t5, z_tr, z_isb, z_isb1, z_isb2, z_isb3, z_isb4, z_isb5, z_addb, z_subb, z_nsb, z_rvt, z_rvl, z_stp, z_srl, z_srt, z_sti, z_stb, z_shl, z_ixt, z_ixl, z_ixr, z_slt, z_sll, z_lent, z_lenl, z_lenr, z_suml, z_sumt, z_maxl, z_maxt, z_minl, z_bi, z_bb, z_tul, z_tut, z_tur, z_lil, z_lit, z_all, z_max2, z_min2, z_kt, z_kl, z_cot, z_col, z_da, z_ds0, z_ds1, z_sql, z_sqt, z_isLr, z_fn, z_fb, z_fi, z_fs, sn_0, sn_1, sn_2, sn_3, sn_4, sn_5, sn_6, sn_7, sn_8, sn_9, sn_10, sn_11, sn_12, sn_13, sn_14, sn_15, sn_16, sn_17, sn_18, sn_19, pl_i1, eb, z_eqi, ho, Vm, v3, at1, c2, q2]
      exact ⟨_, _, _, _, _, _, _, _, _, _, _, _, _, m, _, rfl, rfl, hm⟩
    · have hfp : f2 = outF (foulP p) := by
        have := foul0 hpo ho
        rw [mv] at this
        exact Option.some.inj this
      have hpl0 : oP f2.pl = (foulP p).e := by rw [hfp]; rfl
      have hup : (foulP p).up = 1 - player := by show 1 - p.up = _; rw [pu]
      have hne : ¬ (1 - player = player) := by have := hf.pl; omega
      rw [hpl0]
      simp only [q_law9, post_cons]
      simp [ex, xB_eq, ev, evs, evb, evt, evo, evi, evf, tst, K.val, Bz.isi, isOwn, post_bind, post_ok, post_lift, post_ite, post_noexc, post_nil, bind_ok, fk_nx, fk_rt, fr_nx, fr_rt, lift_some, sto, stoT, wipeS, z_add, z_adds, z_addt, z_addl, z_sub, z_mul, z_mult, z_mull, z_fdiv, z_mod, z_eq, z_ne, z_eqi, z_eqb, z_eqs, z_eqn, z_lt, z_le, z_gt, z_ge, z_is0, z_is1, z_is2, z_is3, z_is4, z_is5, z_in0, z_in1, z_in2, z_in3, z_in4, z_in5, z_inl, z_int, z_nil, z_nit, z_t0, z_t1, z_t2, z_t3, z_t4, z_t5, z_tr, z_isb, z_isb1, z_isb2, z_isb3, z_isb4, z_isb5, z_addb, z_subb, z_nsb, z_rvt, z_rvl, z_stp, z_srl, z_srt, z_sti, z_stb, z_shl, z_ixt, z_ixl, z_ixr, z_slt, z_sll, z_lent, z_lenl, z_lenr, z_suml, z_sumt, z_maxl, z_maxt, z_minl, z_bi, z_bb, z_tul, z_tut, z_tur, z_lil, z_lit, z_all, z_max2, z_min2, z_kt, z_kl, z_cot, z_col, z_da, z_ds0, z_ds1, z_sql, z_sqt, z_isLr, z_fn, z_fb, z_fi, z_fs, sn_0, sn_1, sn_2, sn_3, sn_4, sn_5, sn_6, sn_7, sn_8, sn_9, sn_10, sn_11, sn_12, sn_13, sn_14, sn_15, sn_16, sn_17, sn_18, sn_19, pl_i0, pl_i1, eb, z_eqi, ho, hup, hne, Vm, v3, at1, c2, q2]
      exact ⟨_, _, _, _, _, _, _, _, _, _, _, _, _, m, _, rfl, rfl, hm⟩
theorem mid_ok {ns : Sc} {n m : Nat} {a b player : Int} {xs : List Int} {s : R3} {fo : Fo} {s2 s9 s10 s11 s12 s13 s14 : Sl} (ha : 1 ≤ a ∧ a ≤ 10) (hb : 2 ≤ b ∧ b ≤ 8) (hr : RunV a b xs) (hs : RunS a b player xs s fo) (hm : m ≤ n + 200) :
    Post (xB (rn Gm 23) q_law23 (sl9 a b player xs s2 s9 s10 s11 s12 s13 s14) (Tw ns m)) (Pc ns.ns n) := by
  have h1 : 1 ≤ a ∧ a ≤ 1000 := by omega
  have hb1 : 1 ≤ b := by omega
  have hf := hs.ok
  have hpl := hf.pl
  have hrl := hr.len (by omega)
  have hdl : (dsR xs).length = xs.length := by unfold dsR; simp
  have hmem : ∀ x ∈ xs, 1 ≤ x ∧ x ≤ b + 1 := by
    intro x hx
    obtain ⟨i, e, i1, i2⟩ := rnB_mem (hr.run ha.1 hb1) (st0_ok h1 (by omega)) hb1 _ (List.mem_map.mpr ⟨x, hx, rfl⟩)
    cases e
    exact ⟨i1, i2⟩
  have if1 := fun st => isframe_ok (k := 16) (st := st) h1 hb1 hf
  have P1 := fun st => pointsin_ok (k := 16) (st := st) h1 hb1 hf.pl hf.ok hf.led
  have V1 := fun st => visits_ok (k := 17) (st := st) h1 hb1 hf (by omega)
  have T1 := fun st => best_ok2 (k := 16) (st := st) h1 hb1 hf (by omega)
  have F1 := fun st => fallen_ok (k := 17) (st := st) h1 (show 1 ≤ b ∧ b ≤ 900 by omega) hf
  have G1 := fun st => fouls_ok (k := 17) (st := st) h1 hb1 hf
  rw [hs.p0, hs.p1] at P1
  rw [hs.vis] at V1 T1
  rw [hs.fal] at F1
  rw [hs.fou] at G1
  have hnn := hs.nn
  have hsel : sel player xs.sum 0 + sel player 0 xs.sum = xs.sum := by unfold sel; split <;> simp
  have hsel2 : sel player xs.sum 0 + (sel player 0 xs.sum + 0) = xs.sum := by rw [Int.add_zero]; exact hsel
  have hbst : L2.atI [PyData.int (bst (if xs = [] then [] else [(player, xs.sum, (xs.length : Int))]) 0), .int (bst (if xs = [] then [] else [(player, xs.sum, (xs.length : Int))]) 1)] player = some (.int xs.sum) := by
    have key : bst (if xs = [] then [] else [(player, xs.sum, (xs.length : Int))]) player = xs.sum := by
      by_cases q : xs = []
      · subst q; rfl
      · rw [if_neg q]
        unfold bst
        simp [bestGt]
        omega
    rcases hpl with u | u
    · rw [u] at key ⊢
      rw [key]; rfl
    · rw [u] at key ⊢
      rw [key]; rfl
  have gE : gfE ⟨0, 0, 0, 0⟩ = .tuple [.tuple [.int 0, .int 0], .tuple [.int 0, .int 0]] := rfl
  rw [gE] at G1
  have qg : eqD (.tuple [.tuple [.int 0, .int 0], .tuple [.int 0, .int 0]]) (.tuple [.tuple [.int 0, .int 0], .tuple [.int 0, .int 0]]) = some true := eqD_refl (k := 4) (by simp [okD, szl]) (by omega)
  have qv : eqD (.tuple [v3E (player, xs.sum, (xs.length : Int))]) (.tuple [v3E (player, xs.sum, (xs.length : Int))]) = some true := eqD_refl (k := 4) (by simp [v3E, okD, szl]) (by omega)
  have sf := fun st => same_ok (k := 22) (d := .tuple ((cntL b xs).map .int)) (st := st) (okD_ints (by unfold cntL; simp; omega))
  have hol : (outs xs).length ≤ 1000 := by unfold outs; rw [List.length_map]; have := sortU_len (l := xs); omega
  have so := fun st => same_ok (k := 22) (d := .tuple (outs xs)) (st := st) (by
    simp only [okD, Bool.and_eq_true, decide_eq_true_eq, List.all_eq_true]
    refine ⟨by unfold szl; omega, fun x hx => ?_⟩
    unfold outs at hx
    obtain ⟨y, _, rfl⟩ := List.mem_map.mp hx
    simp [okD, szl])
  have srt := fun st => sorted_ok (k := 22) (l := xs) (st := st) (by omega)
  have eb : L2.atI [PyData.int a, .int b] 1 = some (.int b) := rfl
  have hr2 : rngOk 1 (b + 2) = true := by unfold rngOk; exact decide_eq_true (by omega)
  have hbm : ∀ c : Int, bm .count (.d (.tuple (xs.map .int))) (.d (.int c)) = some (.d (.int (xs.count c))) := by
    intro c
    have e1 : ((xs.map PyData.int).all flat) = true := flat_ints
    show (if (flat (.int c) && (xs.map PyData.int).all flat) = true then _ else _) = _
    rw [e1, countP_ints]; rfl
  have to20 : ∀ (jk : Stt) (s9 s10 : Sl), Post (xB (rn Gm 23) q_law20 (sl9 a b player xs s2 s9 s10 s11 s12 s13 s14) (Tw ⟨ns.ns, jk⟩ m)) (Pc ns.ns n) := by
    intro jk s9 s10
    simp only [q_law20, post_cons]
    simp [ex, xB_eq, ev, evs, evb, evt, evo, evi, evf, tst, K.val, Bz.isi, isOwn, post_bind, post_ok, post_lift, post_ite, post_noexc, post_nil, bind_ok, fk_nx, fk_rt, fr_nx, fr_rt, lift_some, sto, stoT, wipeS, z_add, z_adds, z_addt, z_addl, z_sub, z_mul, z_mult, z_mull, z_fdiv, z_mod, z_eq, z_ne, z_eqi, z_eqb, z_eqs, z_eqn, z_lt, z_le, z_gt, z_ge, z_is0, z_is1, z_is2, z_is3, z_is4, z_is5, z_in0, z_in1, z_in2, z_in3, z_in4, z_in5, z_inl, z_int, z_nil, z_nit, z_t0, z_t1, z_t2, z_t3, z_t4, z_t5, z_tr, z_isb, z_isb1, z_isb2, z_isb3, z_isb4, z_isb5, z_addb, z_subb, z_nsb, z_rvt, z_rvl, z_stp, z_srl, z_srt, z_sti, z_stb, z_shl, z_ixt, z_ixl, z_ixr, z_slt, z_sll, z_lent, z_lenl, z_lenr, z_suml, z_sumt, z_maxl, z_maxt, z_minl, z_bi, z_bb, z_tul, z_tut, z_tur, z_lil, z_lit, z_all, z_max2, z_min2, z_kt, z_kl, z_cot, z_col, z_da, z_ds0, z_ds1, z_sql, z_sqt, z_isLr, z_fn, z_fb, z_fi, z_fs, sn_0, sn_1, sn_2, sn_3, sn_4, sn_5, sn_6, sn_7, sn_8, sn_9, sn_10, sn_11, sn_12, sn_13, sn_14, sn_15, sn_16, sn_17, sn_18, sn_19, eb, hr2]
    rw [rng2_rgI]
    rw [lc_map PyData.int (p := fun x => true) (f := fun x => .int (xs.count x))]
    rotate_left
    · unfold szl; rw [rgI_len]; simp; omega
    · intro x hx
      refine ⟨_, rfl, by simp [ex, xB_eq, ev, evs, evb, evt, evo, evi, evf, tst, K.val, Bz.isi, isOwn, post_bind, post_ok, post_lift, post_ite, post_noexc, post_nil, bind_ok, fk_nx, fk_rt, fr_nx, fr_rt, lift_some, sto, stoT, wipeS, z_add, z_adds, z_addt, z_addl, z_sub, z_mul, z_mult, z_mull, z_fdiv, z_mod, z_eq, z_ne, z_eqi, z_eqb, z_eqs, z_eqn, z_lt, z_le, z_gt, z_ge, z_is0, z_is1, z_is2, z_is3, z_is4, z_is5, z_in0, z_in1, z_in2, z_in3, z_in4, z_in5, z_inl, z_int, z_nil, z_nit, z_t0, z_t1, z_t2, z_t3, z_t4, z_t5, z_tr, z_isb, z_isb1, z_isb2, z_isb3, z_isb4, z_isb5, z_addb, z_subb, z_nsb, z_rvt, z_rvl, z_stp, z_srl, z_srt, z_sti, z_stb, z_shl, z_ixt, z_ixl, z_ixr, z_slt, z_sll, z_lent, z_lenl, z_lenr, z_suml, z_sumt, z_maxl, z_maxt, z_minl, z_bi, z_bb, z_tul, z_tut, z_tur, z_lil, z_lit, z_all, z_max2, z_min2, z_kt, z_kl, z_cot, z_col, z_da, z_ds0, z_ds1, z_sql, z_sqt, z_isLr, z_fn, z_fb, z_fi, z_fs, sn_0, sn_1, sn_2, sn_3, sn_4, sn_5, sn_6, sn_7, sn_8, sn_9, sn_10, sn_11, sn_12, sn_13, sn_14, sn_15, sn_16, sn_17, sn_18, sn_19], fun _ => ?_⟩
      refine Post.eqQ fun Q hQ => ?_
      simp [ex, xB_eq, ev, evs, evb, evt, evo, evi, evf, tst, K.val, Bz.isi, isOwn, post_bind, post_ok, post_lift, post_ite, post_noexc, post_nil, bind_ok, fk_nx, fk_rt, fr_nx, fr_rt, lift_some, sto, stoT, wipeS, z_add, z_adds, z_addt, z_addl, z_sub, z_mul, z_mult, z_mull, z_fdiv, z_mod, z_eq, z_ne, z_eqi, z_eqb, z_eqs, z_eqn, z_lt, z_le, z_gt, z_ge, z_is0, z_is1, z_is2, z_is3, z_is4, z_is5, z_in0, z_in1, z_in2, z_in3, z_in4, z_in5, z_inl, z_int, z_nil, z_nit, z_t0, z_t1, z_t2, z_t3, z_t4, z_t5, z_tr, z_isb, z_isb1, z_isb2, z_isb3, z_isb4, z_isb5, z_addb, z_subb, z_nsb, z_rvt, z_rvl, z_stp, z_srl, z_srt, z_sti, z_stb, z_shl, z_ixt, z_ixl, z_ixr, z_slt, z_sll, z_lent, z_lenl, z_lenr, z_suml, z_sumt, z_maxl, z_maxt, z_minl, z_bi, z_bb, z_tul, z_tut, z_tur, z_lil, z_lit, z_all, z_max2, z_min2, z_kt, z_kl, z_cot, z_col, z_da, z_ds0, z_ds1, z_sql, z_sqt, z_isLr, z_fn, z_fb, z_fi, z_fs, sn_0, sn_1, sn_2, sn_3, sn_4, sn_5, sn_6, sn_7, sn_8, sn_9, sn_10, sn_11, sn_12, sn_13, sn_14, sn_15, sn_16, sn_17, sn_18, sn_19, -z_cot, hbm]
      exact hQ
    simp only [post_ok, List.nil_append, filt_t]
    have hen := enum_rg (m := b + 2) (c := fun x => PyData.int (xs.count x)) (b + 2 - 1).toNat 0 (by omega)
    rw [show ((0 : Nat) : Int) + 1 = 1 by omega] at hen
    have hcr := cntL_rg (b := b) (bl := xs)
    simp [ex, xB_eq, ev, evs, evb, evt, evo, evi, evf, tst, K.val, Bz.isi, isOwn, post_bind, post_ok, post_lift, post_ite, post_noexc, post_nil, bind_ok, fk_nx, fk_rt, fr_nx, fr_rt, lift_some, sto, stoT, wipeS, z_add, z_adds, z_addt, z_addl, z_sub, z_mul, z_mult, z_mull, z_fdiv, z_mod, z_eq, z_ne, z_eqi, z_eqb, z_eqs, z_eqn, z_lt, z_le, z_gt, z_ge, z_is0, z_is1, z_is2, z_is3, z_is4, z_is5, z_in0, z_in1, z_in2, z_in3, z_in4, z_in5, z_inl, z_int, z_nil, z_nit, z_t0, z_t1, z_t2, z_t3, z_t4, z_t5, z_tr, z_isb, z_isb1, z_isb2, z_isb3, z_isb4, z_isb5, z_addb, z_subb, z_nsb, z_rvt, z_rvl, z_stp, z_srl, z_srt, z_sti, z_stb, z_shl, z_ixt, z_ixl, z_ixr, z_slt, z_sll, z_lent, z_lenl, z_lenr, z_suml, z_sumt, z_maxl, z_maxt, z_minl, z_bi, z_bb, z_tul, z_tut, z_tur, z_lil, z_lit, z_all, z_max2, z_min2, z_kt, z_kl, z_cot, z_col, z_da, z_ds0, z_ds1, z_sql, z_sqt, z_isLr, z_fn, z_fb, z_fi, z_fs, sn_0, sn_1, sn_2, sn_3, sn_4, sn_5, sn_6, sn_7, sn_8, sn_9, sn_10, sn_11, sn_12, sn_13, sn_14, sn_15, sn_16, sn_17, sn_18, sn_19]
    simp only [q_law19, post_cons]
    simp [ex, xB_eq, ev, evs, evb, evt, evo, evi, evf, tst, K.val, Bz.isi, isOwn, post_bind, post_ok, post_lift, post_ite, post_noexc, post_nil, bind_ok, fk_nx, fk_rt, fr_nx, fr_rt, lift_some, sto, stoT, wipeS, z_add, z_adds, z_addt, z_addl, z_sub, z_mul, z_mult, z_mull, z_fdiv, z_mod, z_eq, z_ne, z_eqi, z_eqb, z_eqs, z_eqn, z_lt, z_le, z_gt, z_ge, z_is0, z_is1, z_is2, z_is3, z_is4, z_is5, z_in0, z_in1, z_in2, z_in3, z_in4, z_in5, z_inl, z_int, z_nil, z_nit, z_t0, z_t1, z_t2, z_t3, z_t4, z_t5, z_tr, z_isb, z_isb1, z_isb2, z_isb3, z_isb4, z_isb5, z_addb, z_subb, z_nsb, z_rvt, z_rvl, z_stp, z_srl, z_srt, z_sti, z_stb, z_shl, z_ixt, z_ixl, z_ixr, z_slt, z_sll, z_lent, z_lenl, z_lenr, z_suml, z_sumt, z_maxl, z_maxt, z_minl, z_bi, z_bb, z_tul, z_tut, z_tur, z_lil, z_lit, z_all, z_max2, z_min2, z_kt, z_kl, z_cot, z_col, z_da, z_ds0, z_ds1, z_sql, z_sqt, z_isLr, z_fn, z_fb, z_fi, z_fs, sn_0, sn_1, sn_2, sn_3, sn_4, sn_5, sn_6, sn_7, sn_8, sn_9, sn_10, sn_11, sn_12, sn_13, sn_14, sn_15, sn_16, sn_17, sn_18, sn_19, hen]
    rw [lc_map (fun x => PyData.tuple [.int (x - 1), .int (xs.count x)]) (p := fun x => decide (0 < (xs.count x : Int))) (f := fun x => .tuple [.int (x - 1 + 1), .int (xs.count x)])]
    rotate_left
    · unfold szl; rw [rgI_len]; simp; omega
    · intro x hx
      refine ⟨_, rfl, ?_, fun _ => ?_⟩
      · refine Post.eqQ fun Q hQ => ?_
        simp [ex, xB_eq, ev, evs, evb, evt, evo, evi, evf, tst, K.val, Bz.isi, isOwn, post_bind, post_ok, post_lift, post_ite, post_noexc, post_nil, bind_ok, fk_nx, fk_rt, fr_nx, fr_rt, lift_some, sto, stoT, wipeS, z_add, z_adds, z_addt, z_addl, z_sub, z_mul, z_mult, z_mull, z_fdiv, z_mod, z_eq, z_ne, z_eqi, z_eqb, z_eqs, z_eqn, z_lt, z_le, z_gt, z_ge, z_is0, z_is1, z_is2, z_is3, z_is4, z_is5, z_in0, z_in1, z_in2, z_in3, z_in4, z_in5, z_inl, z_int, z_nil, z_nit, z_t0, z_t1, z_t2, z_t3, z_t4, z_t5, z_tr, z_isb, z_isb1, z_isb2, z_isb3, z_isb4, z_isb5, z_addb, z_subb, z_nsb, z_rvt, z_rvl, z_stp, z_srl, z_srt, z_sti, z_stb, z_shl, z_ixt, z_ixl, z_ixr, z_slt, z_sll, z_lent, z_lenl, z_lenr, z_suml, z_sumt, z_maxl, z_maxt, z_minl, z_bi, z_bb, z_tul, z_tut, z_tur, z_lil, z_lit, z_all, z_max2, z_min2, z_kt, z_kl, z_cot, z_col, z_da, z_ds0, z_ds1, z_sql, z_sqt, z_isLr, z_fn, z_fb, z_fi, z_fs, sn_0, sn_1, sn_2, sn_3, sn_4, sn_5, sn_6, sn_7, sn_8, sn_9, sn_10, sn_11, sn_12, sn_13, sn_14, sn_15, sn_16, sn_17, sn_18, sn_19]
        simpa using hQ
      · refine Post.eqQ fun Q hQ => ?_
        simp [ex, xB_eq, ev, evs, evb, evt, evo, evi, evf, tst, K.val, Bz.isi, isOwn, post_bind, post_ok, post_lift, post_ite, post_noexc, post_nil, bind_ok, fk_nx, fk_rt, fr_nx, fr_rt, lift_some, sto, stoT, wipeS, z_add, z_adds, z_addt, z_addl, z_sub, z_mul, z_mult, z_mull, z_fdiv, z_mod, z_eq, z_ne, z_eqi, z_eqb, z_eqs, z_eqn, z_lt, z_le, z_gt, z_ge, z_is0, z_is1, z_is2, z_is3, z_is4, z_is5, z_in0, z_in1, z_in2, z_in3, z_in4, z_in5, z_inl, z_int, z_nil, z_nit, z_t0, z_t1, z_t2, z_t3, z_t4, z_t5, z_tr, z_isb, z_isb1, z_isb2, z_isb3, z_isb4, z_isb5, z_addb, z_subb, z_nsb, z_rvt, z_rvl, z_stp, z_srl, z_srt, z_sti, z_stb, z_shl, z_ixt, z_ixl, z_ixr, z_slt, z_sll, z_lent, z_lenl, z_lenr, z_suml, z_sumt, z_maxl, z_maxt, z_minl, z_bi, z_bb, z_tul, z_tut, z_tur, z_lil, z_lit, z_all, z_max2, z_min2, z_kt, z_kl, z_cot, z_col, z_da, z_ds0, z_ds1, z_sql, z_sqt, z_isLr, z_fn, z_fb, z_fi, z_fs, sn_0, sn_1, sn_2, sn_3, sn_4, sn_5, sn_6, sn_7, sn_8, sn_9, sn_10, sn_11, sn_12, sn_13, sn_14, sn_15, sn_16, sn_17, sn_18, sn_19]
        simpa using hQ
    simp only [post_ok, List.nil_append]
    rw [outs_rg hmem, hcr]
    simp [ex, xB_eq, ev, evs, evb, evt, evo, evi, evf, tst, K.val, Bz.isi, isOwn, post_bind, post_ok, post_lift, post_ite, post_noexc, post_nil, bind_ok, fk_nx, fk_rt, fr_nx, fr_rt, lift_some, sto, stoT, wipeS, z_add, z_adds, z_addt, z_addl, z_sub, z_mul, z_mult, z_mull, z_fdiv, z_mod, z_eq, z_ne, z_eqi, z_eqb, z_eqs, z_eqn, z_lt, z_le, z_gt, z_ge, z_is0, z_is1, z_is2, z_is3, z_is4, z_is5, z_in0, z_in1, z_in2, z_in3, z_in4, z_in5, z_inl, z_int, z_nil, z_nit, z_t0, z_t1, z_t2, z_t3, z_t4, z_t5, z_tr, z_isb, z_isb1, z_isb2, z_isb3, z_isb4, z_isb5, z_addb, z_subb, z_nsb, z_rvt, z_rvl, z_stp, z_srl, z_srt, z_sti, z_stb, z_shl, z_ixt, z_ixl, z_ixr, z_slt, z_sll, z_lent, z_lenl, z_lenr, z_suml, z_sumt, z_maxl, z_maxt, z_minl, z_bi, z_bb, z_tul, z_tut, z_tur, z_lil, z_lit, z_all, z_max2, z_min2, z_kt, z_kl, z_cot, z_col, z_da, z_ds0, z_ds1, z_sql, z_sqt, z_isLr, z_fn, z_fb, z_fi, z_fs, sn_0, sn_1, sn_2, sn_3, sn_4, sn_5, sn_6, sn_7, sn_8, sn_9, sn_10, sn_11, sn_12, sn_13, sn_14, sn_15, sn_16, sn_17, sn_18, sn_19]
    simp only [q_law18, post_cons]
    simp [ex, xB_eq, ev, evs, evb, evt, evo, evi, evf, tst, K.val, Bz.isi, isOwn, post_bind, post_ok, post_lift, post_ite, post_noexc, post_nil, bind_ok, fk_nx, fk_rt, fr_nx, fr_rt, lift_some, sto, stoT, wipeS, z_add, z_adds, z_addt, z_addl, z_sub, z_mul, z_mult, z_mull, z_fdiv, z_mod, z_eq, z_ne, z_eqi, z_eqb, z_eqs, z_eqn, z_lt, z_le, z_gt, z_ge, z_is0, z_is1, z_is2, z_is3, z_is4, z_is5, z_in0, z_in1, z_in2, z_in3, z_in4, z_in5, z_inl, z_int, z_nil, z_nit, z_t0, z_t1, z_t2, z_t3, z_t4, z_t5, z_tr, z_isb, z_isb1, z_isb2, z_isb3, z_isb4, z_isb5, z_addb, z_subb, z_nsb, z_rvt, z_rvl, z_stp, z_srl, z_srt, z_sti, z_stb, z_shl, z_ixt, z_ixl, z_ixr, z_slt, z_sll, z_lent, z_lenl, z_lenr, z_suml, z_sumt, z_maxl, z_maxt, z_minl, z_bi, z_bb, z_tul, z_tut, z_tur, z_lil, z_lit, z_all, z_max2, z_min2, z_kt, z_kl, z_cot, z_col, z_da, z_ds0, z_ds1, z_sql, z_sqt, z_isLr, z_fn, z_fb, z_fi, z_fs, sn_0, sn_1, sn_2, sn_3, sn_4, sn_5, sn_6, sn_7, sn_8, sn_9, sn_10, sn_11, sn_12, sn_13, sn_14, sn_15, sn_16, sn_17, sn_18, sn_19, F1, sf, srt, so]
    exact end_ok (ns := ⟨ns.ns, jk⟩) ha hb hr hs hm
  have hint : intsOf [PyData.int (sel player xs.sum 0), .int (sel player 0 xs.sum)] = some [sel player xs.sum 0, sel player 0 xs.sum] := rfl
  have hsl3 : [sel player xs.sum 0, sel player 0 xs.sum].sum = xs.sum := by simp [hsel]
  simp only [q_law23, post_cons]
  simp [ex, xB_eq, ev, evs, evb, evt, evo, evi, evf, tst, K.val, Bz.isi, isOwn, post_bind, post_ok, post_lift, post_ite, post_noexc, post_nil, bind_ok, fk_nx, fk_rt, fr_nx, fr_rt, lift_some, sto, stoT, wipeS, z_add, z_adds, z_addt, z_addl, z_sub, z_mul, z_mult, z_mull, z_fdiv, z_mod, z_eq, z_ne, z_eqi, z_eqb, z_eqs, z_eqn, z_lt, z_le, z_gt, z_ge, z_is0, z_is1, z_is2, z_is3, z_is4, z_is5, z_in0, z_in1, z_in2, z_in3, z_in4, z_in5, z_inl, z_int, z_nil, z_nit, z_t0, z_t1, z_t2, z_t3, z_t4, z_t5, z_tr, z_isb, z_isb1, z_isb2, z_isb3, z_isb4, z_isb5, z_addb, z_subb, z_nsb, z_rvt, z_rvl, z_stp, z_srl, z_srt, z_sti, z_stb, z_shl, z_ixt, z_ixl, z_ixr, z_slt, z_sll, z_lent, z_lenl, z_lenr, z_suml, z_sumt, z_maxl, z_maxt, z_minl, z_bi, z_bb, z_tul, z_tut, z_tur, z_lil, z_lit, z_all, z_max2, z_min2, z_kt, z_kl, z_cot, z_col, z_da, z_ds0, z_ds1, z_sql, z_sqt, z_isLr, z_fn, z_fb, z_fi, z_fs, sn_0, sn_1, sn_2, sn_3, sn_4, sn_5, sn_6, sn_7, sn_8, sn_9, sn_10, sn_11, sn_12, sn_13, sn_14, sn_15, sn_16, sn_17, sn_18, sn_19, if1, P1, hint, hsl3, z_eqi]
  have hv0 : PyData.tuple [.int player, .int xs.sum, .int (xs.length : Int)] = v3E (player, xs.sum, (xs.length : Int)) := rfl
  by_cases q : xs = []
  · simp only [q, if_true] at V1 T1 hbst
    subst q
    have rep0 : rep [v3E (player, ([] : List Int).sum, (([] : List Int).length : Int))] 0 = [] := rfl
    have := to20
    simp only [q_law22, post_cons]
    simp [ex, xB_eq, ev, evs, evb, evt, evo, evi, evf, tst, K.val, Bz.isi, isOwn, post_bind, post_ok, post_lift, post_ite, post_noexc, post_nil, bind_ok, fk_nx, fk_rt, fr_nx, fr_rt, lift_some, sto, stoT, wipeS, z_add, z_adds, z_addt, z_addl, z_sub, z_mul, z_mult, z_mull, z_fdiv, z_mod, z_eq, z_ne, z_eqi, z_eqb, z_eqs, z_eqn, z_lt, z_le, z_gt, z_ge, z_is0, z_is1, z_is2, z_is3, z_is4, z_is5, z_in0, z_in1, z_in2, z_in3, z_in4, z_in5, z_inl, z_int, z_nil, z_nit, z_t0, z_t1, z_t2, z_t3, z_t4, z_t5, z_tr, z_isb, z_isb1, z_isb2, z_isb3, z_isb4, z_isb5, z_addb, z_subb, z_nsb, z_rvt, z_rvl, z_stp, z_srl, z_srt, z_sti, z_stb, z_shl, z_ixt, z_ixl, z_ixr, z_slt, z_sll, z_lent, z_lenl, z_lenr, z_suml, z_sumt, z_maxl, z_maxt, z_minl, z_bi, z_bb, z_tul, z_tut, z_tur, z_lil, z_lit, z_all, z_max2, z_min2, z_kt, z_kl, z_cot, z_col, z_da, z_ds0, z_ds1, z_sql, z_sqt, z_isLr, z_fn, z_fb, z_fi, z_fs, sn_0, sn_1, sn_2, sn_3, sn_4, sn_5, sn_6, sn_7, sn_8, sn_9, sn_10, sn_11, sn_12, sn_13, sn_14, sn_15, sn_16, sn_17, sn_18, sn_19, V1, eqv_nilT, rep]
    simp only [q_law21, post_cons]
    simp [ex, xB_eq, ev, evs, evb, evt, evo, evi, evf, tst, K.val, Bz.isi, isOwn, post_bind, post_ok, post_lift, post_ite, post_noexc, post_nil, bind_ok, fk_nx, fk_rt, fr_nx, fr_rt, lift_some, sto, stoT, wipeS, z_add, z_adds, z_addt, z_addl, z_sub, z_mul, z_mult, z_mull, z_fdiv, z_mod, z_eq, z_ne, z_eqi, z_eqb, z_eqs, z_eqn, z_lt, z_le, z_gt, z_ge, z_is0, z_is1, z_is2, z_is3, z_is4, z_is5, z_in0, z_in1, z_in2, z_in3, z_in4, z_in5, z_inl, z_int, z_nil, z_nit, z_t0, z_t1, z_t2, z_t3, z_t4, z_t5, z_tr, z_isb, z_isb1, z_isb2, z_isb3, z_isb4, z_isb5, z_addb, z_subb, z_nsb, z_rvt, z_rvl, z_stp, z_srl, z_srt, z_sti, z_stb, z_shl, z_ixt, z_ixl, z_ixr, z_slt, z_sll, z_lent, z_lenl, z_lenr, z_suml, z_sumt, z_maxl, z_maxt, z_minl, z_bi, z_bb, z_tul, z_tut, z_tur, z_lil, z_lit, z_all, z_max2, z_min2, z_kt, z_kl, z_cot, z_col, z_da, z_ds0, z_ds1, z_sql, z_sqt, z_isLr, z_fn, z_fb, z_fi, z_fs, sn_0, sn_1, sn_2, sn_3, sn_4, sn_5, sn_6, sn_7, sn_8, sn_9, sn_10, sn_11, sn_12, sn_13, sn_14, sn_15, sn_16, sn_17, sn_18, sn_19, T1, hbst, z_eqi, G1, qg, tw_stF]
    exact this _ _ _
  · simp only [q, if_false] at V1 T1 hbst
    have rep1 : rep [v3E (player, xs.sum, (xs.length : Int))] 1 = [v3E (player, xs.sum, (xs.length : Int))] := rfl
    have hne : xs.isEmpty = false := by cases xs with | nil => exact absurd rfl q | cons => rfl
    have hme : (xs.map PyData.int).isEmpty = false := by cases xs with | nil => exact absurd rfl q | cons => rfl
    simp only [q_law22, post_cons]
    simp [ex, xB_eq, ev, evs, evb, evt, evo, evi, evf, tst, K.val, Bz.isi, isOwn, post_bind, post_ok, post_lift, post_ite, post_noexc, post_nil, bind_ok, fk_nx, fk_rt, fr_nx, fr_rt, lift_some, sto, stoT, wipeS, z_add, z_adds, z_addt, z_addl, z_sub, z_mul, z_mult, z_mull, z_fdiv, z_mod, z_eq, z_ne, z_eqi, z_eqb, z_eqs, z_eqn, z_lt, z_le, z_gt, z_ge, z_is0, z_is1, z_is2, z_is3, z_is4, z_is5, z_in0, z_in1, z_in2, z_in3, z_in4, z_in5, z_inl, z_int, z_nil, z_nit, z_t0, z_t1, z_t2, z_t3, z_t4, z_t5, z_tr, z_isb, z_isb1, z_isb2, z_isb3, z_isb4, z_isb5, z_addb, z_subb, z_nsb, z_rvt, z_rvl, z_stp, z_srl, z_srt, z_sti, z_stb, z_shl, z_ixt, z_ixl, z_ixr, z_slt, z_sll, z_lent, z_lenl, z_lenr, z_suml, z_sumt, z_maxl, z_maxt, z_minl, z_bi, z_bb, z_tul, z_tut, z_tur, z_lil, z_lit, z_all, z_max2, z_min2, z_kt, z_kl, z_cot, z_col, z_da, z_ds0, z_ds1, z_sql, z_sqt, z_isLr, z_fn, z_fb, z_fi, z_fs, sn_0, sn_1, sn_2, sn_3, sn_4, sn_5, sn_6, sn_7, sn_8, sn_9, sn_10, sn_11, sn_12, sn_13, sn_14, sn_15, sn_16, sn_17, sn_18, sn_19, V1, eqv_nilT, hv0, hme, hne, q, rep1, qv]
    simp only [q_law21, post_cons]
    simp [ex, xB_eq, ev, evs, evb, evt, evo, evi, evf, tst, K.val, Bz.isi, isOwn, post_bind, post_ok, post_lift, post_ite, post_noexc, post_nil, bind_ok, fk_nx, fk_rt, fr_nx, fr_rt, lift_some, sto, stoT, wipeS, z_add, z_adds, z_addt, z_addl, z_sub, z_mul, z_mult, z_mull, z_fdiv, z_mod, z_eq, z_ne, z_eqi, z_eqb, z_eqs, z_eqn, z_lt, z_le, z_gt, z_ge, z_is0, z_is1, z_is2, z_is3, z_is4, z_is5, z_in0, z_in1, z_in2, z_in3, z_in4, z_in5, z_inl, z_int, z_nil, z_nit, z_t0, z_t1, z_t2, z_t3, z_t4, z_t5, z_tr, z_isb, z_isb1, z_isb2, z_isb3, z_isb4, z_isb5, z_addb, z_subb, z_nsb, z_rvt, z_rvl, z_stp, z_srl, z_srt, z_sti, z_stb, z_shl, z_ixt, z_ixl, z_ixr, z_slt, z_sll, z_lent, z_lenl, z_lenr, z_suml, z_sumt, z_maxl, z_maxt, z_minl, z_bi, z_bb, z_tul, z_tut, z_tur, z_lil, z_lit, z_all, z_max2, z_min2, z_kt, z_kl, z_cot, z_col, z_da, z_ds0, z_ds1, z_sql, z_sqt, z_isLr, z_fn, z_fb, z_fi, z_fs, sn_0, sn_1, sn_2, sn_3, sn_4, sn_5, sn_6, sn_7, sn_8, sn_9, sn_10, sn_11, sn_12, sn_13, sn_14, sn_15, sn_16, sn_17, sn_18, sn_19, T1, hbst, z_eqi, G1, qg, tw_stF]
    exact to20 _ _ _
theorem body_ok {ns : Sc} {n : Nat} {s2 s3 s4 s5 s6 s7 s8 s9 s10 s11 s12 s13 s14 : Sl} (hn : n < 600000) : Post (xB (rn Gm 23) q_law27 [.v (.ref 0), .v (.ref 1), s2, s3, s4, s5, s6, s7, s8, s9, s10, s11, s12, s13, s14, .non, .non, .non, .non] (Tw ns n)) (Pc ns.ns n) := by
  simp only [q_law27, post_cons]
  simp [ex, xB_eq, ev, evs, evb, evt, evo, evi, evf, tst, K.val, Bz.isi, isOwn, post_bind, post_ok, post_lift, post_ite, post_noexc, post_nil, bind_ok, fk_nx, fk_rt, fr_nx, fr_rt, lift_some, sto, stoT, wipeS, z_add, z_adds, z_addt, z_addl, z_sub, z_mul, z_mult, z_mull, z_fdiv, z_mod, z_eq, z_ne, z_eqi, z_eqb, z_eqs, z_eqn, z_lt, z_le, z_gt, z_ge, z_is0, z_is1, z_is2, z_is3, z_is4, z_is5, z_in0, z_in1, z_in2, z_in3, z_in4, z_in5, z_inl, z_int, z_nil, z_nit, z_t0, z_t1, z_t2, z_t3, z_t4, z_t5, z_tr, z_isb, z_isb1, z_isb2, z_isb3, z_isb4, z_isb5, z_addb, z_subb, z_nsb, z_rvt, z_rvl, z_stp, z_srl, z_srt, z_sti, z_stb, z_shl, z_ixt, z_ixl, z_ixr, z_slt, z_sll, z_lent, z_lenl, z_lenr, z_suml, z_sumt, z_maxl, z_maxt, z_minl, z_bi, z_bb, z_tul, z_tut, z_tur, z_lil, z_lit, z_all, z_max2, z_min2, z_kt, z_kl, z_cot, z_col, z_da, z_ds0, z_ds1, z_sql, z_sqt, z_isLr, z_fn, z_fb, z_fi, z_fs, sn_0, sn_1, sn_2, sn_3, sn_4, sn_5, sn_6, sn_7, sn_8, sn_9, sn_10, sn_11, sn_12, sn_13, sn_14, sn_15, sn_16, sn_17, sn_18, sn_19]
  refine (rules_ok (by omega)).imp ?_
  rintro _ _ ⟨a, b, rfl, a1, a2, b1, b2, rfl⟩
  try simp [ex, xB_eq, ev, evs, evb, evt, evo, evi, evf, tst, K.val, Bz.isi, isOwn, post_bind, post_ok, post_lift, post_ite, post_noexc, post_nil, bind_ok, fk_nx, fk_rt, fr_nx, fr_rt, lift_some, sto, stoT, wipeS, z_add, z_adds, z_addt, z_addl, z_sub, z_mul, z_mult, z_mull, z_fdiv, z_mod, z_eq, z_ne, z_eqi, z_eqb, z_eqs, z_eqn, z_lt, z_le, z_gt, z_ge, z_is0, z_is1, z_is2, z_is3, z_is4, z_is5, z_in0, z_in1, z_in2, z_in3, z_in4, z_in5, z_inl, z_int, z_nil, z_nit, z_t0, z_t1, z_t2, z_t3, z_t4, z_t5, z_tr, z_isb, z_isb1, z_isb2, z_isb3, z_isb4, z_isb5, z_addb, z_subb, z_nsb, z_rvt, z_rvl, z_stp, z_srl, z_srt, z_sti, z_stb, z_shl, z_ixt, z_ixl, z_ixr, z_slt, z_sll, z_lent, z_lenl, z_lenr, z_suml, z_sumt, z_maxl, z_maxt, z_minl, z_bi, z_bb, z_tul, z_tut, z_tur, z_lil, z_lit, z_all, z_max2, z_min2, z_kt, z_kl, z_cot, z_col, z_da, z_ds0, z_ds1, z_sql, z_sqt, z_isLr, z_fn, z_fb, z_fi, z_fs, sn_0, sn_1, sn_2, sn_3, sn_4, sn_5, sn_6, sn_7, sn_8, sn_9, sn_10, sn_11, sn_12, sn_13, sn_14, sn_15, sn_16, sn_17, sn_18, sn_19]
  simp only [q_law26, post_cons]
  simp [ex, xB_eq, ev, evs, evb, evt, evo, evi, evf, tst, K.val, Bz.isi, isOwn, post_bind, post_ok, post_lift, post_ite, post_noexc, post_nil, bind_ok, fk_nx, fk_rt, fr_nx, fr_rt, lift_some, sto, stoT, wipeS, z_add, z_adds, z_addt, z_addl, z_sub, z_mul, z_mult, z_mull, z_fdiv, z_mod, z_eq, z_ne, z_eqi, z_eqb, z_eqs, z_eqn, z_lt, z_le, z_gt, z_ge, z_is0, z_is1, z_is2, z_is3, z_is4, z_is5, z_in0, z_in1, z_in2, z_in3, z_in4, z_in5, z_inl, z_int, z_nil, z_nit, z_t0, z_t1, z_t2, z_t3, z_t4, z_t5, z_tr, z_isb, z_isb1, z_isb2, z_isb3, z_isb4, z_isb5, z_addb, z_subb, z_nsb, z_rvt, z_rvl, z_stp, z_srl, z_srt, z_sti, z_stb, z_shl, z_ixt, z_ixl, z_ixr, z_slt, z_sll, z_lent, z_lenl, z_lenr, z_suml, z_sumt, z_maxl, z_maxt, z_minl, z_bi, z_bb, z_tul, z_tut, z_tur, z_lil, z_lit, z_all, z_max2, z_min2, z_kt, z_kl, z_cot, z_col, z_da, z_ds0, z_ds1, z_sql, z_sqt, z_isLr, z_fn, z_fb, z_fi, z_fs, sn_0, sn_1, sn_2, sn_3, sn_4, sn_5, sn_6, sn_7, sn_8, sn_9, sn_10, sn_11, sn_12, sn_13, sn_14, sn_15, sn_16, sn_17, sn_18, sn_19]
  refine (drun_ok (by omega) (by omega) (by omega)).imp ?_
  rintro _ _ ⟨run, m, rfl, hr, rfl, hm⟩
  simp [ex, xB_eq, ev, evs, evb, evt, evo, evi, evf, tst, K.val, Bz.isi, isOwn, post_bind, post_ok, post_lift, post_ite, post_noexc, post_nil, bind_ok, fk_nx, fk_rt, fr_nx, fr_rt, lift_some, sto, stoT, wipeS, z_add, z_adds, z_addt, z_addl, z_sub, z_mul, z_mult, z_mull, z_fdiv, z_mod, z_eq, z_ne, z_eqi, z_eqb, z_eqs, z_eqn, z_lt, z_le, z_gt, z_ge, z_is0, z_is1, z_is2, z_is3, z_is4, z_is5, z_in0, z_in1, z_in2, z_in3, z_in4, z_in5, z_inl, z_int, z_nil, z_nit, z_t0, z_t1, z_t2, z_t3, z_t4, z_t5, z_tr, z_isb, z_isb1, z_isb2, z_isb3, z_isb4, z_isb5, z_addb, z_subb, z_nsb, z_rvt, z_rvl, z_stp, z_srl, z_srt, z_sti, z_stb, z_shl, z_ixt, z_ixl, z_ixr, z_slt, z_sll, z_lent, z_lenl, z_lenr, z_suml, z_sumt, z_maxl, z_maxt, z_minl, z_bi, z_bb, z_tul, z_tut, z_tur, z_lil, z_lit, z_all, z_max2, z_min2, z_kt, z_kl, z_cot, z_col, z_da, z_ds0, z_ds1, z_sql, z_sqt, z_isLr, z_fn, z_fb, z_fi, z_fs, sn_0, sn_1, sn_2, sn_3, sn_4, sn_5, sn_6, sn_7, sn_8, sn_9, sn_10, sn_11, sn_12, sn_13, sn_14, sn_15, sn_16, sn_17, sn_18, sn_19]
  refine (draw_ok (by omega) (by omega)).imp ?_
  rintro _ _ ⟨player, rfl, w0, w1, rfl⟩
  have hpl : player = 0 ∨ player = 1 := by omega
  obtain ⟨fo, hs⟩ := runS_of (player := player) (show 1 ≤ a ∧ a ≤ 1000 by omega) (show 1 ≤ b by omega) hpl run (hr.run (by omega) (by omega))
  have hrl := hr.len (by omega)
  have rw1 := fun st => rows_ok (k := 22) (l := run) (st := st) (by omega)
  have hz4 : 4 ≤ szl := by unfold szl; omega
  simp [ex, xB_eq, ev, evs, evb, evt, evo, evi, evf, tst, K.val, Bz.isi, isOwn, post_bind, post_ok, post_lift, post_ite, post_noexc, post_nil, bind_ok, fk_nx, fk_rt, fr_nx, fr_rt, lift_some, sto, stoT, wipeS, z_add, z_adds, z_addt, z_addl, z_sub, z_mul, z_mult, z_mull, z_fdiv, z_mod, z_eq, z_ne, z_eqi, z_eqb, z_eqs, z_eqn, z_lt, z_le, z_gt, z_ge, z_is0, z_is1, z_is2, z_is3, z_is4, z_is5, z_in0, z_in1, z_in2, z_in3, z_in4, z_in5, z_inl, z_int, z_nil, z_nit, z_t0, z_t1, z_t2, z_t3, z_t4, z_t5, z_tr, z_isb, z_isb1, z_isb2, z_isb3, z_isb4, z_isb5, z_addb, z_subb, z_nsb, z_rvt, z_rvl, z_stp, z_srl, z_srt, z_sti, z_stb, z_shl, z_ixt, z_ixl, z_ixr, z_slt, z_sll, z_lent, z_lenl, z_lenr, z_suml, z_sumt, z_maxl, z_maxt, z_minl, z_bi, z_bb, z_tul, z_tut, z_tur, z_lil, z_lit, z_all, z_max2, z_min2, z_kt, z_kl, z_cot, z_col, z_da, z_ds0, z_ds1, z_sql, z_sqt, z_isLr, z_fn, z_fb, z_fi, z_fs, sn_0, sn_1, sn_2, sn_3, sn_4, sn_5, sn_6, sn_7, sn_8, sn_9, sn_10, sn_11, sn_12, sn_13, sn_14, sn_15, sn_16, sn_17, sn_18, sn_19]
  simp only [q_law25, post_cons]
  simp [ex, xB_eq, ev, evs, evb, evt, evo, evi, evf, tst, K.val, Bz.isi, isOwn, post_bind, post_ok, post_lift, post_ite, post_noexc, post_nil, bind_ok, fk_nx, fk_rt, fr_nx, fr_rt, lift_some, sto, stoT, wipeS, z_add, z_adds, z_addt, z_addl, z_sub, z_mul, z_mult, z_mull, z_fdiv, z_mod, z_eq, z_ne, z_eqi, z_eqb, z_eqs, z_eqn, z_lt, z_le, z_gt, z_ge, z_is0, z_is1, z_is2, z_is3, z_is4, z_is5, z_in0, z_in1, z_in2, z_in3, z_in4, z_in5, z_inl, z_int, z_nil, z_nit, z_t0, z_t1, z_t2, z_t3, z_t4, z_t5, z_tr, z_isb, z_isb1, z_isb2, z_isb3, z_isb4, z_isb5, z_addb, z_subb, z_nsb, z_rvt, z_rvl, z_stp, z_srl, z_srt, z_sti, z_stb, z_shl, z_ixt, z_ixl, z_ixr, z_slt, z_sll, z_lent, z_lenl, z_lenr, z_suml, z_sumt, z_maxl, z_maxt, z_minl, z_bi, z_bb, z_tul, z_tut, z_tur, z_lil, z_lit, z_all, z_max2, z_min2, z_kt, z_kl, z_cot, z_col, z_da, z_ds0, z_ds1, z_sql, z_sqt, z_isLr, z_fn, z_fb, z_fi, z_fs, sn_0, sn_1, sn_2, sn_3, sn_4, sn_5, sn_6, sn_7, sn_8, sn_9, sn_10, sn_11, sn_12, sn_13, sn_14, sn_15, sn_16, sn_17, sn_18, sn_19, rw1]
  rw [lc_map (fun x => stk x [x] false) (p := fun x => true) (f := fun x => Dd.e (.stroke x [x] false))]
  rotate_left
  · unfold szl; simp; omega
  · intro x hx
    refine ⟨_, rfl, by simp [ex, xB_eq, ev, evs, evb, evt, evo, evi, evf, tst, K.val, Bz.isi, isOwn, post_bind, post_ok, post_lift, post_ite, post_noexc, post_nil, bind_ok, fk_nx, fk_rt, fr_nx, fr_rt, lift_some, sto, stoT, wipeS, z_add, z_adds, z_addt, z_addl, z_sub, z_mul, z_mult, z_mull, z_fdiv, z_mod, z_eq, z_ne, z_eqi, z_eqb, z_eqs, z_eqn, z_lt, z_le, z_gt, z_ge, z_is0, z_is1, z_is2, z_is3, z_is4, z_is5, z_in0, z_in1, z_in2, z_in3, z_in4, z_in5, z_inl, z_int, z_nil, z_nit, z_t0, z_t1, z_t2, z_t3, z_t4, z_t5, z_tr, z_isb, z_isb1, z_isb2, z_isb3, z_isb4, z_isb5, z_addb, z_subb, z_nsb, z_rvt, z_rvl, z_stp, z_srl, z_srt, z_sti, z_stb, z_shl, z_ixt, z_ixl, z_ixr, z_slt, z_sll, z_lent, z_lenl, z_lenr, z_suml, z_sumt, z_maxl, z_maxt, z_minl, z_bi, z_bb, z_tul, z_tut, z_tur, z_lil, z_lit, z_all, z_max2, z_min2, z_kt, z_kl, z_cot, z_col, z_da, z_ds0, z_ds1, z_sql, z_sqt, z_isLr, z_fn, z_fb, z_fi, z_fs, sn_0, sn_1, sn_2, sn_3, sn_4, sn_5, sn_6, sn_7, sn_8, sn_9, sn_10, sn_11, sn_12, sn_13, sn_14, sn_15, sn_16, sn_17, sn_18, sn_19], fun _ => ?_⟩
    refine Post.eqQ fun Q hQ => ?_
    unfold stk
    simp [ex, xB_eq, ev, evs, evb, evt, evo, evi, evf, tst, K.val, Bz.isi, isOwn, post_bind, post_ok, post_lift, post_ite, post_noexc, post_nil, bind_ok, fk_nx, fk_rt, fr_nx, fr_rt, lift_some, sto, stoT, wipeS, z_add, z_adds, z_addt, z_addl, z_sub, z_mul, z_mult, z_mull, z_fdiv, z_mod, z_eq, z_ne, z_eqi, z_eqb, z_eqs, z_eqn, z_lt, z_le, z_gt, z_ge, z_is0, z_is1, z_is2, z_is3, z_is4, z_is5, z_in0, z_in1, z_in2, z_in3, z_in4, z_in5, z_inl, z_int, z_nil, z_nit, z_t0, z_t1, z_t2, z_t3, z_t4, z_t5, z_tr, z_isb, z_isb1, z_isb2, z_isb3, z_isb4, z_isb5, z_addb, z_subb, z_nsb, z_rvt, z_rvl, z_stp, z_srl, z_srt, z_sti, z_stb, z_shl, z_ixt, z_ixl, z_ixr, z_slt, z_sll, z_lent, z_lenl, z_lenr, z_suml, z_sumt, z_maxl, z_maxt, z_minl, z_bi, z_bb, z_tul, z_tut, z_tur, z_lil, z_lit, z_all, z_max2, z_min2, z_kt, z_kl, z_cot, z_col, z_da, z_ds0, z_ds1, z_sql, z_sqt, z_isLr, z_fn, z_fb, z_fi, z_fs, sn_0, sn_1, sn_2, sn_3, sn_4, sn_5, sn_6, sn_7, sn_8, sn_9, sn_10, sn_11, sn_12, sn_13, sn_14, sn_15, sn_16, sn_17, sn_18, sn_19, hz4]
    exact hQ
  simp only [post_ok, List.nil_append, filt_t]
  have hmp : run.map (fun x => Dd.e (.stroke x [x] false)) = (dsR run).map Dd.e := by unfold dsR; rw [List.map_map]; rfl
  rw [hmp]
  have fin := mid_ok (ns := ns) (n := n) (m := m + 1) (s2 := s2) (s9 := s9) (s10 := s10) (s11 := s11) (s12 := s12) (s13 := s13) (s14 := s14) (show 1 ≤ a ∧ a ≤ 10 by omega) (show 2 ≤ b ∧ b ≤ 8 by omega) hr hs (by omega)
  unfold sl9 frE at fin
  generalize (dsR run).map Dd.e = dd at *
  simp [ex, xB_eq, ev, evs, evb, evt, evo, evi, evf, tst, K.val, Bz.isi, isOwn, post_bind, post_ok, post_lift, post_ite, post_noexc, post_nil, bind_ok, fk_nx, fk_rt, fr_nx, fr_rt, lift_some, sto, stoT, wipeS, z_add, z_adds, z_addt, z_addl, z_sub, z_mul, z_mult, z_mull, z_fdiv, z_mod, z_eq, z_ne, z_eqi, z_eqb, z_eqs, z_eqn, z_lt, z_le, z_gt, z_ge, z_is0, z_is1, z_is2, z_is3, z_is4, z_is5, z_in0, z_in1, z_in2, z_in3, z_in4, z_in5, z_inl, z_int, z_nil, z_nit, z_t0, z_t1, z_t2, z_t3, z_t4, z_t5, z_tr, z_isb, z_isb1, z_isb2, z_isb3, z_isb4, z_isb5, z_addb, z_subb, z_nsb, z_rvt, z_rvl, z_stp, z_srl, z_srt, z_sti, z_stb, z_shl, z_ixt, z_ixl, z_ixr, z_slt, z_sll, z_lent, z_lenl, z_lenr, z_suml, z_sumt, z_maxl, z_maxt, z_minl, z_bi, z_bb, z_tul, z_tut, z_tur, z_lil, z_lit, z_all, z_max2, z_min2, z_kt, z_kl, z_cot, z_col, z_da, z_ds0, z_ds1, z_sql, z_sqt, z_isLr, z_fn, z_fb, z_fi, z_fs, sn_0, sn_1, sn_2, sn_3, sn_4, sn_5, sn_6, sn_7, sn_8, sn_9, sn_10, sn_11, sn_12, sn_13, sn_14, sn_15, sn_16, sn_17, sn_18, sn_19]
  simp only [q_law24, post_cons]
  simp [ex, xB_eq, ev, evs, evb, evt, evo, evi, evf, tst, K.val, Bz.isi, isOwn, post_bind, post_ok, post_lift, post_ite, post_noexc, post_nil, bind_ok, fk_nx, fk_rt, fr_nx, fr_rt, lift_some, sto, stoT, wipeS, z_add, z_adds, z_addt, z_addl, z_sub, z_mul, z_mult, z_mull, z_fdiv, z_mod, z_eq, z_ne, z_eqi, z_eqb, z_eqs, z_eqn, z_lt, z_le, z_gt, z_ge, z_is0, z_is1, z_is2, z_is3, z_is4, z_is5, z_in0, z_in1, z_in2, z_in3, z_in4, z_in5, z_inl, z_int, z_nil, z_nit, z_t0, z_t1, z_t2, z_t3, z_t4, z_t5, z_tr, z_isb, z_isb1, z_isb2, z_isb3, z_isb4, z_isb5, z_addb, z_subb, z_nsb, z_rvt, z_rvl, z_stp, z_srl, z_srt, z_sti, z_stb, z_shl, z_ixt, z_ixl, z_ixr, z_slt, z_sll, z_lent, z_lenl, z_lenr, z_suml, z_sumt, z_maxl, z_maxt, z_minl, z_bi, z_bb, z_tul, z_tut, z_tur, z_lil, z_lit, z_all, z_max2, z_min2, z_kt, z_kl, z_cot, z_col, z_da, z_ds0, z_ds1, z_sql, z_sqt, z_isLr, z_fn, z_fb, z_fi, z_fs, sn_0, sn_1, sn_2, sn_3, sn_4, sn_5, sn_6, sn_7, sn_8, sn_9, sn_10, sn_11, sn_12, sn_13, sn_14, sn_15, sn_16, sn_17, sn_18, sn_19, sum_ok]
  exact fin
theorem law_true (ns : List Int) (hl : ns.length ≤ 63) : ∃ st, run Gm 24 0 [.ref 0] [.scr ns] = .ok (.d (.bool true)) st := by
  have key : Post (rn Gm 24 0 [.ref 0] [.scr ns]) fun v _ => v = .d (.bool true) := by
    rw [run_at (d := ⟨19, 1, b_law⟩) rfl]
    rw [post_runB]
    refine ⟨rfl, ?_⟩
    simp only [b_law, post_cons]
    simp [ex, xB_eq, ev, evs, evb, evt, evo, evi, evf, tst, K.val, Bz.isi, isOwn, post_bind, post_ok, post_lift, post_ite, post_noexc, post_nil, bind_ok, fk_nx, fk_rt, fr_nx, fr_rt, lift_some, sto, stoT, wipeS, z_add, z_adds, z_addt, z_addl, z_sub, z_mul, z_mult, z_mull, z_fdiv, z_mod, z_eq, z_ne, z_eqi, z_eqb, z_eqs, z_eqn, z_lt, z_le, z_gt, z_ge, z_is0, z_is1, z_is2, z_is3, z_is4, z_is5, z_in0, z_in1, z_in2, z_in3, z_in4, z_in5, z_inl, z_int, z_nil, z_nit, z_t0, z_t1, z_t2, z_t3, z_t4, z_t5, z_tr, z_isb, z_isb1, z_isb2, z_isb3, z_isb4, z_isb5, z_addb, z_subb, z_nsb, z_rvt, z_rvl, z_stp, z_srl, z_srt, z_sti, z_stb, z_shl, z_ixt, z_ixl, z_ixr, z_slt, z_sll, z_lent, z_lenl, z_lenr, z_suml, z_sumt, z_maxl, z_maxt, z_minl, z_bi, z_bb, z_tul, z_tut, z_tur, z_lil, z_lit, z_all, z_max2, z_min2, z_kt, z_kl, z_cot, z_col, z_da, z_ds0, z_ds1, z_sql, z_sqt, z_isLr, z_fn, z_fb, z_fi, z_fs, sn_0, sn_1, sn_2, sn_3, sn_4, sn_5, sn_6, sn_7, sn_8, sn_9, sn_10, sn_11, sn_12, sn_13, sn_14, sn_15, sn_16, sn_17, sn_18, sn_19]
    simp only [q_law30, post_cons]
    simp [ex, xB_eq, ev, evs, evb, evt, evo, evi, evf, tst, K.val, Bz.isi, isOwn, post_bind, post_ok, post_lift, post_ite, post_noexc, post_nil, bind_ok, fk_nx, fk_rt, fr_nx, fr_rt, lift_some, sto, stoT, wipeS, z_add, z_adds, z_addt, z_addl, z_sub, z_mul, z_mult, z_mull, z_fdiv, z_mod, z_eq, z_ne, z_eqi, z_eqb, z_eqs, z_eqn, z_lt, z_le, z_gt, z_ge, z_is0, z_is1, z_is2, z_is3, z_is4, z_is5, z_in0, z_in1, z_in2, z_in3, z_in4, z_in5, z_inl, z_int, z_nil, z_nit, z_t0, z_t1, z_t2, z_t3, z_t4, z_t5, z_tr, z_isb, z_isb1, z_isb2, z_isb3, z_isb4, z_isb5, z_addb, z_subb, z_nsb, z_rvt, z_rvl, z_stp, z_srl, z_srt, z_sti, z_stb, z_shl, z_ixt, z_ixl, z_ixr, z_slt, z_sll, z_lent, z_lenl, z_lenr, z_suml, z_sumt, z_maxl, z_maxt, z_minl, z_bi, z_bb, z_tul, z_tut, z_tur, z_lil, z_lit, z_all, z_max2, z_min2, z_kt, z_kl, z_cot, z_col, z_da, z_ds0, z_ds1, z_sql, z_sqt, z_isLr, z_fn, z_fb, z_fi, z_fs, sn_0, sn_1, sn_2, sn_3, sn_4, sn_5, sn_6, sn_7, sn_8, sn_9, sn_10, sn_11, sn_12, sn_13, sn_14, sn_15, sn_16, sn_17, sn_18, sn_19]
    have hr : rngOk 0 8 = true := by decide
    simp only [q_law29, post_cons]
    simp [ex, xB_eq, ev, evs, evb, evt, evo, evi, evf, tst, K.val, Bz.isi, isOwn, post_bind, post_ok, post_lift, post_ite, post_noexc, post_nil, bind_ok, fk_nx, fk_rt, fr_nx, fr_rt, lift_some, sto, stoT, wipeS, z_add, z_adds, z_addt, z_addl, z_sub, z_mul, z_mult, z_mull, z_fdiv, z_mod, z_eq, z_ne, z_eqi, z_eqb, z_eqs, z_eqn, z_lt, z_le, z_gt, z_ge, z_is0, z_is1, z_is2, z_is3, z_is4, z_is5, z_in0, z_in1, z_in2, z_in3, z_in4, z_in5, z_inl, z_int, z_nil, z_nit, z_t0, z_t1, z_t2, z_t3, z_t4, z_t5, z_tr, z_isb, z_isb1, z_isb2, z_isb3, z_isb4, z_isb5, z_addb, z_subb, z_nsb, z_rvt, z_rvl, z_stp, z_srl, z_srt, z_sti, z_stb, z_shl, z_ixt, z_ixl, z_ixr, z_slt, z_sll, z_lent, z_lenl, z_lenr, z_suml, z_sumt, z_maxl, z_maxt, z_minl, z_bi, z_bb, z_tul, z_tut, z_tur, z_lil, z_lit, z_all, z_max2, z_min2, z_kt, z_kl, z_cot, z_col, z_da, z_ds0, z_ds1, z_sql, z_sqt, z_isLr, z_fn, z_fb, z_fi, z_fs, sn_0, sn_1, sn_2, sn_3, sn_4, sn_5, sn_6, sn_7, sn_8, sn_9, sn_10, sn_11, sn_12, sn_13, sn_14, sn_15, sn_16, sn_17, sn_18, sn_19, hr]
    refine for_post (fun i env s => Pc ns (300 * i) (.nx env) s) _ 0 ⟨_, _, _, _, _, _, _, _, _, _, _, _, _, 0, [], rfl, rfl, by omega⟩ ?_ ?_
    · rintro i x env s hx ⟨s2, s3, s4, s5, s6, s7, s8, s9, s10, s11, s12, s13, s14, m, jk, hfl, rfl, hm⟩
      cases hfl
      have hi : i < 8 := (List.getElem?_eq_some_iff.mp hx).1
      refine ⟨_, rfl, (body_ok (by omega)).imp ?_⟩
      rintro _ _ ⟨t2, t3, t4, t5, t6, t7, t8, t9, t10, t11, t12, t13, t14, m2, jk2, rfl, rfl, hm2⟩
      exact ⟨_, _, _, _, _, _, _, _, _, _, _, _, _, m2, jk2, rfl, rfl, by omega⟩
    · rintro env s ⟨s2, s3, s4, s5, s6, s7, s8, s9, s10, s11, s12, s13, s14, m, jk, hfl, rfl, hm⟩
      cases hfl
      rw [fk_nx]
      simp only [q_law28, post_cons]
      simp [ex, xB_eq, ev, evs, evb, evt, evo, evi, evf, tst, K.val, Bz.isi, isOwn, post_bind, post_ok, post_lift, post_ite, post_noexc, post_nil, bind_ok, fk_nx, fk_rt, fr_nx, fr_rt, lift_some, sto, stoT, wipeS, z_add, z_adds, z_addt, z_addl, z_sub, z_mul, z_mult, z_mull, z_fdiv, z_mod, z_eq, z_ne, z_eqi, z_eqb, z_eqs, z_eqn, z_lt, z_le, z_gt, z_ge, z_is0, z_is1, z_is2, z_is3, z_is4, z_is5, z_in0, z_in1, z_in2, z_in3, z_in4, z_in5, z_inl, z_int, z_nil, z_nit, z_t0, z_t1, z_t2, z_t3, z_t4, z_t5, z_tr, z_isb, z_isb1, z_isb2, z_isb3, z_isb4, z_isb5, z_addb, z_subb, z_nsb, z_rvt, z_rvl, z_stp, z_srl, z_srt, z_sti, z_stb, z_shl, z_ixt, z_ixl, z_ixr, z_slt, z_sll, z_lent, z_lenl, z_lenr, z_suml, z_sumt, z_maxl, z_maxt, z_minl, z_bi, z_bb, z_tul, z_tut, z_tur, z_lil, z_lit, z_all, z_max2, z_min2, z_kt, z_kl, z_cot, z_col, z_da, z_ds0, z_ds1, z_sql, z_sqt, z_isLr, z_fn, z_fb, z_fi, z_fs, sn_0, sn_1, sn_2, sn_3, sn_4, sn_5, sn_6, sn_7, sn_8, sn_9, sn_10, sn_11, sn_12, sn_13, sn_14, sn_15, sn_16, sn_17, sn_18, sn_19]
  obtain ⟨v, s, e, rfl⟩ := key
  exact ⟨s, (rn_eq ..).trans e⟩
end Bz
namespace Bz
open PySem PySem.Spec PyProof.Rows L2
theorem scb_top_of : FnScope ["rules"] ["rules"] (defScope (topS 1)) := ⟨rfl, rfl, rfl, by decide +kernel, rfl, by decide +kernel, by decide +kernel⟩
theorem pyb_top_of : Ss.py b_top_of = defBody (topS 1) := by rfl
theorem wfb_top_of : wfSs nms ["rules"] (defScope (topS 1)) b_top_of = true := by decide +kernel
theorem scb_colours_of : FnScope ["rules", "low"] ["rules", "low"] (defScope (topS 2)) := ⟨rfl, rfl, rfl, by decide +kernel, rfl, by decide +kernel, by decide +kernel⟩
theorem pyb_colours_of : Ss.py b_colours_of = defBody (topS 2) := by rfl
theorem wfb_colours_of : wfSs nms ["rules", "low"] (defScope (topS 2)) b_colours_of = true := by decide +kernel
theorem scb_full_worth : FnScope ["rules"] ["rules"] (defScope (topS 3)) := ⟨rfl, rfl, rfl, by decide +kernel, rfl, by decide +kernel, by decide +kernel⟩
theorem pyb_full_worth : Ss.py b_full_worth = defBody (topS 3) := by rfl
theorem wfb_full_worth : wfSs nms ["rules"] (defScope (topS 3)) b_full_worth = true := by decide +kernel
theorem scb_sum_of : FnScope ["balls"] ["balls"] (defScope (topS 4)) := ⟨rfl, rfl, rfl, by decide +kernel, rfl, by decide +kernel, by decide +kernel⟩
theorem pyb_sum_of : Ss.py b_sum_of = defBody (topS 4) := by rfl
theorem wfb_sum_of : wfSs nms ["balls"] (defScope (topS 4)) b_sum_of = true := by decide +kernel
theorem scb_sorted_out : FnScope ["balls", "found", "ball"] ["balls"] (defScope (topS 5)) := ⟨rfl, rfl, rfl, by decide +kernel, rfl, by decide +kernel, by decide +kernel⟩
theorem pyb_sorted_out : Ss.py b_sorted_out = defBody (topS 5) := by rfl
theorem wfb_sorted_out : wfSs nms ["balls", "found", "ball"] (defScope (topS 5)) b_sorted_out = true := by decide +kernel
theorem scb_is_whole : FnScope ["thing"] ["thing"] (defScope (topS 10)) := ⟨rfl, rfl, rfl, by decide +kernel, rfl, by decide +kernel, by decide +kernel⟩
theorem pyb_is_whole : Ss.py b_is_whole = defBody (topS 10) := by rfl
theorem wfb_is_whole : wfSs nms ["thing"] (defScope (topS 10)) b_is_whole = true := by decide +kernel
theorem scb_is_stroke : FnScope ["rules", "thing", "first", "pots", "last", "ball"] ["rules", "thing"] (defScope (topS 11)) := ⟨rfl, rfl, rfl, by decide +kernel, rfl, by decide +kernel, by decide +kernel⟩
theorem pyb_is_stroke : Ss.py b_is_stroke = defBody (topS 11) := by rfl
theorem wfb_is_stroke : wfSs nms ["rules", "thing", "first", "pots", "last", "ball"] (defScope (topS 11)) b_is_stroke = true := by decide +kernel
theorem scb_is_there : FnScope ["rules", "place", "stroke", "up", "on", "reds", "low", "points", "free", "balls", ".0", "ball"] ["rules", "place", "stroke"] (defScope (topS 12)) := ⟨rfl, rfl, rfl, by decide +kernel, rfl, by decide +kernel, by decide +kernel⟩
theorem pyb_is_there : Ss.py b_is_there = defBody (topS 12) := by rfl
theorem wfb_is_there : wfSs nms ["rules", "place", "stroke", "up", "on", "reds", "low", "points", "free", "balls", ".0", "ball"] (defScope (topS 12)) b_is_there = true := by decide +kernel
theorem scb_may_fall : FnScope ["place", "first", "up", "on", "reds", "low", "points", "free"] ["place", "first"] (defScope (topS 13)) := ⟨rfl, rfl, rfl, by decide +kernel, rfl, by decide +kernel, by decide +kernel⟩
theorem pyb_may_fall : Ss.py b_may_fall = defBody (topS 13) := by rfl
theorem wfb_may_fall : wfSs nms ["place", "first", "up", "on", "reds", "low", "points", "free"] (defScope (topS 13)) b_may_fall = true := by decide +kernel
theorem scb_is_fair : FnScope ["place", "stroke", "balls", ".0", "ball"] ["place", "stroke"] (defScope (topS 14)) := ⟨rfl, rfl, rfl, by decide +kernel, rfl, by decide +kernel, by decide +kernel⟩
theorem pyb_is_fair : Ss.py b_is_fair = defBody (topS 14) := by rfl
theorem wfb_is_fair : wfSs nms ["place", "stroke", "balls", ".0", "ball"] (defScope (topS 14)) b_is_fair = true := by decide +kernel
theorem scb_points_of : FnScope ["place", "stroke"] ["place", "stroke"] (defScope (topS 15)) := ⟨rfl, rfl, rfl, by decide +kernel, rfl, by decide +kernel, by decide +kernel⟩
theorem pyb_points_of : Ss.py b_points_of = defBody (topS 15) := by rfl
theorem wfb_points_of : wfSs nms ["place", "stroke"] (defScope (topS 15)) b_points_of = true := by decide +kernel
theorem scb_foul_of : FnScope ["place", "stroke"] ["place", "stroke"] (defScope (topS 16)) := ⟨rfl, rfl, rfl, by decide +kernel, rfl, by decide +kernel, by decide +kernel⟩
theorem pyb_foul_of : Ss.py b_foul_of = defBody (topS 16) := by rfl
theorem wfb_foul_of : wfSs nms ["place", "stroke"] (defScope (topS 16)) b_foul_of = true := by decide +kernel
theorem scb_is_clear : FnScope ["rules", "run"] ["rules", "run"] (defScope (topS 18)) := ⟨rfl, rfl, rfl, by decide +kernel, rfl, by decide +kernel, by decide +kernel⟩
theorem pyb_is_clear : Ss.py b_is_clear = defBody (topS 18) := by rfl
theorem wfb_is_clear : wfSs nms ["rules", "run"] (defScope (topS 18)) b_is_clear = true := by decide +kernel
theorem scb_rows_of : FnScope ["run", ".0", "ball"] ["run"] (defScope (topS 19)) := ⟨rfl, rfl, rfl, by decide +kernel, rfl, by decide +kernel, by decide +kernel⟩
theorem pyb_rows_of : Ss.py b_rows_of = defBody (topS 19) := by rfl
theorem wfb_rows_of : wfSs nms ["run", ".0", "ball"] (defScope (topS 19)) b_rows_of = true := by decide +kernel
theorem scb_first_place : FnScope ["rules", "player"] ["rules", "player"] (defScope (topS 21)) := ⟨rfl, rfl, rfl, by decide +kernel, rfl, by decide +kernel, by decide +kernel⟩
theorem pyb_first_place : Ss.py b_first_place = defBody (topS 21) := by rfl
theorem wfb_first_place : wfSs nms ["rules", "player"] (defScope (topS 21)) b_first_place = true := by decide +kernel
theorem scb_is_deed : FnScope ["rules", "thing"] ["rules", "thing"] (defScope (topS 22)) := ⟨rfl, rfl, rfl, by decide +kernel, rfl, by decide +kernel, by decide +kernel⟩
theorem pyb_is_deed : Ss.py b_is_deed = defBody (topS 22) := by rfl
theorem wfb_is_deed : wfSs nms ["rules", "thing"] (defScope (topS 22)) b_is_deed = true := by decide +kernel
theorem scb_added : FnScope ["points", "player", "more"] ["points", "player", "more"] (defScope (topS 23)) := ⟨rfl, rfl, rfl, by decide +kernel, rfl, by decide +kernel, by decide +kernel⟩
theorem pyb_added : Ss.py b_added = defBody (topS 23) := by rfl
theorem wfb_added : wfSs nms ["points", "player", "more"] (defScope (topS 23)) b_added = true := by decide +kernel
theorem scb_struck : FnScope ["rules", "place", "stroke", "up", "on", "reds", "low", "points", "free", "top", "gain", "loss", "ends", "start"] ["rules", "place", "stroke"] (defScope (topS 24)) := ⟨rfl, rfl, rfl, by decide +kernel, rfl, by decide +kernel, by decide +kernel⟩
theorem pyb_struck : Ss.py b_struck = defBody (topS 24) := by rfl
theorem wfb_struck : wfSs nms ["rules", "place", "stroke", "up", "on", "reds", "low", "points", "free", "top", "gain", "loss", "ends", "start"] (defScope (topS 24)) b_struck = true := by decide +kernel
theorem scb_behind : FnScope ["rules", "place", "deed", "up", "on", "reds", "low", "points", "free"] ["rules", "place", "deed"] (defScope (topS 25)) := ⟨rfl, rfl, rfl, by decide +kernel, rfl, by decide +kernel, by decide +kernel⟩
theorem pyb_behind : Ss.py b_behind = defBody (topS 25) := by rfl
theorem wfb_behind : wfSs nms ["rules", "place", "deed", "up", "on", "reds", "low", "points", "free"] (defScope (topS 25)) b_behind = true := by decide +kernel
theorem scb_walked : FnScope ["rules", "frame", "state", "deed"] ["rules", "frame"] (defScope (topS 26)) := ⟨rfl, rfl, rfl, by decide +kernel, rfl, by decide +kernel, by decide +kernel⟩
theorem pyb_walked : Ss.py b_walked = defBody (topS 26) := by rfl
theorem wfb_walked : wfSs nms ["rules", "frame", "state", "deed"] (defScope (topS 26)) b_walked = true := by decide +kernel
theorem scb_frame_fault : FnScope ["rules", "frame", "state", "number", "deed"] ["rules", "frame"] (defScope (topS 27)) := ⟨rfl, rfl, rfl, by decide +kernel, rfl, by decide +kernel, by decide +kernel⟩
theorem pyb_frame_fault : Ss.py b_frame_fault = defBody (topS 27) := by rfl
theorem wfb_frame_fault : wfSs nms ["rules", "frame", "state", "number", "deed"] (defScope (topS 27)) b_frame_fault = true := by decide +kernel
theorem scb_is_frame : FnScope ["rules", "thing"] ["rules", "thing"] (defScope (topS 28)) := ⟨rfl, rfl, rfl, by decide +kernel, rfl, by decide +kernel, by decide +kernel⟩
theorem pyb_is_frame : Ss.py b_is_frame = defBody (topS 28) := by rfl
theorem wfb_is_frame : wfSs nms ["rules", "thing"] (defScope (topS 28)) b_is_frame = true := by decide +kernel
theorem scb_place_of : FnScope ["rules", "frame"] ["rules", "frame"] (defScope (topS 29)) := ⟨rfl, rfl, rfl, by decide +kernel, rfl, by decide +kernel, by decide +kernel⟩
theorem pyb_place_of : Ss.py b_place_of = defBody (topS 29) := by rfl
theorem wfb_place_of : wfSs nms ["rules", "frame"] (defScope (topS 29)) b_place_of = true := by decide +kernel
theorem scb_points_in : FnScope ["rules", "frame"] ["rules", "frame"] (defScope (topS 30)) := ⟨rfl, rfl, rfl, by decide +kernel, rfl, by decide +kernel, by decide +kernel⟩
theorem pyb_points_in : Ss.py b_points_in = defBody (topS 30) := by rfl
theorem wfb_points_in : wfSs nms ["rules", "frame"] (defScope (topS 30)) b_points_in = true := by decide +kernel
theorem scb_winner_of : FnScope ["rules", "frame"] ["rules", "frame"] (defScope (topS 31)) := ⟨rfl, rfl, rfl, by decide +kernel, rfl, by decide +kernel, by decide +kernel⟩
theorem pyb_winner_of : Ss.py b_winner_of = defBody (topS 31) := by rfl
theorem wfb_winner_of : wfSs nms ["rules", "frame"] (defScope (topS 31)) b_winner_of = true := by decide +kernel
theorem scb_rest_of : FnScope ["rules", "reds", "low"] ["rules", "reds", "low"] (defScope (topS 33)) := ⟨rfl, rfl, rfl, by decide +kernel, rfl, by decide +kernel, by decide +kernel⟩
theorem pyb_rest_of : Ss.py b_rest_of = defBody (topS 33) := by rfl
theorem wfb_rest_of : wfSs nms ["rules", "reds", "low"] (defScope (topS 33)) b_rest_of = true := by decide +kernel
theorem scb_still : FnScope ["rules", "place", "up", "on", "reds", "low", "points", "free", "rest"] ["rules", "place"] (defScope (topS 34)) := ⟨rfl, rfl, rfl, by decide +kernel, rfl, by decide +kernel, by decide +kernel⟩
theorem pyb_still : Ss.py b_still = defBody (topS 34) := by rfl
theorem wfb_still : wfSs nms ["rules", "place", "up", "on", "reds", "low", "points", "free", "rest"] (defScope (topS 34)) b_still = true := by decide +kernel
theorem scb_visits : FnScope ["rules", "frame", "found", "place", "is_fresh", "deed", "new", "gain", "player", "points", "many"] ["rules", "frame"] (defScope (topS 36)) := ⟨rfl, rfl, rfl, by decide +kernel, rfl, by decide +kernel, by decide +kernel⟩
theorem pyb_visits : Ss.py b_visits = defBody (topS 36) := by rfl
theorem wfb_visits : wfSs nms ["rules", "frame", "found", "place", "is_fresh", "deed", "new", "gain", "player", "points", "many"] (defScope (topS 36)) b_visits = true := by decide +kernel
theorem scb_best_breaks : FnScope ["rules", "frame", "rows", ".0", "player", "who", "points", "many"] ["rules", "frame"] (defScope (topS 37)) := ⟨rfl, rfl, rfl, by decide +kernel, rfl, by decide +kernel, by decide +kernel⟩
theorem pyb_best_breaks : Ss.py b_best_breaks = defBody (topS 37) := by rfl
theorem wfb_best_breaks : wfSs nms ["rules", "frame", "rows", ".0", "player", "who", "points", "many"] (defScope (topS 37)) b_best_breaks = true := by decide +kernel
theorem scb_fouls : FnScope ["rules", "frame", "found", "place", "deed"] ["rules", "frame"] (defScope (topS 38)) := ⟨rfl, rfl, rfl, by decide +kernel, rfl, by decide +kernel, by decide +kernel⟩
theorem pyb_fouls : Ss.py b_fouls = defBody (topS 38) := by rfl
theorem wfb_fouls : wfSs nms ["rules", "frame", "found", "place", "deed"] (defScope (topS 38)) b_fouls = true := by decide +kernel
theorem scb_fallen : FnScope ["rules", "frame", "found", "place", "deed", "ball"] ["rules", "frame"] (defScope (topS 39)) := ⟨rfl, rfl, rfl, by decide +kernel, rfl, by decide +kernel, by decide +kernel⟩
theorem pyb_fallen : Ss.py b_fallen = defBody (topS 39) := by rfl
theorem wfb_fallen : wfSs nms ["rules", "frame", "found", "place", "deed", "ball"] (defScope (topS 39)) b_fallen = true := by decide +kernel
theorem scb_law_same : FnScope ["got", "due", ".0", "one", "other"] ["got", "due"] (defScope (topS 41)) := ⟨rfl, rfl, rfl, by decide +kernel, rfl, by decide +kernel, by decide +kernel⟩
theorem pyb_law_same : Ss.py b_law_same = defBody (topS 41) := by rfl
theorem wfb_law_same : wfSs nms ["got", "due", ".0", "one", "other"] (defScope (topS 41)) b_law_same = true := by decide +kernel
theorem scb_law_draw : FnScope ["script", "town", "many", "k", "cell", "number", "more"] ["script", "town", "many"] (defScope (topS 42)) := ⟨rfl, rfl, rfl, by decide +kernel, rfl, by decide +kernel, by decide +kernel⟩
theorem pyb_law_draw : Ss.py b_law_draw = defBody (topS 42) := by rfl
theorem wfb_law_draw : wfSs nms ["script", "town", "many", "k", "cell", "number", "more"] (defScope (topS 42)) b_law_draw = true := by decide +kernel
theorem scb_law_pick : FnScope ["script", "town", "some"] ["script", "town", "some"] (defScope (topS 43)) := ⟨rfl, rfl, rfl, by decide +kernel, rfl, by decide +kernel, by decide +kernel⟩
theorem pyb_law_pick : Ss.py b_law_pick = defBody (topS 43) := by rfl
theorem wfb_law_pick : wfSs nms ["script", "town", "some"] (defScope (topS 43)) b_law_pick = true := by decide +kernel
theorem scb_law_drawn_rules : FnScope ["script", "town"] ["script", "town"] (defScope (topS 44)) := ⟨rfl, rfl, rfl, by decide +kernel, rfl, by decide +kernel, by decide +kernel⟩
theorem pyb_law_drawn_rules : Ss.py b_law_drawn_rules = defBody (topS 44) := by rfl
theorem wfb_law_drawn_rules : wfSs nms ["script", "town"] (defScope (topS 44)) b_law_drawn_rules = true := by decide +kernel
theorem scb_law_drawn_run : FnScope ["script", "town", "rules", "whole", "k"] ["script", "town", "rules"] (defScope (topS 45)) := ⟨rfl, rfl, rfl, by decide +kernel, rfl, by decide +kernel, by decide +kernel⟩
theorem pyb_law_drawn_run : Ss.py b_law_drawn_run = defBody (topS 45) := by rfl
theorem wfb_law_drawn_run : wfSs nms ["script", "town", "rules", "whole", "k"] (defScope (topS 45)) b_law_drawn_run = true := by decide +kernel
theorem scb_law : FnScope ["script", "town", "k", "rules", "run", "player", "deeds", "frame", "total", "due", "told", "place", "least", "miss", "later", ".0", "stroke", "ball", "many"] ["script"] (defScope (topS 46)) := ⟨rfl, rfl, rfl, by decide +kernel, rfl, by decide +kernel, by decide +kernel⟩
theorem pyb_law : Ss.py b_law = defBody (topS 46) := by rfl
theorem wfb_law : wfSs nms ["script", "town", "k", "rules", "run", "player", "deeds", "frame", "total", "due", "told", "place", "least", "miss", "later", ".0", "stroke", "ball", "many"] (defScope (topS 46)) b_law = true := by decide +kernel
theorem all_mk {l : PySem.W.OpenLaw} {w : World} {K : PySem.W.Frag} {h : Heap} {mg : Str → Option Value} {fa : Addr} (X : K.In h) (G : h.Ns mainGlobals mg) (hfa : mg "law" = some (.ref fa))
    {f0 : Addr} {od0 an0 : Option Addr} {sl0 : Array (Option Value)} {oc0 kV0 dc0 pm0 cd0 ct0 : Value} (a0 : PySem.W.nsIn K mainGlobals "top_of" = some (some (.ref f0))) (l0 : K.lookup f0 = some ⟨oc0, od0, .func (PySem.W.fnOf "top_of" "top_of" (defArgs (topS 1)) (defBody (topS 1)) (defScope (topS 1)) .none kV0 dc0 pm0 an0 cd0 ct0), sl0⟩) (c0 : PySem.W.codeIn K cd0 "top_of" = true) (k0 : PySem.W.keepIn K (.ref f0) = true)
    {f1 : Addr} {od1 an1 : Option Addr} {sl1 : Array (Option Value)} {oc1 kV1 dc1 pm1 cd1 ct1 : Value} (a1 : PySem.W.nsIn K mainGlobals "colours_of" = some (some (.ref f1))) (l1 : K.lookup f1 = some ⟨oc1, od1, .func (PySem.W.fnOf "colours_of" "colours_of" (defArgs (topS 2)) (defBody (topS 2)) (defScope (topS 2)) .none kV1 dc1 pm1 an1 cd1 ct1), sl1⟩) (c1 : PySem.W.codeIn K cd1 "colours_of" = true) (k1 : PySem.W.keepIn K (.ref f1) = true)
    {f2 : Addr} {od2 an2 : Option Addr} {sl2 : Array (Option Value)} {oc2 kV2 dc2 pm2 cd2 ct2 : Value} (a2 : PySem.W.nsIn K mainGlobals "full_worth" = some (some (.ref f2))) (l2 : K.lookup f2 = some ⟨oc2, od2, .func (PySem.W.fnOf "full_worth" "full_worth" (defArgs (topS 3)) (defBody (topS 3)) (defScope (topS 3)) .none kV2 dc2 pm2 an2 cd2 ct2), sl2⟩) (c2 : PySem.W.codeIn K cd2 "full_worth" = true) (k2 : PySem.W.keepIn K (.ref f2) = true)
    {f3 : Addr} {od3 an3 : Option Addr} {sl3 : Array (Option Value)} {oc3 kV3 dc3 pm3 cd3 ct3 : Value} (a3 : PySem.W.nsIn K mainGlobals "sum_of" = some (some (.ref f3))) (l3 : K.lookup f3 = some ⟨oc3, od3, .func (PySem.W.fnOf "sum_of" "sum_of" (defArgs (topS 4)) (defBody (topS 4)) (defScope (topS 4)) .none kV3 dc3 pm3 an3 cd3 ct3), sl3⟩) (c3 : PySem.W.codeIn K cd3 "sum_of" = true) (k3 : PySem.W.keepIn K (.ref f3) = true)
    {f4 : Addr} {od4 an4 : Option Addr} {sl4 : Array (Option Value)} {oc4 kV4 dc4 pm4 cd4 ct4 : Value} (a4 : PySem.W.nsIn K mainGlobals "sorted_out" = some (some (.ref f4))) (l4 : K.lookup f4 = some ⟨oc4, od4, .func (PySem.W.fnOf "sorted_out" "sorted_out" (defArgs (topS 5)) (defBody (topS 5)) (defScope (topS 5)) .none kV4 dc4 pm4 an4 cd4 ct4), sl4⟩) (c4 : PySem.W.codeIn K cd4 "sorted_out" = true) (k4 : PySem.W.keepIn K (.ref f4) = true)
    {f5 : Addr} {od5 an5 : Option Addr} {sl5 : Array (Option Value)} {oc5 kV5 dc5 pm5 cd5 ct5 : Value} (a5 : PySem.W.nsIn K mainGlobals "is_whole" = some (some (.ref f5))) (l5 : K.lookup f5 = some ⟨oc5, od5, .func (PySem.W.fnOf "is_whole" "is_whole" (defArgs (topS 10)) (defBody (topS 10)) (defScope (topS 10)) .none kV5 dc5 pm5 an5 cd5 ct5), sl5⟩) (c5 : PySem.W.codeIn K cd5 "is_whole" = true) (k5 : PySem.W.keepIn K (.ref f5) = true)
    {f6 : Addr} {od6 an6 : Option Addr} {sl6 : Array (Option Value)} {oc6 kV6 dc6 pm6 cd6 ct6 : Value} (a6 : PySem.W.nsIn K mainGlobals "is_stroke" = some (some (.ref f6))) (l6 : K.lookup f6 = some ⟨oc6, od6, .func (PySem.W.fnOf "is_stroke" "is_stroke" (defArgs (topS 11)) (defBody (topS 11)) (defScope (topS 11)) .none kV6 dc6 pm6 an6 cd6 ct6), sl6⟩) (c6 : PySem.W.codeIn K cd6 "is_stroke" = true) (k6 : PySem.W.keepIn K (.ref f6) = true)
    {f7 : Addr} {od7 an7 : Option Addr} {sl7 : Array (Option Value)} {oc7 kV7 dc7 pm7 cd7 ct7 : Value} (a7 : PySem.W.nsIn K mainGlobals "is_there" = some (some (.ref f7))) (l7 : K.lookup f7 = some ⟨oc7, od7, .func (PySem.W.fnOf "is_there" "is_there" (defArgs (topS 12)) (defBody (topS 12)) (defScope (topS 12)) .none kV7 dc7 pm7 an7 cd7 ct7), sl7⟩) (c7 : PySem.W.codeIn K cd7 "is_there" = true) (k7 : PySem.W.keepIn K (.ref f7) = true)
    {f8 : Addr} {od8 an8 : Option Addr} {sl8 : Array (Option Value)} {oc8 kV8 dc8 pm8 cd8 ct8 : Value} (a8 : PySem.W.nsIn K mainGlobals "may_fall" = some (some (.ref f8))) (l8 : K.lookup f8 = some ⟨oc8, od8, .func (PySem.W.fnOf "may_fall" "may_fall" (defArgs (topS 13)) (defBody (topS 13)) (defScope (topS 13)) .none kV8 dc8 pm8 an8 cd8 ct8), sl8⟩) (c8 : PySem.W.codeIn K cd8 "may_fall" = true) (k8 : PySem.W.keepIn K (.ref f8) = true)
    {f9 : Addr} {od9 an9 : Option Addr} {sl9 : Array (Option Value)} {oc9 kV9 dc9 pm9 cd9 ct9 : Value} (a9 : PySem.W.nsIn K mainGlobals "is_fair" = some (some (.ref f9))) (l9 : K.lookup f9 = some ⟨oc9, od9, .func (PySem.W.fnOf "is_fair" "is_fair" (defArgs (topS 14)) (defBody (topS 14)) (defScope (topS 14)) .none kV9 dc9 pm9 an9 cd9 ct9), sl9⟩) (c9 : PySem.W.codeIn K cd9 "is_fair" = true) (k9 : PySem.W.keepIn K (.ref f9) = true)
    {f10 : Addr} {od10 an10 : Option Addr} {sl10 : Array (Option Value)} {oc10 kV10 dc10 pm10 cd10 ct10 : Value} (a10 : PySem.W.nsIn K mainGlobals "points_of" = some (some (.ref f10))) (l10 : K.lookup f10 = some ⟨oc10, od10, .func (PySem.W.fnOf "points_of" "points_of" (defArgs (topS 15)) (defBody (topS 15)) (defScope (topS 15)) .none kV10 dc10 pm10 an10 cd10 ct10), sl10⟩) (c10 : PySem.W.codeIn K cd10 "points_of" = true) (k10 : PySem.W.keepIn K (.ref f10) = true)
    {f11 : Addr} {od11 an11 : Option Addr} {sl11 : Array (Option Value)} {oc11 kV11 dc11 pm11 cd11 ct11 : Value} (a11 : PySem.W.nsIn K mainGlobals "foul_of" = some (some (.ref f11))) (l11 : K.lookup f11 = some ⟨oc11, od11, .func (PySem.W.fnOf "foul_of" "foul_of" (defArgs (topS 16)) (defBody (topS 16)) (defScope (topS 16)) .none kV11 dc11 pm11 an11 cd11 ct11), sl11⟩) (c11 : PySem.W.codeIn K cd11 "foul_of" = true) (k11 : PySem.W.keepIn K (.ref f11) = true)
    {f12 : Addr} {od12 an12 : Option Addr} {sl12 : Array (Option Value)} {oc12 kV12 dc12 pm12 cd12 ct12 : Value} (a12 : PySem.W.nsIn K mainGlobals "is_clear" = some (some (.ref f12))) (l12 : K.lookup f12 = some ⟨oc12, od12, .func (PySem.W.fnOf "is_clear" "is_clear" (defArgs (topS 18)) (defBody (topS 18)) (defScope (topS 18)) .none kV12 dc12 pm12 an12 cd12 ct12), sl12⟩) (c12 : PySem.W.codeIn K cd12 "is_clear" = true) (k12 : PySem.W.keepIn K (.ref f12) = true)
    {f13 : Addr} {od13 an13 : Option Addr} {sl13 : Array (Option Value)} {oc13 kV13 dc13 pm13 cd13 ct13 : Value} (a13 : PySem.W.nsIn K mainGlobals "rows_of" = some (some (.ref f13))) (l13 : K.lookup f13 = some ⟨oc13, od13, .func (PySem.W.fnOf "rows_of" "rows_of" (defArgs (topS 19)) (defBody (topS 19)) (defScope (topS 19)) .none kV13 dc13 pm13 an13 cd13 ct13), sl13⟩) (c13 : PySem.W.codeIn K cd13 "rows_of" = true) (k13 : PySem.W.keepIn K (.ref f13) = true)
    {f14 : Addr} {od14 an14 : Option Addr} {sl14 : Array (Option Value)} {oc14 kV14 dc14 pm14 cd14 ct14 : Value} (a14 : PySem.W.nsIn K mainGlobals "first_place" = some (some (.ref f14))) (l14 : K.lookup f14 = some ⟨oc14, od14, .func (PySem.W.fnOf "first_place" "first_place" (defArgs (topS 21)) (defBody (topS 21)) (defScope (topS 21)) .none kV14 dc14 pm14 an14 cd14 ct14), sl14⟩) (c14 : PySem.W.codeIn K cd14 "first_place" = true) (k14 : PySem.W.keepIn K (.ref f14) = true)
    {f15 : Addr} {od15 an15 : Option Addr} {sl15 : Array (Option Value)} {oc15 kV15 dc15 pm15 cd15 ct15 : Value} (a15 : PySem.W.nsIn K mainGlobals "is_deed" = some (some (.ref f15))) (l15 : K.lookup f15 = some ⟨oc15, od15, .func (PySem.W.fnOf "is_deed" "is_deed" (defArgs (topS 22)) (defBody (topS 22)) (defScope (topS 22)) .none kV15 dc15 pm15 an15 cd15 ct15), sl15⟩) (c15 : PySem.W.codeIn K cd15 "is_deed" = true) (k15 : PySem.W.keepIn K (.ref f15) = true)
    {f16 : Addr} {od16 an16 : Option Addr} {sl16 : Array (Option Value)} {oc16 kV16 dc16 pm16 cd16 ct16 : Value} (a16 : PySem.W.nsIn K mainGlobals "added" = some (some (.ref f16))) (l16 : K.lookup f16 = some ⟨oc16, od16, .func (PySem.W.fnOf "added" "added" (defArgs (topS 23)) (defBody (topS 23)) (defScope (topS 23)) .none kV16 dc16 pm16 an16 cd16 ct16), sl16⟩) (c16 : PySem.W.codeIn K cd16 "added" = true) (k16 : PySem.W.keepIn K (.ref f16) = true)
    {f17 : Addr} {od17 an17 : Option Addr} {sl17 : Array (Option Value)} {oc17 kV17 dc17 pm17 cd17 ct17 : Value} (a17 : PySem.W.nsIn K mainGlobals "struck" = some (some (.ref f17))) (l17 : K.lookup f17 = some ⟨oc17, od17, .func (PySem.W.fnOf "struck" "struck" (defArgs (topS 24)) (defBody (topS 24)) (defScope (topS 24)) .none kV17 dc17 pm17 an17 cd17 ct17), sl17⟩) (c17 : PySem.W.codeIn K cd17 "struck" = true) (k17 : PySem.W.keepIn K (.ref f17) = true)
    {f18 : Addr} {od18 an18 : Option Addr} {sl18 : Array (Option Value)} {oc18 kV18 dc18 pm18 cd18 ct18 : Value} (a18 : PySem.W.nsIn K mainGlobals "behind" = some (some (.ref f18))) (l18 : K.lookup f18 = some ⟨oc18, od18, .func (PySem.W.fnOf "behind" "behind" (defArgs (topS 25)) (defBody (topS 25)) (defScope (topS 25)) .none kV18 dc18 pm18 an18 cd18 ct18), sl18⟩) (c18 : PySem.W.codeIn K cd18 "behind" = true) (k18 : PySem.W.keepIn K (.ref f18) = true)
    {f19 : Addr} {od19 an19 : Option Addr} {sl19 : Array (Option Value)} {oc19 kV19 dc19 pm19 cd19 ct19 : Value} (a19 : PySem.W.nsIn K mainGlobals "walked" = some (some (.ref f19))) (l19 : K.lookup f19 = some ⟨oc19, od19, .func (PySem.W.fnOf "walked" "walked" (defArgs (topS 26)) (defBody (topS 26)) (defScope (topS 26)) .none kV19 dc19 pm19 an19 cd19 ct19), sl19⟩) (c19 : PySem.W.codeIn K cd19 "walked" = true) (k19 : PySem.W.keepIn K (.ref f19) = true)
    {f20 : Addr} {od20 an20 : Option Addr} {sl20 : Array (Option Value)} {oc20 kV20 dc20 pm20 cd20 ct20 : Value} (a20 : PySem.W.nsIn K mainGlobals "frame_fault" = some (some (.ref f20))) (l20 : K.lookup f20 = some ⟨oc20, od20, .func (PySem.W.fnOf "frame_fault" "frame_fault" (defArgs (topS 27)) (defBody (topS 27)) (defScope (topS 27)) .none kV20 dc20 pm20 an20 cd20 ct20), sl20⟩) (c20 : PySem.W.codeIn K cd20 "frame_fault" = true) (k20 : PySem.W.keepIn K (.ref f20) = true)
    {f21 : Addr} {od21 an21 : Option Addr} {sl21 : Array (Option Value)} {oc21 kV21 dc21 pm21 cd21 ct21 : Value} (a21 : PySem.W.nsIn K mainGlobals "is_frame" = some (some (.ref f21))) (l21 : K.lookup f21 = some ⟨oc21, od21, .func (PySem.W.fnOf "is_frame" "is_frame" (defArgs (topS 28)) (defBody (topS 28)) (defScope (topS 28)) .none kV21 dc21 pm21 an21 cd21 ct21), sl21⟩) (c21 : PySem.W.codeIn K cd21 "is_frame" = true) (k21 : PySem.W.keepIn K (.ref f21) = true)
    {f22 : Addr} {od22 an22 : Option Addr} {sl22 : Array (Option Value)} {oc22 kV22 dc22 pm22 cd22 ct22 : Value} (a22 : PySem.W.nsIn K mainGlobals "place_of" = some (some (.ref f22))) (l22 : K.lookup f22 = some ⟨oc22, od22, .func (PySem.W.fnOf "place_of" "place_of" (defArgs (topS 29)) (defBody (topS 29)) (defScope (topS 29)) .none kV22 dc22 pm22 an22 cd22 ct22), sl22⟩) (c22 : PySem.W.codeIn K cd22 "place_of" = true) (k22 : PySem.W.keepIn K (.ref f22) = true)
    {f23 : Addr} {od23 an23 : Option Addr} {sl23 : Array (Option Value)} {oc23 kV23 dc23 pm23 cd23 ct23 : Value} (a23 : PySem.W.nsIn K mainGlobals "points_in" = some (some (.ref f23))) (l23 : K.lookup f23 = some ⟨oc23, od23, .func (PySem.W.fnOf "points_in" "points_in" (defArgs (topS 30)) (defBody (topS 30)) (defScope (topS 30)) .none kV23 dc23 pm23 an23 cd23 ct23), sl23⟩) (c23 : PySem.W.codeIn K cd23 "points_in" = true) (k23 : PySem.W.keepIn K (.ref f23) = true)
    {f24 : Addr} {od24 an24 : Option Addr} {sl24 : Array (Option Value)} {oc24 kV24 dc24 pm24 cd24 ct24 : Value} (a24 : PySem.W.nsIn K mainGlobals "winner_of" = some (some (.ref f24))) (l24 : K.lookup f24 = some ⟨oc24, od24, .func (PySem.W.fnOf "winner_of" "winner_of" (defArgs (topS 31)) (defBody (topS 31)) (defScope (topS 31)) .none kV24 dc24 pm24 an24 cd24 ct24), sl24⟩) (c24 : PySem.W.codeIn K cd24 "winner_of" = true) (k24 : PySem.W.keepIn K (.ref f24) = true)
    {f25 : Addr} {od25 an25 : Option Addr} {sl25 : Array (Option Value)} {oc25 kV25 dc25 pm25 cd25 ct25 : Value} (a25 : PySem.W.nsIn K mainGlobals "rest_of" = some (some (.ref f25))) (l25 : K.lookup f25 = some ⟨oc25, od25, .func (PySem.W.fnOf "rest_of" "rest_of" (defArgs (topS 33)) (defBody (topS 33)) (defScope (topS 33)) .none kV25 dc25 pm25 an25 cd25 ct25), sl25⟩) (c25 : PySem.W.codeIn K cd25 "rest_of" = true) (k25 : PySem.W.keepIn K (.ref f25) = true)
    {f26 : Addr} {od26 an26 : Option Addr} {sl26 : Array (Option Value)} {oc26 kV26 dc26 pm26 cd26 ct26 : Value} (a26 : PySem.W.nsIn K mainGlobals "still" = some (some (.ref f26))) (l26 : K.lookup f26 = some ⟨oc26, od26, .func (PySem.W.fnOf "still" "still" (defArgs (topS 34)) (defBody (topS 34)) (defScope (topS 34)) .none kV26 dc26 pm26 an26 cd26 ct26), sl26⟩) (c26 : PySem.W.codeIn K cd26 "still" = true) (k26 : PySem.W.keepIn K (.ref f26) = true)
    {f27 : Addr} {od27 an27 : Option Addr} {sl27 : Array (Option Value)} {oc27 kV27 dc27 pm27 cd27 ct27 : Value} (a27 : PySem.W.nsIn K mainGlobals "visits" = some (some (.ref f27))) (l27 : K.lookup f27 = some ⟨oc27, od27, .func (PySem.W.fnOf "visits" "visits" (defArgs (topS 36)) (defBody (topS 36)) (defScope (topS 36)) .none kV27 dc27 pm27 an27 cd27 ct27), sl27⟩) (c27 : PySem.W.codeIn K cd27 "visits" = true) (k27 : PySem.W.keepIn K (.ref f27) = true)
    {f28 : Addr} {od28 an28 : Option Addr} {sl28 : Array (Option Value)} {oc28 kV28 dc28 pm28 cd28 ct28 : Value} (a28 : PySem.W.nsIn K mainGlobals "best_breaks" = some (some (.ref f28))) (l28 : K.lookup f28 = some ⟨oc28, od28, .func (PySem.W.fnOf "best_breaks" "best_breaks" (defArgs (topS 37)) (defBody (topS 37)) (defScope (topS 37)) .none kV28 dc28 pm28 an28 cd28 ct28), sl28⟩) (c28 : PySem.W.codeIn K cd28 "best_breaks" = true) (k28 : PySem.W.keepIn K (.ref f28) = true)
    {f29 : Addr} {od29 an29 : Option Addr} {sl29 : Array (Option Value)} {oc29 kV29 dc29 pm29 cd29 ct29 : Value} (a29 : PySem.W.nsIn K mainGlobals "fouls" = some (some (.ref f29))) (l29 : K.lookup f29 = some ⟨oc29, od29, .func (PySem.W.fnOf "fouls" "fouls" (defArgs (topS 38)) (defBody (topS 38)) (defScope (topS 38)) .none kV29 dc29 pm29 an29 cd29 ct29), sl29⟩) (c29 : PySem.W.codeIn K cd29 "fouls" = true) (k29 : PySem.W.keepIn K (.ref f29) = true)
    {f30 : Addr} {od30 an30 : Option Addr} {sl30 : Array (Option Value)} {oc30 kV30 dc30 pm30 cd30 ct30 : Value} (a30 : PySem.W.nsIn K mainGlobals "fallen" = some (some (.ref f30))) (l30 : K.lookup f30 = some ⟨oc30, od30, .func (PySem.W.fnOf "fallen" "fallen" (defArgs (topS 39)) (defBody (topS 39)) (defScope (topS 39)) .none kV30 dc30 pm30 an30 cd30 ct30), sl30⟩) (c30 : PySem.W.codeIn K cd30 "fallen" = true) (k30 : PySem.W.keepIn K (.ref f30) = true)
    {f31 : Addr} {od31 an31 : Option Addr} {sl31 : Array (Option Value)} {oc31 kV31 dc31 pm31 cd31 ct31 : Value} (a31 : PySem.W.nsIn K mainGlobals "_law_same" = some (some (.ref f31))) (l31 : K.lookup f31 = some ⟨oc31, od31, .func (PySem.W.fnOf "_law_same" "_law_same" (defArgs (topS 41)) (defBody (topS 41)) (defScope (topS 41)) .none kV31 dc31 pm31 an31 cd31 ct31), sl31⟩) (c31 : PySem.W.codeIn K cd31 "_law_same" = true) (k31 : PySem.W.keepIn K (.ref f31) = true)
    {f32 : Addr} {od32 an32 : Option Addr} {sl32 : Array (Option Value)} {oc32 kV32 dc32 pm32 cd32 ct32 : Value} (a32 : PySem.W.nsIn K mainGlobals "_law_draw" = some (some (.ref f32))) (l32 : K.lookup f32 = some ⟨oc32, od32, .func (PySem.W.fnOf "_law_draw" "_law_draw" (defArgs (topS 42)) (defBody (topS 42)) (defScope (topS 42)) .none kV32 dc32 pm32 an32 cd32 ct32), sl32⟩) (c32 : PySem.W.codeIn K cd32 "_law_draw" = true) (k32 : PySem.W.keepIn K (.ref f32) = true)
    {f33 : Addr} {od33 an33 : Option Addr} {sl33 : Array (Option Value)} {oc33 kV33 dc33 pm33 cd33 ct33 : Value} (a33 : PySem.W.nsIn K mainGlobals "_law_pick" = some (some (.ref f33))) (l33 : K.lookup f33 = some ⟨oc33, od33, .func (PySem.W.fnOf "_law_pick" "_law_pick" (defArgs (topS 43)) (defBody (topS 43)) (defScope (topS 43)) .none kV33 dc33 pm33 an33 cd33 ct33), sl33⟩) (c33 : PySem.W.codeIn K cd33 "_law_pick" = true) (k33 : PySem.W.keepIn K (.ref f33) = true)
    {f34 : Addr} {od34 an34 : Option Addr} {sl34 : Array (Option Value)} {oc34 kV34 dc34 pm34 cd34 ct34 : Value} (a34 : PySem.W.nsIn K mainGlobals "_law_drawn_rules" = some (some (.ref f34))) (l34 : K.lookup f34 = some ⟨oc34, od34, .func (PySem.W.fnOf "_law_drawn_rules" "_law_drawn_rules" (defArgs (topS 44)) (defBody (topS 44)) (defScope (topS 44)) .none kV34 dc34 pm34 an34 cd34 ct34), sl34⟩) (c34 : PySem.W.codeIn K cd34 "_law_drawn_rules" = true) (k34 : PySem.W.keepIn K (.ref f34) = true)
    {f35 : Addr} {od35 an35 : Option Addr} {sl35 : Array (Option Value)} {oc35 kV35 dc35 pm35 cd35 ct35 : Value} (a35 : PySem.W.nsIn K mainGlobals "_law_drawn_run" = some (some (.ref f35))) (l35 : K.lookup f35 = some ⟨oc35, od35, .func (PySem.W.fnOf "_law_drawn_run" "_law_drawn_run" (defArgs (topS 45)) (defBody (topS 45)) (defScope (topS 45)) .none kV35 dc35 pm35 an35 cd35 ct35), sl35⟩) (c35 : PySem.W.codeIn K cd35 "_law_drawn_run" = true) (k35 : PySem.W.keepIn K (.ref f35) = true)
    {f36 : Addr} {od36 an36 : Option Addr} {sl36 : Array (Option Value)} {oc36 kV36 dc36 pm36 cd36 ct36 : Value} (a36 : PySem.W.nsIn K mainGlobals "law" = some (some (.ref f36))) (l36 : K.lookup f36 = some ⟨oc36, od36, .func (PySem.W.fnOf "law" "law" (defArgs (topS 46)) (defBody (topS 46)) (defScope (topS 46)) .none kV36 dc36 pm36 an36 cd36 ct36), sl36⟩) (c36 : PySem.W.codeIn K cd36 "law" = true) (k36 : PySem.W.keepIn K (.ref f36) = true)
    (z0 : PySem.W.nsIn K mainGlobals "len" = some none)
    (z1 : PySem.W.nsIn K mainGlobals "sum" = some none)
    (z2 : PySem.W.nsIn K mainGlobals "max" = some none)
    (z3 : PySem.W.nsIn K mainGlobals "min" = some none)
    (z4 : PySem.W.nsIn K mainGlobals "int" = some none)
    (z5 : PySem.W.nsIn K mainGlobals "tuple" = some none)
    (z6 : PySem.W.nsIn K mainGlobals "list" = some none)
    (z7 : PySem.W.nsIn K mainGlobals "all" = some none)
    (z8 : PySem.W.nsIn K mainGlobals "isinstance" = some none)
    (z9 : PySem.W.nsIn K mainGlobals "range" = some none)
    (z10 : PySem.W.nsIn K mainGlobals "enumerate" = some none)
    (z11 : PySem.W.nsIn K mainGlobals "zip" = some none)
    (z12 : PySem.W.nsIn K mainGlobals "sorted" = some none)
    (z13 : PySem.W.nsIn K mainGlobals "set" = some none)
    (z14 : PySem.W.nsIn K mainGlobals "bool" = some none)
    (z15 : PySem.W.nsIn K mainGlobals "str" = some none)
    {e0 : Addr} (ea0 : PySem.W.nsIn K mainGlobals "NotNow" = some (some (.ref e0))) (ek0 : PySem.W.keepIn K (.ref e0) = true) (ex0 : PySem.W.excIn K e0 [.type "ValueError", .type "Exception", .type "BaseException", .type "object"] "ValueError.__new__" = true) (es0 : PySem.W.subIn K (.ref e0) (.type "BaseException") = some true) (et0 : PySem.W.typeIn K (.ref e0) = some (.type "type"))
    (em0_0 : PySem.W.exmOne K (.ref e0) (.ref e0) = some true)
    : ∃ fd : FuncData, (∀ (s : Shared) (v : Value), BindsTo s fd ⟨[v], []⟩ [("script", v)]) ∧ ∀ base : Heap, K.In base → base.Ns mainGlobals mg → FnOk l.prog w K mg base (L2.CX l.prog w) 24 fa fd ["script"] (spL (run Gm 24 0)) := by
  have D0 : DefF K mg nms ⟨1, 1, b_top_of⟩ "top_of" := def_mk ["rules"] ["rules"] (PySem.W.mg_of X G a0) l0 c0 k0 scb_top_of (fun _ _ _ _ _ _ us hl => match us, hl with | [_], _ => rfl) pyb_top_of wfb_top_of rfl rfl
  have D1 : DefF K mg nms ⟨2, 2, b_colours_of⟩ "colours_of" := def_mk ["rules", "low"] ["rules", "low"] (PySem.W.mg_of X G a1) l1 c1 k1 scb_colours_of (fun _ _ _ _ _ _ us hl => match us, hl with | [_, _], _ => rfl) pyb_colours_of wfb_colours_of rfl rfl
  have D2 : DefF K mg nms ⟨1, 1, b_full_worth⟩ "full_worth" := def_mk ["rules"] ["rules"] (PySem.W.mg_of X G a2) l2 c2 k2 scb_full_worth (fun _ _ _ _ _ _ us hl => match us, hl with | [_], _ => rfl) pyb_full_worth wfb_full_worth rfl rfl
  have D3 : DefF K mg nms ⟨1, 1, b_sum_of⟩ "sum_of" := def_mk ["balls"] ["balls"] (PySem.W.mg_of X G a3) l3 c3 k3 scb_sum_of (fun _ _ _ _ _ _ us hl => match us, hl with | [_], _ => rfl) pyb_sum_of wfb_sum_of rfl rfl
  have D4 : DefF K mg nms ⟨3, 1, b_sorted_out⟩ "sorted_out" := def_mk ["balls", "found", "ball"] ["balls"] (PySem.W.mg_of X G a4) l4 c4 k4 scb_sorted_out (fun _ _ _ _ _ _ us hl => match us, hl with | [_], _ => rfl) pyb_sorted_out wfb_sorted_out rfl rfl
  have D5 : DefF K mg nms ⟨1, 1, b_is_whole⟩ "is_whole" := def_mk ["thing"] ["thing"] (PySem.W.mg_of X G a5) l5 c5 k5 scb_is_whole (fun _ _ _ _ _ _ us hl => match us, hl with | [_], _ => rfl) pyb_is_whole wfb_is_whole rfl rfl
  have D6 : DefF K mg nms ⟨6, 2, b_is_stroke⟩ "is_stroke" := def_mk ["rules", "thing", "first", "pots", "last", "ball"] ["rules", "thing"] (PySem.W.mg_of X G a6) l6 c6 k6 scb_is_stroke (fun _ _ _ _ _ _ us hl => match us, hl with | [_, _], _ => rfl) pyb_is_stroke wfb_is_stroke rfl rfl
  have D7 : DefF K mg nms ⟨12, 3, b_is_there⟩ "is_there" := def_mk ["rules", "place", "stroke", "up", "on", "reds", "low", "points", "free", "balls", ".0", "ball"] ["rules", "place", "stroke"] (PySem.W.mg_of X G a7) l7 c7 k7 scb_is_there (fun _ _ _ _ _ _ us hl => match us, hl with | [_, _, _], _ => rfl) pyb_is_there wfb_is_there rfl rfl
  have D8 : DefF K mg nms ⟨8, 2, b_may_fall⟩ "may_fall" := def_mk ["place", "first", "up", "on", "reds", "low", "points", "free"] ["place", "first"] (PySem.W.mg_of X G a8) l8 c8 k8 scb_may_fall (fun _ _ _ _ _ _ us hl => match us, hl with | [_, _], _ => rfl) pyb_may_fall wfb_may_fall rfl rfl
  have D9 : DefF K mg nms ⟨5, 2, b_is_fair⟩ "is_fair" := def_mk ["place", "stroke", "balls", ".0", "ball"] ["place", "stroke"] (PySem.W.mg_of X G a9) l9 c9 k9 scb_is_fair (fun _ _ _ _ _ _ us hl => match us, hl with | [_, _], _ => rfl) pyb_is_fair wfb_is_fair rfl rfl
  have D10 : DefF K mg nms ⟨2, 2, b_points_of⟩ "points_of" := def_mk ["place", "stroke"] ["place", "stroke"] (PySem.W.mg_of X G a10) l10 c10 k10 scb_points_of (fun _ _ _ _ _ _ us hl => match us, hl with | [_, _], _ => rfl) pyb_points_of wfb_points_of rfl rfl
  have D11 : DefF K mg nms ⟨2, 2, b_foul_of⟩ "foul_of" := def_mk ["place", "stroke"] ["place", "stroke"] (PySem.W.mg_of X G a11) l11 c11 k11 scb_foul_of (fun _ _ _ _ _ _ us hl => match us, hl with | [_, _], _ => rfl) pyb_foul_of wfb_foul_of rfl rfl
  have D12 : DefF K mg nms ⟨2, 2, b_is_clear⟩ "is_clear" := def_mk ["rules", "run"] ["rules", "run"] (PySem.W.mg_of X G a12) l12 c12 k12 scb_is_clear (fun _ _ _ _ _ _ us hl => match us, hl with | [_, _], _ => rfl) pyb_is_clear wfb_is_clear rfl rfl
  have D13 : DefF K mg nms ⟨3, 1, b_rows_of⟩ "rows_of" := def_mk ["run", ".0", "ball"] ["run"] (PySem.W.mg_of X G a13) l13 c13 k13 scb_rows_of (fun _ _ _ _ _ _ us hl => match us, hl with | [_], _ => rfl) pyb_rows_of wfb_rows_of rfl rfl
  have D14 : DefF K mg nms ⟨2, 2, b_first_place⟩ "first_place" := def_mk ["rules", "player"] ["rules", "player"] (PySem.W.mg_of X G a14) l14 c14 k14 scb_first_place (fun _ _ _ _ _ _ us hl => match us, hl with | [_, _], _ => rfl) pyb_first_place wfb_first_place rfl rfl
  have D15 : DefF K mg nms ⟨2, 2, b_is_deed⟩ "is_deed" := def_mk ["rules", "thing"] ["rules", "thing"] (PySem.W.mg_of X G a15) l15 c15 k15 scb_is_deed (fun _ _ _ _ _ _ us hl => match us, hl with | [_, _], _ => rfl) pyb_is_deed wfb_is_deed rfl rfl
  have D16 : DefF K mg nms ⟨3, 3, b_added⟩ "added" := def_mk ["points", "player", "more"] ["points", "player", "more"] (PySem.W.mg_of X G a16) l16 c16 k16 scb_added (fun _ _ _ _ _ _ us hl => match us, hl with | [_, _, _], _ => rfl) pyb_added wfb_added rfl rfl
  have D17 : DefF K mg nms ⟨14, 3, b_struck⟩ "struck" := def_mk ["rules", "place", "stroke", "up", "on", "reds", "low", "points", "free", "top", "gain", "loss", "ends", "start"] ["rules", "place", "stroke"] (PySem.W.mg_of X G a17) l17 c17 k17 scb_struck (fun _ _ _ _ _ _ us hl => match us, hl with | [_, _, _], _ => rfl) pyb_struck wfb_struck rfl rfl
  have D18 : DefF K mg nms ⟨9, 3, b_behind⟩ "behind" := def_mk ["rules", "place", "deed", "up", "on", "reds", "low", "points", "free"] ["rules", "place", "deed"] (PySem.W.mg_of X G a18) l18 c18 k18 scb_behind (fun _ _ _ _ _ _ us hl => match us, hl with | [_, _, _], _ => rfl) pyb_behind wfb_behind rfl rfl
  have D19 : DefF K mg nms ⟨4, 2, b_walked⟩ "walked" := def_mk ["rules", "frame", "state", "deed"] ["rules", "frame"] (PySem.W.mg_of X G a19) l19 c19 k19 scb_walked (fun _ _ _ _ _ _ us hl => match us, hl with | [_, _], _ => rfl) pyb_walked wfb_walked rfl rfl
  have D20 : DefF K mg nms ⟨5, 2, b_frame_fault⟩ "frame_fault" := def_mk ["rules", "frame", "state", "number", "deed"] ["rules", "frame"] (PySem.W.mg_of X G a20) l20 c20 k20 scb_frame_fault (fun _ _ _ _ _ _ us hl => match us, hl with | [_, _], _ => rfl) pyb_frame_fault wfb_frame_fault rfl rfl
  have D21 : DefF K mg nms ⟨2, 2, b_is_frame⟩ "is_frame" := def_mk ["rules", "thing"] ["rules", "thing"] (PySem.W.mg_of X G a21) l21 c21 k21 scb_is_frame (fun _ _ _ _ _ _ us hl => match us, hl with | [_, _], _ => rfl) pyb_is_frame wfb_is_frame rfl rfl
  have D22 : DefF K mg nms ⟨2, 2, b_place_of⟩ "place_of" := def_mk ["rules", "frame"] ["rules", "frame"] (PySem.W.mg_of X G a22) l22 c22 k22 scb_place_of (fun _ _ _ _ _ _ us hl => match us, hl with | [_, _], _ => rfl) pyb_place_of wfb_place_of rfl rfl
  have D23 : DefF K mg nms ⟨2, 2, b_points_in⟩ "points_in" := def_mk ["rules", "frame"] ["rules", "frame"] (PySem.W.mg_of X G a23) l23 c23 k23 scb_points_in (fun _ _ _ _ _ _ us hl => match us, hl with | [_, _], _ => rfl) pyb_points_in wfb_points_in rfl rfl
  have D24 : DefF K mg nms ⟨2, 2, b_winner_of⟩ "winner_of" := def_mk ["rules", "frame"] ["rules", "frame"] (PySem.W.mg_of X G a24) l24 c24 k24 scb_winner_of (fun _ _ _ _ _ _ us hl => match us, hl with | [_, _], _ => rfl) pyb_winner_of wfb_winner_of rfl rfl
  have D25 : DefF K mg nms ⟨3, 3, b_rest_of⟩ "rest_of" := def_mk ["rules", "reds", "low"] ["rules", "reds", "low"] (PySem.W.mg_of X G a25) l25 c25 k25 scb_rest_of (fun _ _ _ _ _ _ us hl => match us, hl with | [_, _, _], _ => rfl) pyb_rest_of wfb_rest_of rfl rfl
  have D26 : DefF K mg nms ⟨9, 2, b_still⟩ "still" := def_mk ["rules", "place", "up", "on", "reds", "low", "points", "free", "rest"] ["rules", "place"] (PySem.W.mg_of X G a26) l26 c26 k26 scb_still (fun _ _ _ _ _ _ us hl => match us, hl with | [_, _], _ => rfl) pyb_still wfb_still rfl rfl
  have D27 : DefF K mg nms ⟨11, 2, b_visits⟩ "visits" := def_mk ["rules", "frame", "found", "place", "is_fresh", "deed", "new", "gain", "player", "points", "many"] ["rules", "frame"] (PySem.W.mg_of X G a27) l27 c27 k27 scb_visits (fun _ _ _ _ _ _ us hl => match us, hl with | [_, _], _ => rfl) pyb_visits wfb_visits rfl rfl
  have D28 : DefF K mg nms ⟨8, 2, b_best_breaks⟩ "best_breaks" := def_mk ["rules", "frame", "rows", ".0", "player", "who", "points", "many"] ["rules", "frame"] (PySem.W.mg_of X G a28) l28 c28 k28 scb_best_breaks (fun _ _ _ _ _ _ us hl => match us, hl with | [_, _], _ => rfl) pyb_best_breaks wfb_best_breaks rfl rfl
  have D29 : DefF K mg nms ⟨5, 2, b_fouls⟩ "fouls" := def_mk ["rules", "frame", "found", "place", "deed"] ["rules", "frame"] (PySem.W.mg_of X G a29) l29 c29 k29 scb_fouls (fun _ _ _ _ _ _ us hl => match us, hl with | [_, _], _ => rfl) pyb_fouls wfb_fouls rfl rfl
  have D30 : DefF K mg nms ⟨6, 2, b_fallen⟩ "fallen" := def_mk ["rules", "frame", "found", "place", "deed", "ball"] ["rules", "frame"] (PySem.W.mg_of X G a30) l30 c30 k30 scb_fallen (fun _ _ _ _ _ _ us hl => match us, hl with | [_, _], _ => rfl) pyb_fallen wfb_fallen rfl rfl
  have D31 : DefF K mg nms ⟨5, 2, b_law_same⟩ "_law_same" := def_mk ["got", "due", ".0", "one", "other"] ["got", "due"] (PySem.W.mg_of X G a31) l31 c31 k31 scb_law_same (fun _ _ _ _ _ _ us hl => match us, hl with | [_, _], _ => rfl) pyb_law_same wfb_law_same rfl rfl
  have D32 : DefF K mg nms ⟨7, 3, b_law_draw⟩ "_law_draw" := def_mk ["script", "town", "many", "k", "cell", "number", "more"] ["script", "town", "many"] (PySem.W.mg_of X G a32) l32 c32 k32 scb_law_draw (fun _ _ _ _ _ _ us hl => match us, hl with | [_, _, _], _ => rfl) pyb_law_draw wfb_law_draw rfl rfl
  have D33 : DefF K mg nms ⟨3, 3, b_law_pick⟩ "_law_pick" := def_mk ["script", "town", "some"] ["script", "town", "some"] (PySem.W.mg_of X G a33) l33 c33 k33 scb_law_pick (fun _ _ _ _ _ _ us hl => match us, hl with | [_, _, _], _ => rfl) pyb_law_pick wfb_law_pick rfl rfl
  have D34 : DefF K mg nms ⟨2, 2, b_law_drawn_rules⟩ "_law_drawn_rules" := def_mk ["script", "town"] ["script", "town"] (PySem.W.mg_of X G a34) l34 c34 k34 scb_law_drawn_rules (fun _ _ _ _ _ _ us hl => match us, hl with | [_, _], _ => rfl) pyb_law_drawn_rules wfb_law_drawn_rules rfl rfl
  have D35 : DefF K mg nms ⟨5, 3, b_law_drawn_run⟩ "_law_drawn_run" := def_mk ["script", "town", "rules", "whole", "k"] ["script", "town", "rules"] (PySem.W.mg_of X G a35) l35 c35 k35 scb_law_drawn_run (fun _ _ _ _ _ _ us hl => match us, hl with | [_, _, _], _ => rfl) pyb_law_drawn_run wfb_law_drawn_run rfl rfl
  have D36 : DefF K mg nms ⟨19, 1, b_law⟩ "law" := def_mk ["script", "town", "k", "rules", "run", "player", "deeds", "frame", "total", "due", "told", "place", "least", "miss", "later", ".0", "stroke", "ball", "many"] ["script"] (PySem.W.mg_of X G a36) l36 c36 k36 scb_law (fun _ _ _ _ _ _ us hl => match us, hl with | [_], _ => rfl) pyb_law wfb_law rfl rfl
  have bl : ∀ b ∈ bltNames, mg b = none := by
    intro b hb
    simp only [bltNames, List.mem_cons, List.not_mem_nil, or_false] at hb
    rcases hb with rfl | rfl | rfl | rfl | rfl | rfl | rfl | rfl | rfl | rfl | rfl | rfl | rfl | rfl | rfl | rfl
    · exact PySem.W.mg_none_of X G z0
    · exact PySem.W.mg_none_of X G z1
    · exact PySem.W.mg_none_of X G z2
    · exact PySem.W.mg_none_of X G z3
    · exact PySem.W.mg_none_of X G z4
    · exact PySem.W.mg_none_of X G z5
    · exact PySem.W.mg_none_of X G z6
    · exact PySem.W.mg_none_of X G z7
    · exact PySem.W.mg_none_of X G z8
    · exact PySem.W.mg_none_of X G z9
    · exact PySem.W.mg_none_of X G z10
    · exact PySem.W.mg_none_of X G z11
    · exact PySem.W.mg_none_of X G z12
    · exact PySem.W.mg_none_of X G z13
    · exact PySem.W.mg_none_of X G z14
    · exact PySem.W.mg_none_of X G z15
  have XA : XcOk K mg nms := by
    constructor
    · intro f x hf h
      unfold nms at h
      split at h
      · exact absurd hf (by decide)
      · exact absurd hf (by decide)
      · exact absurd hf (by decide)
      · exact absurd hf (by decide)
      · exact absurd hf (by decide)
      · exact absurd hf (by decide)
      · exact absurd hf (by decide)
      · exact absurd hf (by decide)
      · exact absurd hf (by decide)
      · exact absurd hf (by decide)
      · exact absurd hf (by decide)
      · exact absurd hf (by decide)
      · exact absurd hf (by decide)
      · exact absurd hf (by decide)
      · exact absurd hf (by decide)
      · exact absurd hf (by decide)
      · exact absurd hf (by decide)
      · exact absurd hf (by decide)
      · exact absurd hf (by decide)
      · exact absurd hf (by decide)
      · exact absurd hf (by decide)
      · exact absurd hf (by decide)
      · exact absurd hf (by decide)
      · exact absurd hf (by decide)
      · exact absurd hf (by decide)
      · exact absurd hf (by decide)
      · exact absurd hf (by decide)
      · exact absurd hf (by decide)
      · exact absurd hf (by decide)
      · exact absurd hf (by decide)
      · exact absurd hf (by decide)
      · exact absurd hf (by decide)
      · exact absurd hf (by decide)
      · exact absurd hf (by decide)
      · exact absurd hf (by decide)
      · exact absurd hf (by decide)
      · exact absurd hf (by decide)
      · cases h; exact ⟨e0, PySem.W.mg_of X G ea0, ek0, ex0, es0, et0⟩
      · cases h
    · intro f x f' y hf h hf' h' c d hc hd
      unfold nms at h
      split at h
      · exact absurd hf (by decide)
      · exact absurd hf (by decide)
      · exact absurd hf (by decide)
      · exact absurd hf (by decide)
      · exact absurd hf (by decide)
      · exact absurd hf (by decide)
      · exact absurd hf (by decide)
      · exact absurd hf (by decide)
      · exact absurd hf (by decide)
      · exact absurd hf (by decide)
      · exact absurd hf (by decide)
      · exact absurd hf (by decide)
      · exact absurd hf (by decide)
      · exact absurd hf (by decide)
      · exact absurd hf (by decide)
      · exact absurd hf (by decide)
      · exact absurd hf (by decide)
      · exact absurd hf (by decide)
      · exact absurd hf (by decide)
      · exact absurd hf (by decide)
      · exact absurd hf (by decide)
      · exact absurd hf (by decide)
      · exact absurd hf (by decide)
      · exact absurd hf (by decide)
      · exact absurd hf (by decide)
      · exact absurd hf (by decide)
      · exact absurd hf (by decide)
      · exact absurd hf (by decide)
      · exact absurd hf (by decide)
      · exact absurd hf (by decide)
      · exact absurd hf (by decide)
      · exact absurd hf (by decide)
      · exact absurd hf (by decide)
      · exact absurd hf (by decide)
      · exact absurd hf (by decide)
      · exact absurd hf (by decide)
      · exact absurd hf (by decide)
      · cases h
        have q := hc.symm.trans (PySem.W.mg_of X G ea0)
        cases q
        unfold nms at h'
        split at h'
        · exact absurd hf' (by decide)
        · exact absurd hf' (by decide)
        · exact absurd hf' (by decide)
        · exact absurd hf' (by decide)
        · exact absurd hf' (by decide)
        · exact absurd hf' (by decide)
        · exact absurd hf' (by decide)
        · exact absurd hf' (by decide)
        · exact absurd hf' (by decide)
        · exact absurd hf' (by decide)
        · exact absurd hf' (by decide)
        · exact absurd hf' (by decide)
        · exact absurd hf' (by decide)
        · exact absurd hf' (by decide)
        · exact absurd hf' (by decide)
        · exact absurd hf' (by decide)
        · exact absurd hf' (by decide)
        · exact absurd hf' (by decide)
        · exact absurd hf' (by decide)
        · exact absurd hf' (by decide)
        · exact absurd hf' (by decide)
        · exact absurd hf' (by decide)
        · exact absurd hf' (by decide)
        · exact absurd hf' (by decide)
        · exact absurd hf' (by decide)
        · exact absurd hf' (by decide)
        · exact absurd hf' (by decide)
        · exact absurd hf' (by decide)
        · exact absurd hf' (by decide)
        · exact absurd hf' (by decide)
        · exact absurd hf' (by decide)
        · exact absurd hf' (by decide)
        · exact absurd hf' (by decide)
        · exact absurd hf' (by decide)
        · exact absurd hf' (by decide)
        · exact absurd hf' (by decide)
        · exact absurd hf' (by decide)
        · cases h'
          have q := hd.symm.trans (PySem.W.mg_of X G ea0)
          cases q
          exact em0_0
        · cases h'
      · cases h
  have T : ∀ f x, f < 1000 → nms f = some x → ∃ d, Gm f = some d ∧ DefF K mg nms d x := by
    intro f x hf h
    unfold nms at h
    split at h
    · cases h; exact ⟨_, rfl, D0⟩
    · cases h; exact ⟨_, rfl, D1⟩
    · cases h; exact ⟨_, rfl, D2⟩
    · cases h; exact ⟨_, rfl, D3⟩
    · cases h; exact ⟨_, rfl, D4⟩
    · cases h; exact ⟨_, rfl, D5⟩
    · cases h; exact ⟨_, rfl, D6⟩
    · cases h; exact ⟨_, rfl, D7⟩
    · cases h; exact ⟨_, rfl, D8⟩
    · cases h; exact ⟨_, rfl, D9⟩
    · cases h; exact ⟨_, rfl, D10⟩
    · cases h; exact ⟨_, rfl, D11⟩
    · cases h; exact ⟨_, rfl, D12⟩
    · cases h; exact ⟨_, rfl, D13⟩
    · cases h; exact ⟨_, rfl, D14⟩
    · cases h; exact ⟨_, rfl, D15⟩
    · cases h; exact ⟨_, rfl, D16⟩
    · cases h; exact ⟨_, rfl, D17⟩
    · cases h; exact ⟨_, rfl, D18⟩
    · cases h; exact ⟨_, rfl, D19⟩
    · cases h; exact ⟨_, rfl, D20⟩
    · cases h; exact ⟨_, rfl, D21⟩
    · cases h; exact ⟨_, rfl, D22⟩
    · cases h; exact ⟨_, rfl, D23⟩
    · cases h; exact ⟨_, rfl, D24⟩
    · cases h; exact ⟨_, rfl, D25⟩
    · cases h; exact ⟨_, rfl, D26⟩
    · cases h; exact ⟨_, rfl, D27⟩
    · cases h; exact ⟨_, rfl, D28⟩
    · cases h; exact ⟨_, rfl, D29⟩
    · cases h; exact ⟨_, rfl, D30⟩
    · cases h; exact ⟨_, rfl, D31⟩
    · cases h; exact ⟨_, rfl, D32⟩
    · cases h; exact ⟨_, rfl, D33⟩
    · cases h; exact ⟨_, rfl, D34⟩
    · cases h; exact ⟨_, rfl, D35⟩
    · cases h; exact ⟨_, rfl, D36⟩
    · exact absurd hf (by decide)
    · cases h
  have q := hfa.symm.trans (PySem.W.mg_of X G a36)
  cases q
  refine ⟨PySem.W.fnOf "law" "law" (defArgs (topS 46)) (defBody (topS 46)) (defScope (topS 46)) .none kV36 dc36 pm36 an36 cd36 ct36, fun s v => .of_eq rfl, fun base _ _ => ?_⟩
  exact law_of (n := 23) (d := ⟨19, 1, b_law⟩) bl XA T rfl (fun_mk (st := topS 46) l36 c36 k36) scb_law pyb_law wfb_law rfl rfl
end Bz
open PySem PySem.W PyProof.Rows
set_option maxHeartbeats 0 in
theorem PySem.Challenge.cw_baizehall_k21_whole_runs_struck_holds : PySem.Challenge.rw_baizehall_k21_whole_runs_struck.Holds := by
  w_on; o_law; k_head; (case hw => w_witness2)
  k_fill
  refine L2.walk_of (l := PySem.Challenge.rw_baizehall_k21_whole_runs_struck) (n := 63) (k := 24) (x := "script") (CX := fun w => L2.CX PySem.Challenge.rw_baizehall_k21_whole_runs_struck.prog w) (sp := fun w => Bz.spL (Bz.run Bz.Gm 24 0)) rfl (by decide) rfl ⟨rfl, by decide, by decide⟩ (fun w h Y => PySem.W.kIn_of Y) ?F ?S (fun _ _ _ _ _ h => Bz.cx_no h)
  case F =>
    intro w mg fa h KX G hmg
    refine' Bz.all_mk KX G hmg ?a0 ?l0 ?c0 ?k0 ?a1 ?l1 ?c1 ?k1 ?a2 ?l2 ?c2 ?k2 ?a3 ?l3 ?c3 ?k3 ?a4 ?l4 ?c4 ?k4 ?a5 ?l5 ?c5 ?k5 ?a6 ?l6 ?c6 ?k6 ?a7 ?l7 ?c7 ?k7 ?a8 ?l8 ?c8 ?k8 ?a9 ?l9 ?c9 ?k9 ?a10 ?l10 ?c10 ?k10 ?a11 ?l11 ?c11 ?k11 ?a12 ?l12 ?c12 ?k12 ?a13 ?l13 ?c13 ?k13 ?a14 ?l14 ?c14 ?k14 ?a15 ?l15 ?c15 ?k15 ?a16 ?l16 ?c16 ?k16 ?a17 ?l17 ?c17 ?k17 ?a18 ?l18 ?c18 ?k18 ?a19 ?l19 ?c19 ?k19 ?a20 ?l20 ?c20 ?k20 ?a21 ?l21 ?c21 ?k21 ?a22 ?l22 ?c22 ?k22 ?a23 ?l23 ?c23 ?k23 ?a24 ?l24 ?c24 ?k24 ?a25 ?l25 ?c25 ?k25 ?a26 ?l26 ?c26 ?k26 ?a27 ?l27 ?c27 ?k27 ?a28 ?l28 ?c28 ?k28 ?a29 ?l29 ?c29 ?k29 ?a30 ?l30 ?c30 ?k30 ?a31 ?l31 ?c31 ?k31 ?a32 ?l32 ?c32 ?k32 ?a33 ?l33 ?c33 ?k33 ?a34 ?l34 ?c34 ?k34 ?a35 ?l35 ?c35 ?k35 ?a36 ?l36 ?c36 ?k36 ?z0 ?z1 ?z2 ?z3 ?z4 ?z5 ?z6 ?z7 ?z8 ?z9 ?z10 ?z11 ?z12 ?z13 ?z14 ?z15 ?ea0 ?ek0 ?ex0 ?es0 ?et0 ?em0_0
    (case a0 => k_is)
    (case l0 => k_is)
    (case c0 => k_is)
    (case k0 => k_is)
    (case a1 => k_is)
    (case l1 => k_is)
    (case c1 => k_is)
    (case k1 => k_is)
    (case a2 => k_is)
    (case l2 => k_is)
    (case c2 => k_is)
    (case k2 => k_is)
    (case a3 => k_is)
    (case l3 => k_is)
    (case c3 => k_is)
    (case k3 => k_is)
    (case a4 => k_is)
    (case l4 => k_is)
    (case c4 => k_is)
    (case k4 => k_is)
    (case a5 => k_is)
    (case l5 => k_is)
    (case c5 => k_is)
    (case k5 => k_is)
    (case a6 => k_is)
    (case l6 => k_is)
    (case c6 => k_is)
    (case k6 => k_is)
    (case a7 => k_is)
    (case l7 => k_is)
    (case c7 => k_is)
    (case k7 => k_is)
    (case a8 => k_is)
    (case l8 => k_is)
    (case c8 => k_is)
    (case k8 => k_is)
    (case a9 => k_is)
    (case l9 => k_is)
    (case c9 => k_is)
    (case k9 => k_is)
    (case a10 => k_is)
    (case l10 => k_is)
    (case c10 => k_is)
    (case k10 => k_is)
    (case a11 => k_is)
    (case l11 => k_is)
    (case c11 => k_is)
    (case k11 => k_is)
    (case a12 => k_is)
    (case l12 => k_is)
    (case c12 => k_is)
    (case k12 => k_is)
    (case a13 => k_is)
    (case l13 => k_is)
    (case c13 => k_is)
    (case k13 => k_is)
    (case a14 => k_is)
    (case l14 => k_is)
    (case c14 => k_is)
    (case k14 => k_is)
    (case a15 => k_is)
    (case l15 => k_is)
    (case c15 => k_is)
    (case k15 => k_is)
    (case a16 => k_is)
    (case l16 => k_is)
    (case c16 => k_is)
    (case k16 => k_is)
    (case a17 => k_is)
    (case l17 => k_is)
    (case c17 => k_is)
    (case k17 => k_is)
    (case a18 => k_is)
    (case l18 => k_is)
    (case c18 => k_is)
    (case k18 => k_is)
    (case a19 => k_is)
    (case l19 => k_is)
    (case c19 => k_is)
    (case k19 => k_is)
    (case a20 => k_is)
    (case l20 => k_is)
    (case c20 => k_is)
    (case k20 => k_is)
    (case a21 => k_is)
    (case l21 => k_is)
    (case c21 => k_is)
    (case k21 => k_is)
    (case a22 => k_is)
    (case l22 => k_is)
    (case c22 => k_is)
    (case k22 => k_is)
    (case a23 => k_is)
    (case l23 => k_is)
    (case c23 => k_is)
    (case k23 => k_is)
    (case a24 => k_is)
    (case l24 => k_is)
    (case c24 => k_is)
    (case k24 => k_is)
    (case a25 => k_is)
    (case l25 => k_is)
    (case c25 => k_is)
    (case k25 => k_is)
    (case a26 => k_is)
    (case l26 => k_is)
    (case c26 => k_is)
    (case k26 => k_is)
    (case a27 => k_is)
    (case l27 => k_is)
    (case c27 => k_is)
    (case k27 => k_is)
    (case a28 => k_is)
    (case l28 => k_is)
    (case c28 => k_is)
    (case k28 => k_is)
    (case a29 => k_is)
    (case l29 => k_is)
    (case c29 => k_is)
    (case k29 => k_is)
    (case a30 => k_is)
    (case l30 => k_is)
    (case c30 => k_is)
    (case k30 => k_is)
    (case a31 => k_is)
    (case l31 => k_is)
    (case c31 => k_is)
    (case k31 => k_is)
    (case a32 => k_is)
    (case l32 => k_is)
    (case c32 => k_is)
    (case k32 => k_is)
    (case a33 => k_is)
    (case l33 => k_is)
    (case c33 => k_is)
    (case k33 => k_is)
    (case a34 => k_is)
    (case l34 => k_is)
    (case c34 => k_is)
    (case k34 => k_is)
    (case a35 => k_is)
    (case l35 => k_is)
    (case c35 => k_is)
    (case k35 => k_is)
    (case a36 => k_is)
    (case l36 => k_is)
    (case c36 => k_is)
    (case k36 => k_is)
    (case z0 => k_is)
    (case z1 => k_is)
    (case z2 => k_is)
    (case z3 => k_is)
    (case z4 => k_is)
    (case z5 => k_is)
    (case z6 => k_is)
    (case z7 => k_is)
    (case z8 => k_is)
    (case z9 => k_is)
    (case z10 => k_is)
    (case z11 => k_is)
    (case z12 => k_is)
    (case z13 => k_is)
    (case z14 => k_is)
    (case z15 => k_is)
    (case ea0 => k_is)
    (case ek0 => k_is)
    (case ex0 => k_exc)
    (case es0 => k_is)
    (case et0 => k_is)
    (case em0_0 => kernel_rfl)
  case S =>
    intro w H a ns hl hO hS
    exact fun mg => Bz.law_sp (by rfl) hO hS (Bz.law_true ns hl)
