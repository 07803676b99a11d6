import PyProof.Rows.All
import Wide.All
import OpenK.AllK
import Wide.FinOn
import HandS.Call
import HandS.List
import HandS.Comp
import HandS.Exc
import HandS.Codes
import HandS.Text
import HandS.Iter
import HandS.Words
import HandS.Wide
import HandS.TupAny
import HandS.Dict
import PyProof.ReprRoads
import HandS.Flow
import HandS.IsInst
import HandS.CallLocal
import HandS.FStr
import HandS.More
import HandS.Zip
import HandS.Rev
import HandS.Style
import HandS.TupMul
import HandS.Deep
import KE.DataEq
import HandS.SortInts
import HandS.Lambda
import KE.DataMinMax
import KE.SortKeyHeap
import HandS.Conv
import HandS.SortKw
import KE.GoesNew
import HandS.TupLe
import HandS.MakeKwOnly
import HandS.ExcOwn
import PyProof.FactsAll.dict
import HandS.OwnEq
import KE.KFmtOwn
import PyProof.ReprNest
import PyProof.ExcBaseAll.ValueError
import HandS.ExcIs
import HandS.ExcField
import HandS.HotCalls
import HandS.TryMany
import HandS.Ends
import HandS.Defaults
import HandS.EndBits
import KE.KLam
import PyProof.StrLawsRepr
import PySem.Challenge.RW_classmarks_k03_rules_compared_and_shown
set_option maxHeartbeats 1000000
set_option Elab.async false
set_option linter.all false
set_option maxRecDepth 100000
/-! A0: data without a heap, a small tree language, its meaning as a wish (weakest wish) over an environment. -/
namespace G
open PySem

/-- data: what a value is, all through -/
inductive D where
  | non | bl (b : Bool) | int (i : Int) | str (s : Str)
  | tup (xs : List D) | lst (xs : List D) | dct (w : Bool) (ks : List L2.Key) (vs : List D)
  | ins (c : Nat) (fs : List D) | fn (f : Nat)
  /-- the law's script -/
  | scr (ns : List Int)
  /-- the exception that an except suite holds, at its address -/
  | exn (a : Nat)

/-- what one owns and may change: a list, an instance -/
inductive OV where
  | lst (xs : List D) | ins (c : Nat) (fs : List D)
def OV.toD : OV → D
  | .lst xs => .lst xs
  | .ins c fs => .ins c fs
/-- a name's content: data that never changes any more; an object of one's own; one that the caller lent -/
inductive EV where
  | val (d : D) | own (o : OV) | bor (o : OV)
def EV.toD : EV → D
  | .val d => d
  | .own o => o.toD
  | .bor o => o.toD
abbrev Env := List (Option EV)
/-- an expression's answer: data, or a new object that nobody else has -/
inductive RV where
  | val (d : D) | fr (o : OV)
def RV.toD : RV → D
  | .val d => d
  | .fr o => o.toD
def RV.toEV : RV → EV
  | .val d => .val d
  | .fr o => .own o
/-- an operand: data, or the slot of a name that is looked at when all operands are there -/
inductive Op where
  | d (d : D) | slot (i : Nat)
def res (env : Env) : Op → Option D
  | .d d => some d
  | .slot i => match env[i]? with
    | some (some v) => some v.toD
    | _ => none
structure Exn where
  c : Nat
  fs : List D
abbrev XP := Exn → Env → Prop
abbrev PostE := RV → Env → Prop
abbrev PostO := Op → Env → Prop
abbrev PostOs := List Op → Env → Prop
/-- a def's meaning: the arguments, what is wanged of the answer and of the lent objects, of an exception -/
abbrev Spec := List EV → (RV → List OV → Prop) → (Exn → List OV → Prop) → Prop

/-! ### the program's classes and attributes, by number -/
/-- 0 Rules, 1 Mark, 2 Sheet, 3 Desk -/
def attrNm : Nat → Str
  | 0 => "drop" | 1 => "cut" | 2 => "second" | 3 => "points" | 4 => "most" | 5 => "works" | 6 => "rules" | 7 => "results" | 8 => "scale" | 9 => "kept"
  | _ => "?"
def clsAt : Nat → List Nat
  | 0 => [0, 1, 2] | 1 => [3, 4] | 2 => [5, 6, 7, 0] | 3 => [5, 8, 9]
  | _ => []
def placeIn (f : Nat) : List Nat → Option Nat
  | [] => none
  | g :: r => if g = f then some 0 else (placeIn f r).map (· + 1)
def posA (c f : Nat) : Option Nat := placeIn f (clsAt c)
/-- a class's attributes' names -/
def clsNm (c : Nat) : List Str := (clsAt c).map attrNm

def idSrc (n : Nat) : List (Sum Nat D) := (List.range n).map .inl
/-- the exceptions' attributes: 1 MissingPupil, 18 BadRule, 19 NoText, 20 TooMany -/
def excNm : Nat → List Str
  | 1 => ["pupil"] | 18 => ["name"] | 19 => ["row"] | 20 => ["many", "most"]
  | _ => []
/-- a source behind one more argument ahead -/
def shSrc (s : List (Sum Nat D)) : List (Sum Nat D) := s.map fun x => match x with
  | .inl k => .inl (k + 1)
  | .inr d => .inr d
/-- targets -/
inductive Tg where
  | nm (i : Nat) | tp (ts : List Tg)
/-- the types that isinstance asks for -/
inductive Ty where
  | int | bool | str | lst | tup | dct | cls (c : Nat)
  deriving DecidableEq
/-- built-in functions on operands -/
inductive BI where
  | len | max2 | min2 | max1 | min1 | sum | all | any | lst | tup | repr | str | int | sorted
/-- methods of one's own lists, by slot -/
inductive LM where
  | append | insert | pop | popAt | extend
  deriving DecidableEq
/-- methods of data that only read -/
inductive BM where
  | upper | join | split | count | index | part
  deriving DecidableEq

/-- keys that a lambda gives: x[1]; (0 - w[x], x) -/
inductive KF where
  | at1 | wn (w : Nat)
  deriving DecidableEq
/-- calls of built-in functions of a form of their own: list(range(n)), tuple(range(n)), sum(xs, start=n), min(xs, default=d) -/
inductive XBK where
  | lrng | trng | sum2 | min0 (d : D)
/-- calls that go to a class's own special method: repr(x), str(x), len(x) -/
inductive SP where
  | repr | str | len
  deriving DecidableEq
/-- what is asked of a held exception: isinstance of a class, a field, a def called with it; a def that takes a lambda and tells what it gives (v), or the words of its refusal, by the def f -/
inductive HK where
  | isx (c : Nat) | xf (c k : Nat) | hc (f : Nat) | said (v : Bool) (f : Nat) | nst (c f : Nat)
  deriving DecidableEq
mutual
/-- expressions -/
inductive E where
  | var (i : Nat) | ref (i : Nat) | con (d : D)
  | bin (op : Operator) (a b : E) | neg (a : E)
  | cmp (op : CmpOp) (a b : E) | chn (o1 o2 : CmpOp) (a b c : E)
  | and (a b : E) | or (a b : E) | not (a : E) | ite (c : T) (a b : E)
  | tup (es : List E) | lst (es : List E)
  | sub (a i : E) | slc (a : E) (lo hi : O) | rev (a : E)
  | call (f : Nat) (as : List E) (src : List (Sum Nat D))
  /-- a new instance of class c, by the def f -/
  | make (c f : Nat) (as : List E) (src : List (Sum Nat D))
  /-- a method of an instance of class c: the def f -/
  | meth (c f : Nat) (a : E) (as : List E) (src : List (Sum Nat D))
  /-- a name that holds one of these defs -/
  | cv (i : Nat) (fs : List Nat) (as : List E)
  | bm (m : BM) (a : E) (as : List E)
  /-- a written dict of one entry at most -/
  | dsp (ks : List L2.Key) (ds : List D)
  | fst (as : List E)
  | bi (b : BI) (as : List E) | isi (a : E) (t : Ty)
  | fld (a : E) (f : Nat)
  | lm (m : LM) (i : Nat) (as : List E)
  /-- sorted(a, key=lambda ..) -/
  | srk (k : KF) (a : E)
  | xb (k : XBK) (es : List E)
  /-- == or != of two instances of class c, by its own __eq__, the def f -/
  | own (neg : Bool) (c f : Nat) (a b : E)
  /-- repr, str, len of an instance of class c, by the def f -/
  | spc (k : SP) (c f : Nat) (a : E)
  | hot (k : HK) (a : E)
  | lc (elt : E) (t : Tg) (it : I) (cond : T) (own : List Nat)
/-- a slice's bound -/
inductive O where
  | no | at (e : E)
/-- tests -/
inductive T where
  | yes | tv (e : E) | and (a b : T) | or (a b : T) | not (a : T)
  | cmp (op : CmpOp) (a b : E) | chn (o1 o2 : CmpOp) (a b c : E)
  | own (neg : Bool) (c f : Nat) (a b : E)
/-- what is walked -/
inductive I where
  | it (e : E) | rng (es : List E) | enm (es : List E) | zip (es : List E) | rvd (es : List E)
end

inductive S where
  | asg (i : Nat) (e : E) | asgT (t : Tg) (e : E) | par (is : List Nat) (es : List E)
  | put (i : Nat) (ix e : E) | ex (e : E) | ret (e : E) | retN
  /-- name.attribute = e -/
  | fput (i f : Nat) (e : E)
  /-- name op= e -/
  | aug (i : Nat) (op : Operator) (e : E)
  | ite (c : T) (a b : List S) | for_ (t : Tg) (it : I) (body : List S) | while_ (c : T) (body : List S)
  | brk | cnt | pass
  /-- raise C("..."), C an exception class without fields -/
  | raise (c : Nat)
  /-- what is never reached -/
  | bad

/-! ### plain functions of data -/
def line : Nat := 16777216
def truth : D → Option Bool
  | .non => some false
  | .bl b => some b
  | .int i => some (i != 0)
  | .str s => some (s.length != 0)
  | .tup xs => some (!xs.isEmpty)
  | .lst xs => some (!xs.isEmpty)
  | _ => none
def lookK : List L2.Key → List D → L2.Key → Option D
  | k :: ks, v :: vs, x => if k = x then some v else lookK ks vs x
  | _, _, _ => none
def atD : D → D → Option D
  | .lst xs, .int i => L2.atI xs i
  | .dct _ ks vs, .str s => lookK ks vs (.inr s)
  | .tup xs, .int i => L2.atI xs i
  | .scr xs, .int i => (L2.atI xs i).map .int
  | .str s, .int i => (L2.atI s.cps.toList i).map fun c => .str ⟨#[c]⟩
  | _, _ => none
/-- an operator's wish -/
def binW (op : Operator) (a b : Option D) (Q : RV → Prop) : Prop :=
  match op, a, b with
  | .Add, some (.int i), some (.int j) => Q (.val (.int (i + j)))
  | .Sub, some (.int i), some (.int j) => Q (.val (.int (i - j)))
  | .Mult, some (.int i), some (.int j) => L2.CMulW i j ∧ Q (.val (.int (i * j)))
  | .FloorDiv, some (.int i), some (.int j) => L2.CDivW i j ∧ Q (.val (.int (i / j)))
  | .Mod, some (.int i), some (.int j) => 0 < j ∧ Q (.val (.int (i % j)))
  | .Pow, some (.int i), some (.int j) => L2.CPow i j ∧ Q (.val (.int (i ^ j.toNat)))
  | .Add, some (.str x), some (.str y) => x.length + y.length ≤ line ∧ Q (.val (.str (x ++ y)))
  | .Add, some (.lst xs), some (.lst ys) => xs.length + ys.length ≤ line ∧ Q (.fr (.lst (xs ++ ys)))
  | .Add, some (.tup xs), some (.tup ys) => xs.length + ys.length ≤ line ∧ Q (.val (.tup (xs ++ ys)))
  | .Mult, some (.lst xs), some (.int n) => (0 ≤ n ∧ n ≤ 1000 ∧ xs.length ≤ 1000) ∧ Q (.fr (.lst (List.replicate n.toNat xs).flatten))
  | .Mult, some (.tup xs), some (.int n) => (0 ≤ n ∧ n ≤ 1000 ∧ xs.length ≤ 1000) ∧ Q (.val (.tup (List.replicate n.toNat xs).flatten))
  | _, _, _ => False
def keyPy : L2.Key → PyData
  | .inl i => .int i
  | .inr s => .str s
mutual
def toPy : D → PyData
  | .non => .none
  | .bl b => .bool b
  | .int i => .int i
  | .str s => .str s
  | .tup xs => .tuple (toPys xs)
  | .lst xs => .list (toPys xs)
  | .dct _ ks vs => .dict ((ks.map keyPy).zip (toPys vs))
  | .ins _ _ => .none
  | .fn _ => .none
  | .scr _ => .none
  | .exn _ => .none
def toPys : List D → List PyData
  | [] => []
  | x :: xs => toPy x :: toPys xs
end
mutual
/-- plain data: no dict, no instance, at any depth -/
def plain : D → Bool
  | .tup xs => plains xs
  | .lst xs => plains xs
  | .dct _ _ _ => false
  | .ins _ _ => false
  | .fn _ => false
  | .scr _ => false
  | .exn _ => false
  | _ => true
def plains : List D → Bool
  | [] => true
  | x :: xs => plain x && plains xs
end
mutual
/-- data without instances, defs -/
def plainR : D → Bool
  | .tup xs => plainRs xs
  | .lst xs => plainRs xs
  | .dct w ks vs => !w && (decide (ks.length = vs.length) && plainRs vs)
  | .ins _ _ => false
  | .fn _ => false
  | .scr _ => false
  | .exn _ => false
  | _ => true
def plainRs : List D → Bool
  | [] => true
  | x :: xs => plainR x && plainRs xs
end
/-- data without dicts, at most n deep -/
def flat : Nat → D → Bool
  | _, .non => true
  | _, .bl _ => true
  | _, .int _ => true
  | _, .str _ => true
  | n + 1, .tup xs => xs.all (flat n)
  | n + 1, .lst xs => xs.all (flat n)
  | _, _ => false
def okPy (d : D) : Prop := flat 60 d = true
def eqD (a b : D) : Bool := PyData.eqv (toPy a) (toPy b)
/-- is one of two the same object as None -/
def isNon : D → Bool
  | .non => true
  | _ => false
def ordI : CmpOp → Int → Int → Bool
  | .Lt, a, b => decide (a < b)
  | .LtE, a, b => decide (a ≤ b)
  | .Gt, a, b => decide (b < a)
  | .GtE, a, b => decide (b ≤ a)
  | _, _, _ => false
def ordP (op : CmpOp) (i j k l : Int) : Bool := if i = k then ordI op j l else ordI op i k
def cmpW (op : CmpOp) (a b : Option D) (Q : Bool → Prop) : Prop :=
  match op, a, b with
  | .Lt, some (.int i), some (.int j) => Q (decide (i < j))
  | .LtE, some (.int i), some (.int j) => Q (decide (i ≤ j))
  | .Gt, some (.int i), some (.int j) => Q (decide (j < i))
  | .GtE, some (.int i), some (.int j) => Q (decide (j ≤ i))
  | .Lt, some (.tup [.int i, .int j]), some (.tup [.int k, .int l]) => Q (ordP .Lt i j k l)
  | .LtE, some (.tup [.int i, .int j]), some (.tup [.int k, .int l]) => Q (ordP .LtE i j k l)
  | .Gt, some (.tup [.int i, .int j]), some (.tup [.int k, .int l]) => Q (ordP .Gt i j k l)
  | .GtE, some (.tup [.int i, .int j]), some (.tup [.int k, .int l]) => Q (ordP .GtE i j k l)
  | .Eq, some (.int i), some (.int j) => Q (decide (i = j))
  | .NotEq, some (.int i), some (.int j) => Q (!decide (i = j))
  | .Eq, some (.str i), some (.str j) => Q (decide (i = j))
  | .NotEq, some (.str i), some (.str j) => Q (!decide (i = j))
  | .Is, some x, some .non => Q (isNon x)
  | .IsNot, some x, some .non => Q (!isNon x)
  | .Is, some (.bl x), some (.bl y) => Q (decide (x = y))
  | .IsNot, some (.bl x), some (.bl y) => Q (!decide (x = y))
  | .In, some (.str i), some (.str j) => ∃ c, i = ⟨#[c]⟩ ∧ Q (decide (c ∈ j.cps.toList))
  | .NotIn, some (.str i), some (.str j) => ∃ c, i = ⟨#[c]⟩ ∧ Q (!decide (c ∈ j.cps.toList))
  | .In, some (.str s), some (.dct _ ks vs) => Q (lookK ks vs (.inr s)).isSome
  | .NotIn, some (.str s), some (.dct _ ks vs) => Q (!(lookK ks vs (.inr s)).isSome)
  | .In, some x, some (.tup ys) => okPy x ∧ okPy (.tup ys) ∧ Q (ys.any fun y => eqD y x)
  | .NotIn, some x, some (.tup ys) => okPy x ∧ okPy (.tup ys) ∧ Q (!ys.any fun y => eqD y x)
  | .In, some x, some (.lst ys) => okPy x ∧ okPy (.lst ys) ∧ Q (ys.any fun y => eqD y x)
  | .NotIn, some x, some (.lst ys) => okPy x ∧ okPy (.lst ys) ∧ Q (!ys.any fun y => eqD y x)
  | .Eq, some (.tup xs), some (.tup []) => Q xs.isEmpty
  | .NotEq, some (.tup xs), some (.tup []) => Q (!xs.isEmpty)
  | .Eq, some (.lst xs), some (.lst []) => Q xs.isEmpty
  | .NotEq, some (.lst xs), some (.lst []) => Q (!xs.isEmpty)
  | .Eq, some x, some y => okPy x ∧ okPy y ∧ Q (eqD x y)
  | .NotEq, some x, some y => okPy x ∧ okPy y ∧ Q (!eqD x y)
  | _, _, _ => False
def tyD : Ty → D → Bool
  | .int, .int _ => true
  | .int, .bl _ => true
  | .bool, .bl _ => true
  | .str, .str _ => true
  | .lst, .lst _ => true
  | .tup, .tup _ => true
  | .dct, .dct _ _ _ => true
  | .cls c, .ins c' _ => c == c'
  | _, _ => false
/-- has a type that is asked for -/
def tyOk : D → Bool
  | .fn _ => false
  | .scr _ => false
  | .exn _ => false
  | _ => true
/-- one part of an f-string -/
def fstD : D → Option Str
  | .str s => some s
  | .int i => if i.natAbs.log2 < 1920 then some (toString i) else none
  | _ => none
/-- a slice -/
def cutD (xs : List D) (lo hi : Option Int) : List D := (xs.drop (HT.sIx xs.length 0 lo)).take (HT.sIx xs.length xs.length hi - HT.sIx xs.length 0 lo)
def slcW (x : Option D) (lo hi : Option Int) (Q : RV → Prop) : Prop :=
  match x with
  | some (.lst xs) => Q (.fr (.lst (cutD xs lo hi)))
  | some (.tup xs) => Q (.val (.tup (cutD xs lo hi)))
  | some (.str s) => Q (.val (.str (L2.cutS s lo hi)))
  | _ => False
def revW (x : Option D) (Q : RV → Prop) : Prop :=
  match x with
  | some (.lst xs) => Q (.fr (.lst xs.reverse))
  | some (.tup xs) => Q (.val (.tup xs.reverse))
  | _ => False
def strsOf : List D → Option (List Str)
  | [] => some []
  | .str s :: r => (strsOf r).map fun t => s :: t
  | _ :: _ => none
/-- the receiver's kind -/
def bmTy (m : BM) (d : D) : Bool :=
  match m, d with
  | .upper, .str _ => true
  | .join, .str _ => true
  | .split, .str _ => true
  | .part, .str _ => true
  | .count, .lst _ => true
  | .index, .lst _ => true
  | _, _ => false
/-- how often a truth stands in a list of truths; its first place -/
def cntW (x y : Option D) (Q : RV → Prop) : Prop := ∃ (bs : List Bool) (b : Bool), x = some (.lst (bs.map .bl)) ∧ y = some (.bl b) ∧ Q (.val (.int (bs.count b : Nat)))
def idxW (x y : Option D) (Q : RV → Prop) : Prop := ∃ (bs : List Bool) (b : Bool) (j : Nat), x = some (.lst (bs.map .bl)) ∧ y = some (.bl b) ∧ bs[j]? = some b ∧ (∀ m, m < j → bs[m]? ≠ some b) ∧ Q (.val (.int j))
def bmW (m : BM) (xs : List (Option D)) (Q : RV → Prop) : Prop :=
  match m, xs with
  | .upper, [some (.str s)] => s.length ≤ 5592405 ∧ (Txt.upper s).length ≤ line ∧ Q (.val (.str (Txt.upper s)))
  | .count, [x, y] => cntW x y Q
  | .join, [some (.str s), some (.lst ds)] => ∃ ts : List Str, ds = ts.map .str ∧ ((ts.map (·.length)).sum + ts.length * s.length ≤ line ∧ (Txt.join s ts).length ≤ line) ∧ Q (.val (.str (Txt.join s ts)))
  | .split, [some (.str a), some (.str b)] => (b.length == 0) = false ∧ (a.length + 2 ≤ line ∧ ∀ t ∈ Txt.split a b, t.length ≤ line) ∧ Q (.fr (.lst ((Txt.split a b).map .str)))
  | .part, [some (.str a), some (.str b)] => (b.length == 0) = false ∧ ((Txt.partition a b).1.length ≤ line ∧ (Txt.partition a b).2.1.length ≤ line ∧ (Txt.partition a b).2.2.length ≤ line ∧ a.length ≤ line) ∧ Q (.val (.tup [.str (Txt.partition a b).1, .str (Txt.partition a b).2.1, .str (Txt.partition a b).2.2]))
  | .index, [x, y] => idxW x y Q
  | _, _ => False
/-- one's own list changes, a value comes out -/
def lmW (m : LM) (xs : List D) (as : List (Option D)) (Q : D → List D → Prop) : Prop :=
  match m, as with
  | .append, [some d] => xs.length < line ∧ Q .non (xs ++ [d])
  | .insert, [some (.int i), some d] => (0 ≤ i ∧ i ≤ 1000000 ∧ xs.length < line) ∧ Q .non (xs.take i.toNat ++ [d] ++ xs.drop i.toNat)
  | .pop, [] => ∃ d, xs[xs.length - 1]? = some d ∧ Q d xs.dropLast
  | .popAt, [some (.int i)] => (-1000000 ≤ i ∧ i ≤ 1000000) ∧ ∃ k d, L2.ixN xs.length i = some k ∧ xs[k]? = some d ∧ Q d (xs.eraseIdx k)
  | .extend, [some (.lst ys)] => xs.length + ys.length ≤ line ∧ Q .non (xs ++ ys)
  | _, _ => False
/-- data that may be sorted: every place of one kind -/
def srtD (ds : List D) : Prop := flat 40 (.lst ds) = true ∧ PySem.W.AllAlike (ds.map toPy) ∧ PySem.W.Sortable (ds.map toPy)
def sortD (ds : List D) : List D := ds.mergeSort (PySem.W.dataLe false toPy)
def showD (d : D) : Str := PyData.shown (toPy d)
def biW (b : BI) (xs : List (Option D)) (Q : RV → Prop) : Prop :=
  match b, xs with
  | .len, [some (.lst ys)] => Q (.val (.int ys.length))
  | .len, [some (.tup ys)] => Q (.val (.int ys.length))
  | .len, [some (.str s)] => Q (.val (.int s.length))
  | .len, [some (.scr s)] => Q (.val (.int s.length))
  | .max2, [some (.int i), some (.int j)] => Q (.val (.int (if j > i then j else i)))
  | .min2, [some (.int i), some (.int j)] => Q (.val (.int (if j < i then j else i)))
  | .repr, [some d] => plainR d = true ∧ (toPy d).showable = true ∧ (toPy d).depth ≤ 60 ∧ (showD d).length ≤ line ∧ Q (.val (.str (showD d)))
  | .max1, [some (.lst ds)] => ∃ ns : List Int, ds = ns.map .int ∧ ns ≠ [] ∧ ∀ m, m ∈ ns → (∀ n ∈ ns, n ≤ m) → Q (.val (.int m))
  | .min1, [some (.lst ds)] => ∃ ns : List Int, ds = ns.map .int ∧ ns ≠ [] ∧ ∀ m, m ∈ ns → (∀ n ∈ ns, m ≤ n) → Q (.val (.int m))
  | .sum, [some (.lst ds)] => ∃ ns : List Int, ds = ns.map .int ∧ Q (.val (.int ns.sum))
  | .all, [some (.lst ds)] => ∃ bs : List Bool, ds = bs.map .bl ∧ Q (.val (.bl (bs.all id)))
  | .any, [some (.lst ds)] => ∃ bs : List Bool, ds = bs.map .bl ∧ Q (.val (.bl (bs.any id)))
  | .lst, [some (.lst ds)] => Q (.fr (.lst ds))
  | .lst, [some (.tup ds)] => Q (.fr (.lst ds))
  | .tup, [some (.lst ds)] => Q (.val (.tup ds))
  | .tup, [some (.tup ds)] => Q (.val (.tup ds))
  | .str, [some (.int i)] => i.natAbs.log2 < 1920 ∧ (toString i : Str).length ≤ line ∧ Q (.val (.str (toString i)))
  | .sorted, [some (.lst ds)] => (∃ ns : List Int, ds = ns.map .int ∧ ∀ ms : List Int, ms.Perm ns → ms.Pairwise (· ≤ ·) → Q (.fr (.lst (ms.map .int)))) ∨
      (∃ ns : List Str, ds = ns.map .str ∧ ns.length < 64 ∧ ∀ ms : List Str, ms.Perm ns → PyProof.Rows.sortedS ms = true → Q (.fr (.lst (ms.map .str)))) ∨
      (srtD ds ∧ Q (.fr (.lst (sortD ds))))
  | .int, [some (.int i)] => Q (.val (.int i))
  | .int, [some (.bl b)] => Q (.val (.int (if b = true then 1 else 0)))
  | _, _ => False

def key1 : D → Int
  | .tup (_ :: .int i :: _) => i
  | _ => 0
def has1 : D → Bool
  | .tup (_ :: .int _ :: _) => true
  | _ => false
def wAt (ws : List Int) (n : Int) : Int := ws.getD n.toNat 0
/-- sorted by a key; s: what a slot holds -/
def srkW (k : KF) (s : Nat → Option D) (x : Option D) (Q : RV → Prop) : Prop :=
  match k, x with
  | .at1, some (.lst ds) => ds.all has1 = true ∧ Q (.fr (.lst (ds.mergeSort fun a b => decide (key1 a ≤ key1 b))))
  | .wn w, some (.lst ds) => ∃ ns ws : List Int, ds = ns.map .int ∧ s w = some (.lst (ws.map .int)) ∧ (∀ n ∈ ns, 0 ≤ n ∧ n < ws.length) ∧
      Q (.fr (.lst ((ns.mergeSort fun a b => decide (wAt ws b < wAt ws a ∨ (wAt ws a = wAt ws b ∧ a ≤ b))).map .int)))
  | _, _ => False
/-- data that may be sorted, the least found -/
def ordD (ds : List D) : Prop := flat 50 (.lst ds) = true ∧ PySem.W.AlikeAll (ds.map toPy)
def leastD (ds : List D) (m : D) : Prop := match ds with
  | [] => False
  | y :: ys => toPy m = PySem.W.minD (toPy y) (ys.map toPy)
def rngL (j : Int) : List D := (List.range (j - 0).toNat).map fun (k : Nat) => .int (0 + k)
def xbW (k : XBK) (xs : List (Option D)) (Q : RV → Prop) : Prop :=
  match k, xs with
  | .lrng, [some (.int j)] => (-1000000 ≤ j ∧ j ≤ 1000000) ∧ Q (.fr (.lst (rngL j)))
  | .trng, [some (.int j)] => (-1000000 ≤ j ∧ j ≤ 1000000) ∧ Q (.val (.tup (rngL j)))
  | .sum2, [some (.lst ds), some (.int c)] => ∃ ns : List Int, ds = ns.map .int ∧ Q (.val (.int (c + ns.sum)))
  | .min0 d, [some (.lst ds)] => (ds = [] → Q (.val d)) ∧ (ds ≠ [] → ordD ds ∧ ∀ m ∈ ds, leastD ds m → Q (.val m))
  | _, _ => False
/-- op= of data that can't change -/
def augW (op : Operator) (a b : Option D) (Q : RV → Prop) : Prop :=
  match op, a, b with
  | .Add, some (.int i), some (.int j) => Q (.val (.int (i + j)))
  | .Add, some (.tup xs), some (.tup ys) => xs.length + ys.length ≤ line ∧ Q (.val (.tup (xs ++ ys)))
  | _, _, _ => False
/-! ### the meaning -/
/-- an operand by its tree -/
def opd (e : E) (w : Env → XP → PostE → Prop) (env : Env) (X : XP) (Q : PostO) : Prop :=
  match e with
  | .ref i => match env[i]? with
    | some (some _) => Q (.slot i) env
    | _ => False
  | _ => w env X fun r env' => Q (.d r.toD) env'
/-- the truth of an operand -/
def tru (env : Env) (o : Op) (Q : Bool → Env → Prop) : Prop := ∃ d b, res env o = some d ∧ truth d = some b ∧ Q b env

/-- operands that are data, all of them -/
def datas : List Op → Option (List D)
  | [] => some []
  | .d d :: r => (datas r).map fun ds => d :: ds
  | .slot _ :: _ => none
/-- what a call hands: data, or the content of a slot, lent -/
def handed (env : Env) : Op → Option EV
  | .d d => some (.val d)
  | .slot i => match env[i]? with
    | some (some (.own o)) => some (.bor o)
    | some (some (.bor o)) => some (.bor o)
    | some (some (.val d)) => some (.val d)
    | _ => none
def bindS (evs : List (Option EV)) : List (Sum Nat D) → Option (List EV)
  | [] => some []
  | .inl k :: r => match evs[k]? with
    | some (some v) => (bindS evs r).map fun t => v :: t
    | _ => none
  | .inr d :: r => (bindS evs r).map fun t => .val d :: t
/-- the slots that are lent, in the parameters' order -/
def lent (env : Env) (os : List Op) : List (Sum Nat D) → List Nat
  | [] => []
  | .inl k :: r => match os[k]? with
    | some (.slot i) => (match env[i]? with
      | some (some (.own _)) => i :: lent env os r
      | some (some (.bor _)) => i :: lent env os r
      | _ => lent env os r)
    | _ => lent env os r
  | .inr _ :: r => lent env os r
def EV.put (o : OV) : EV → EV
  | .bor _ => .bor o
  | _ => .own o
/-- the lent objects are back -/
def back (env : Env) : List Nat → List OV → Env
  | i :: is, o :: os => back (env.set i ((env[i]?.getD none).map fun v => v.put o)) is os
  | _, _ => env
/-- what is lent, as it is now -/
def bors : Env → List OV
  | [] => []
  | some (.bor o) :: r => o :: bors r
  | _ :: r => bors r
/-- all that one owns or was lent, lent on; its slots -/
def lendE : Env → Env
  | [] => []
  | some (.own o) :: r => some (.bor o) :: lendE r
  | x :: r => x :: lendE r
def ownsE (k : Nat) : Env → List Nat
  | [] => []
  | some (.own _) :: r => k :: ownsE (k + 1) r
  | some (.bor _) :: r => k :: ownsE (k + 1) r
  | _ :: r => ownsE (k + 1) r
/-- a name is stored; a lent one never -/
def setS (env : Env) (i : Nat) (v : EV) (Q : Env → Prop) : Prop :=
  match env[i]? with
  | some (some (.bor _)) => False
  | some _ => Q (env.set i (some v))
  | none => False
def setAll (env : Env) (is : List Nat) (rs : List RV) (Q : Env → Prop) : Prop :=
  match is, rs with
  | [], [] => Q env
  | i :: is, r :: rs => setS env i r.toEV fun env' => setAll env' is rs Q
  | _, _ => False
/-- one's own list at a slot is changed in place -/
def putW (env : Env) (i : Nat) (n : Int) (d : D) (Q : Env → Prop) : Prop :=
  match env[i]? with
  | some (some (.own (.lst xs))) => ∃ j, L2.ixN xs.length n = some j ∧ Q (env.set i (some (.own (.lst (xs.set j d)))))
  | some (some (.bor (.lst xs))) => ∃ j, L2.ixN xs.length n = some j ∧ Q (env.set i (some (.bor (.lst (xs.set j d)))))
  | _ => False
mutual
def asg (t : Tg) (d : D) (env : Env) (Q : Env → Prop) : Prop :=
  match t with
  | .nm i => setS env i (.val d) Q
  | .tp ts => match d with
    | .tup ds => ds.length = ts.length ∧ asgs ts ds env Q
    | _ => False
def asgs (ts : List Tg) (ds : List D) (env : Env) (Q : Env → Prop) : Prop :=
  match ts, ds with
  | [], [] => Q env
  | t :: ts, d :: ds => asg t d env fun env' => asgs ts ds env' Q
  | _, _ => False
end
/-- the names of a comprehension forgotten -/
def wipeE (env : Env) : List Nat → Env
  | [] => env
  | v :: vs => (wipeE env vs).set v none
/-- behind a comprehension the names of its own are as ahead -/
def unwipe (env0 env : Env) : List Nat → Env
  | [] => env
  | v :: vs => (unwipe env0 env vs).set v (env0[v]?.getD none)
def noOwn (env : Env) : List Nat → Bool
  | [] => true
  | v :: vs => (match env[v]? with
    | some (some (.own _)) => false
    | some (some (.bor _)) => false
    | _ => true) && noOwn env vs
/-- what is walked -/
def itemsD : D → Option (List D)
  | .lst xs => some xs
  | .tup xs => some xs
  | .str s => some (s.cps.toList.map fun c => .str ⟨#[c]⟩)
  | _ => none
def rngD (lo hi : Int) : List D := (List.range (hi - lo).toNat).map fun (k : Nat) => .int (lo + k)
def rngW (xs : List (Option D)) (Q : List D → Prop) : Prop :=
  match xs with
  | [some (.int j)] => (-1000000 ≤ j ∧ j ≤ 1000000) ∧ Q (rngD 0 j)
  | [some (.int i), some (.int j)] => (-1000000 ≤ i ∧ i ≤ 1000000 ∧ -1000000 ≤ j ∧ j ≤ 1000000) ∧ Q (rngD i j)
  | _ => False
def numbered : Nat → List D → List D
  | _, [] => []
  | n, d :: ds => .tup [.int n, d] :: numbered (n + 1) ds
def enmW (xs : Option (List D)) (Q : List D → Prop) : Prop :=
  match xs with
  | some [.lst ds] => Q (numbered 0 ds)
  | some [.tup ds] => Q (numbered 0 ds)
  | _ => False
def zipD : List D → List D → List D
  | x :: xs, y :: ys => .tup [x, y] :: zipD xs ys
  | _, _ => []
def zipD3 : List D → List D → List D → List D
  | x :: xs, y :: ys, z :: zs => .tup [x, y, z] :: zipD3 xs ys zs
  | _, _, _ => []
def zipW (xs : Option (List D)) (Q : List D → Prop) : Prop :=
  match xs with
  | some [.lst ds, .lst es] => Q (zipD ds es)
  | some [.tup ds, .tup es] => Q (zipD ds es)
  | some [.lst ds, .lst es, .lst fs] => Q (zipD3 ds es fs)
  | some [.tup ds, .tup es, .tup fs] => Q (zipD3 ds es fs)
  | _ => False
def rvdW (xs : Option (List D)) (Q : List D → Prop) : Prop :=
  match xs with
  | some [.lst ds] => Q ds.reverse
  | _ => False
/-- a comprehension's turns -/
def lcW (turn : D → Env → (Option D → Env → Prop) → Prop) (Q : List D → Env → Prop) : List D → List D → Env → Prop
  | [], acc, env => Q acc env
  | d :: ds, acc, env => turn d env fun r env' => lcW turn Q ds (match r with | some y => acc ++ [y] | none => acc) env'
/-- a list of one's own, by its slot -/
def lmAt (env : Env) (i : Nat) (Q : List D → (List D → Env) → Prop) : Prop :=
  match env[i]? with
  | some (some (.own (.lst xs))) => Q xs fun ys => env.set i (some (.own (.lst ys)))
  | some (some (.bor (.lst xs))) => Q xs fun ys => env.set i (some (.bor (.lst ys)))
  | _ => False
/-- an attribute of one's own instance is stored -/
def fputO (c f : Nat) (ds : List D) (d : D) : Option (List D) := (posA c f).bind fun k => if k < ds.length then some (ds.set k d) else if k = ds.length then some (ds ++ [d]) else none
def fputW (env : Env) (i f : Nat) (d : D) (Q : Env → Prop) : Prop :=
  match env[i]? with
  | some (some (.own (.ins c ds))) => ∃ es, fputO c f ds d = some es ∧ Q (env.set i (some (.own (.ins c es))))
  | some (some (.bor (.ins c ds))) => ∃ es, fputO c f ds d = some es ∧ Q (env.set i (some (.bor (.ins c es))))
  | _ => False
/-- what is wanted behind a statement -/
structure K where
  nx : Env → Prop
  rt : RV → Env → Prop
  bk : Env → Prop := fun _ => False
  ct : Env → Prop := fun _ => False
def forW (turn : D → Env → (Env → Prop) → Prop) (Q : Env → Prop) : List D → Env → Prop
  | [], env => Q env
  | d :: ds, env => turn d env fun env' => forW turn Q ds env'
def whileW (turn : Env → (Env → Prop) → Prop) : Nat → Env → Prop
  | 0, _ => False
  | n + 1, env => turn env fun env' => whileW turn n env'

/-- the text's defs and classes -/
structure Fns where
  f : Nat → Spec
  /-- the held exception -/
  hx : Option (Nat × Exn)
  /-- defs called with a held exception -/
  h : Nat → Nat → Exn → (RV → Prop) → Prop
/-- is one of class c0 of class c: 100 ValueError, 101 LookupError -/
def subX (c0 c : Nat) : Bool := if c = 100 then c0 != 1 else if c = 101 then c0 == 1 else if c = 0 then c0 != 1 else c0 == c
/-- what is told, in the law's words -/
def toldR : Bool → RV → RV
  | true, r => .val (.tup [.str "told", r.toD])
  | false, r => .fr (.lst [r.toD])
/-- an instance of class c -/
def isIns (c : Nat) : Option D → Bool
  | some (.ins c' _) => c' == c
  | _ => false
def opN (neg : Bool) : CmpOp := if neg = true then .NotEq else .Eq
/-- what is no instance -/
def isData : Option D → Bool
  | some (.ins _ _) | some (.fn _) | some (.scr _) | some (.exn _) | none => false
  | some (.dct w _ _) => !w
  | some _ => true
/-- an instance of class c, or what is no instance -/
def cmO (c : Nat) : Option D → Bool
  | some (.ins c' _) => c' == c
  | o => isData o
theorem cmO_ins {c : Nat} {o : Option D} (h : isIns c o = true) : cmO c o = true := by
  unfold isIns at h
  split at h
  · exact h
  · cases h
/-- an instance of class c with flat fields -/
def flatA : D → Bool
  | .non | .bl _ | .int _ | .str _ => true
  | _ => false
def flatI (c : Nat) : D → Bool
  | .ins c' fs => c' == c && fs.all flatA
  | _ => false
/-- two rows alike, item by item -/
def eqNs (T : D → D → Bool) : List D → List D → Bool
  | [], [] => true
  | x :: xs, y :: ys => T x y && eqNs T xs ys
  | _, _ => false
/-- the def f called with two operands, its truth -/
def ownC (Γ : Fns) (neg : Bool) (f : Nat) (X : XP) (R : Bool → Env → Prop) (x y : Op) (env : Env) : Prop :=
  ∃ vs, bindS [handed env x, handed env y] [.inl 0, .inl 1] = some vs ∧ (lent env [x, y] [.inl 0, .inl 1]).Nodup ∧
    Γ.f f vs (fun r outs => ∃ b, r = .val (.bl b) ∧ R (if neg = true then !b else b) (back env (lent env [x, y] [.inl 0, .inl 1]) outs)) (fun e outs => X e (back env (lent env [x, y] [.inl 0, .inl 1]) outs))
/-- == of an instance and another thing by the def f; of other data; of other data and an instance; of two tuples of instances -/
def ownW (Γ : Fns) (neg : Bool) (c f : Nat) (X : XP) (R : Bool → Env → Prop) (x y : Op) (env : Env) : Prop :=
  (isIns c (res env x) = true ∧ cmO c (res env y) = true ∧ ownC Γ neg f X R x y env) ∨
  cmpW (opN neg) (res env x) (res env y) (fun r => R r env) ∨
  (neg = false ∧ isData (res env x) = true ∧ isIns c (res env y) = true ∧ ownC Γ false f X R y x env) ∨
  ∃ (xs ys : List D) (T : D → D → Bool), res env x = some (.tup xs) ∧ res env y = some (.tup ys) ∧ (xs.all (flatI c) = true ∧ ys.all (flatI c) = true) ∧ (∀ a ∈ xs, T a a = true) ∧
    (∀ a ∈ xs, ∀ b ∈ ys, Γ.f f [.val a, .val b] (fun r _ => r = .val (.bl (T a b))) fun e _ => X e env) ∧ R (if neg = true then !eqNs T xs ys else eqNs T xs ys) env

/-- what a special method's answer must be -/
def spW : SP → RV → (RV → Prop) → Prop
  | .len, r, Q => ∃ n : Int, r = .val (.int n) ∧ (0 ≤ n ∧ n < 2 ^ 63) ∧ Q (.val (.int n))
  | _, r, Q => ∃ m : Str, r = .val (.str m) ∧ Q (.val (.str m))
mutual
def hasI : D → Bool
  | .ins _ _ => true
  | .tup ds => hasIs ds
  | _ => false
def hasIs : List D → Bool
  | [] => false
  | d :: ds => hasI d || hasIs ds
end
mutual
/-- tuples above an instance -/
def lev : D → Nat
  | .tup ds => if hasIs ds = true then levs ds + 1 else 0
  | _ => 0
def levs : List D → Nat
  | [] => 0
  | d :: ds => max (lev d) (levs ds)
end
mutual
/-- plain data, instances of a class, tuples of such -/
def nestD (c : Nat) : D → Bool
  | .ins c' _ => c' == c
  | .tup ds => nestDs c ds
  | d => plainR d
def nestDs (c : Nat) : List D → Bool
  | [] => true
  | d :: ds => nestD c d && nestDs c ds
end
mutual
/-- the text of such -/
def showN (T : D → Str) : D → Str
  | .ins c fs => T (.ins c fs)
  | .tup ds => if hasIs ds = true then tupleText (showNs T ds) else showD (.tup ds)
  | d => showD d
def showNs (T : D → Str) : List D → List Str
  | [] => []
  | d :: ds => showN T d :: showNs T ds
end
mutual
/-- the instances within -/
def insts : D → List D
  | .ins c fs => [.ins c fs]
  | .tup ds => instss ds
  | _ => []
def instss : List D → List D
  | [] => []
  | d :: ds => insts d ++ instss ds
end
mutual
/-- its plain parts may be shown -/
def nestS : D → Bool
  | .ins _ _ => true
  | .tup ds => if hasIs ds = true then nestSs ds else (toPy (.tup ds)).showable && decide ((toPy (.tup ds)).depth ≤ 60)
  | d => (toPy d).showable && decide ((toPy d).depth ≤ 60)
def nestSs : List D → Bool
  | [] => true
  | d :: ds => nestS d && nestSs ds
end
/-- repr of plain data, or of a tuple with instances of a class within, each by the def f -/
def nstW (Γ : Fns) (c f : Nat) (X : XP) (x : Option D) (Q : RV → Prop) (env : Env) : Prop :=
  (∃ d, x = some d ∧ (plainR d = true ∧ (toPy d).showable = true ∧ (toPy d).depth ≤ 60 ∧ (showD d).length ≤ line) ∧ Q (.val (.str (showD d)))) ∨
  ∃ (ds : List D) (T : D → Str), x = some (.tup ds) ∧ (nestD c (.tup ds) = true ∧ nestS (.tup ds) = true ∧ hasIs ds = true ∧ lev (.tup ds) ≤ 2 ∧ (showN T (.tup ds)).length ≤ line) ∧
    (∀ y ∈ insts (.tup ds), Γ.f f [.val y] (fun r _ => r = .val (.str (T y))) fun e _ => X e env) ∧ Q (.val (.str (showN T (.tup ds))))
def spcW (Γ : Fns) (k : SP) (c f : Nat) (X : XP) (R : PostE) (o : Op) (env : Env) : Prop :=
  isIns c (res env o) = true ∧ ∃ vs, bindS ([o].map (handed env)) [.inl 0] = some vs ∧ (lent env [o] [.inl 0]).Nodup ∧
    Γ.f f vs (fun r outs => spW k r fun r => R r (back env (lent env [o] [.inl 0]) outs)) (fun e outs => X e (back env (lent env [o] [.inl 0]) outs))

mutual
def wE (Γ : Fns) : E → Env → XP → PostE → Prop
  | .var i, env, _, Q => match env[i]? with
    | some (some (.val d)) => Q (.val d) env
    | some (some (.own o)) => Q (.val o.toD) (env.set i (some (.val o.toD)))
    | _ => False
  | .ref _, _, _, _ => False
  | .con d, env, _, Q => Q (.val d) env
  | .bin op a b, env, X, Q => opd a (wE Γ a) env X fun x env1 => opd b (wE Γ b) env1 X fun y env2 => binW op (res env2 x) (res env2 y) fun r => Q r env2
  | .neg a, env, X, Q => opd a (wE Γ a) env X fun x env1 => ∃ i, res env1 x = some (.int i) ∧ Q (.val (.int (-i))) env1
  | .cmp op a b, env, X, Q => opd a (wE Γ a) env X fun x env1 => opd b (wE Γ b) env1 X fun y env2 => cmpW op (res env2 x) (res env2 y) fun r => Q (.val (.bl r)) env2
  | .chn o1 o2 a b c, env, X, Q => opd a (wE Γ a) env X fun x env1 => opd b (wE Γ b) env1 X fun y env2 => cmpW o1 (res env2 x) (res env2 y) fun r =>
      if r = true then opd c (wE Γ c) env2 X fun z env3 => cmpW o2 (res env3 y) (res env3 z) fun r' => Q (.val (.bl r')) env3 else Q (.val (.bl false)) env2
  | .and a b, env, X, Q => wE Γ a env X fun r env1 => ∃ c, truth r.toD = some c ∧ if c = true then wE Γ b env1 X Q else Q r env1
  | .or a b, env, X, Q => wE Γ a env X fun r env1 => ∃ c, truth r.toD = some c ∧ if c = true then Q r env1 else wE Γ b env1 X Q
  | .not a, env, X, Q => opd a (wE Γ a) env X fun o env1 => ∃ d c, res env1 o = some d ∧ truth d = some c ∧ Q (.val (.bl (!c))) env1
  | .ite c a b, env, X, Q => wT Γ c env X fun k env1 => if k = true then wE Γ a env1 X Q else wE Γ b env1 X Q
  | .tup es, env, X, Q => wOs Γ es env X fun os env1 => ∃ ds, datas os = some ds ∧ Q (.val (.tup ds)) env1
  | .lst es, env, X, Q => wOs Γ es env X fun os env1 => ∃ ds, datas os = some ds ∧ Q (.fr (.lst ds)) env1
  | .sub a i, env, X, Q => opd a (wE Γ a) env X fun x env1 => opd i (wE Γ i) env1 X fun y env2 => ∃ dx dy r, res env2 x = some dx ∧ res env2 y = some dy ∧ atD dx dy = some r ∧ Q (.val r) env2
  | .slc a lo hi, env, X, Q => opd a (wE Γ a) env X fun x env1 => wO Γ lo env1 X fun l env2 => wO Γ hi env2 X fun h env3 => slcW (res env3 x) l h fun r => Q r env3
  | .rev a, env, X, Q => opd a (wE Γ a) env X fun x env1 => revW (res env1 x) fun r => Q r env1
  | .call f as src, env, X, Q => wOs Γ as env X fun os env1 => ∃ vs, bindS (os.map (handed env1)) src = some vs ∧ (lent env1 os src).Nodup ∧
      Γ.f f vs (fun r outs => Q r (back env1 (lent env1 os src) outs)) (fun x outs => X x (back env1 (lent env1 os src) outs))
  | .make c f as src, env, X, Q => wOs Γ as env X fun os env1 => ∃ vs, bindS (os.map (handed env1)) src = some vs ∧ (lent env1 os src).Nodup ∧
      Γ.f f (.bor (.ins c []) :: vs) (fun r outs => r = .val .non ∧ ∃ ds rest, outs = .ins c ds :: rest ∧ Q (.fr (.ins c ds)) (back env1 (lent env1 os src) rest)) (fun x outs => X x (back env1 (lent env1 os src) outs.tail))
  | .meth c f a as src, env, X, Q => opd a (wE Γ a) env X fun o env0 => ∃ fs, res env0 o = some (.ins c fs) ∧ wOs Γ as env0 X fun os env1 => ∃ vs, bindS ((o :: os).map (handed env1)) src = some vs ∧ (lent env1 (o :: os) src).Nodup ∧
      Γ.f f vs (fun r outs => Q r (back env1 (lent env1 (o :: os) src) outs)) (fun x outs => X x (back env1 (lent env1 (o :: os) src) outs))
  | .cv i fs as, env, X, Q => ∃ f, env[i]? = some (some (.val (.fn f))) ∧ f ∈ fs ∧ wOs Γ as env X fun os env1 => ∃ vs, bindS (os.map (handed env1)) (idSrc as.length) = some vs ∧ (lent env1 os (idSrc as.length)).Nodup ∧
      Γ.f f vs (fun r outs => Q r (back env1 (lent env1 os (idSrc as.length)) outs)) (fun x outs => X x (back env1 (lent env1 os (idSrc as.length)) outs))
  | .bm m a as, env, X, Q => opd a (wE Γ a) env X fun o env0 => ∃ d, res env0 o = some d ∧ bmTy m d = true ∧ wOs Γ as env0 X fun os env1 => bmW m ((o :: os).map (res env1)) fun r => Q r env1
  | .dsp ks ds, env, _, Q => Q (.val (.dct false ks ds)) env
  | .fst as, env, X, Q => wF Γ as Str.empty env X fun s env1 => Q (.val (.str s)) env1
  | .bi b as, env, X, Q => wOs Γ as env X fun os env1 => biW b (os.map (res env1)) fun r => Q r env1
  | .xb k as, env, X, Q => wOs Γ as env X fun os env1 => xbW k (os.map (res env1)) fun r => Q r env1
  | .own neg c f a b, env, X, Q => opd a (wE Γ a) env X fun x env1 => opd b (wE Γ b) env1 X fun y env2 => ownW Γ neg c f X (fun r env3 => Q (.val (.bl r)) env3) x y env2
  | .spc k c f a, env, X, Q => opd a (wE Γ a) env X fun o env1 => spcW Γ k c f X Q o env1
  | .hot (.said v f) a, env, _, Q => wE Γ a (lendE env) (fun x env' => (2 ≤ x.c ∧ x.c ≤ 17 ∧ x.fs = []) ∧ ∀ ad, Γ.h f ad x fun r => Q r (back env (ownsE 0 env) (bors env'))) fun r env' => Q (toldR v r) (back env (ownsE 0 env) (bors env'))
  | .hot (.nst c f) a, env, X, Q => opd a (wE Γ a) env X fun o env1 => nstW Γ c f X (res env1 o) (fun r => Q r env1) env1
  | .hot (.isx c) a, env, X, Q => opd a (wE Γ a) env X fun o env1 => ∃ ad x, res env1 o = some (.exn ad) ∧ Γ.hx = some (ad, x) ∧ Q (.val (.bl (subX x.c c))) env1
  | .hot (.xf c k) a, env, X, Q => opd a (wE Γ a) env X fun o env1 => ∃ ad x d, res env1 o = some (.exn ad) ∧ Γ.hx = some (ad, x) ∧ x.c = c ∧ x.fs[k]? = some d ∧ Q (.val d) env1
  | .hot (.hc f) a, env, X, Q => opd a (wE Γ a) env X fun o env1 => ∃ ad x, res env1 o = some (.exn ad) ∧ Γ.hx = some (ad, x) ∧ Γ.h f ad x fun r => Q r env1
  | .srk k a, env, X, Q => opd a (wE Γ a) env X fun x env1 => srkW k (fun i => res env1 (.slot i)) (res env1 x) fun r => Q r env1
  | .isi a t, env, X, Q => opd a (wE Γ a) env X fun x env1 => ∃ d, res env1 x = some d ∧ tyOk d = true ∧ Q (.val (.bl (tyD t d))) env1
  | .fld a f, env, X, Q => opd a (wE Γ a) env X fun x env1 => ∃ c fs k d, res env1 x = some (.ins c fs) ∧ posA c f = some k ∧ fs[k]? = some d ∧ Q (.val d) env1
  | .lm m i as, env, X, Q => lmAt env i (fun _ _ => True) ∧ wOs Γ as env X fun os env1 => ∃ ds, datas os = some ds ∧ lmAt env1 i fun xs put => lmW m xs (ds.map some) fun d ys => Q (.val d) (put ys)
  | .lc elt t it cond own, env, X, Q => wI Γ it env X fun ds env1 => noOwn env1 own = true ∧
      lcW (fun d env2 R => asg t d env2 fun env3 => wT Γ cond env3 (fun _ _ => False) fun b env4 =>
          if b = true then wE Γ elt env4 (fun _ _ => False) fun r env5 => R (some r.toD) (wipeE env5 own) else R none (wipeE env4 own))
        (fun acc env6 => Q (.fr (.lst acc)) (unwipe env1 env6 own)) ds [] (wipeE env1 own)
def wF (Γ : Fns) : List E → Str → Env → XP → (Str → Env → Prop) → Prop
  | [], acc, env, _, Q => Q acc env
  | e :: es, acc, env, X, Q => opd e (wE Γ e) env X fun o env1 => ∃ d s, res env1 o = some d ∧ fstD d = some s ∧ (acc ++ s).length ≤ line ∧ wF Γ es (acc ++ s) env1 X Q
def wO (Γ : Fns) : O → Env → XP → (Option Int → Env → Prop) → Prop
  | .no, env, _, Q => Q none env
  | .at e, env, X, Q => opd e (wE Γ e) env X fun x env1 => ∃ i, res env1 x = some (.int i) ∧ Q (some i) env1
def wT (Γ : Fns) : T → Env → XP → (Bool → Env → Prop) → Prop
  | .yes, env, _, Q => Q true env
  | .tv e, env, X, Q => opd e (wE Γ e) env X fun o env1 => tru env1 o Q
  | .and a b, env, X, Q => wT Γ a env X fun c env1 => if c = true then wT Γ b env1 X Q else Q false env1
  | .or a b, env, X, Q => wT Γ a env X fun c env1 => if c = true then Q true env1 else wT Γ b env1 X Q
  | .not a, env, X, Q => wT Γ a env X fun c env1 => Q (!c) env1
  | .cmp op a b, env, X, Q => opd a (wE Γ a) env X fun x env1 => opd b (wE Γ b) env1 X fun y env2 => cmpW op (res env2 x) (res env2 y) fun r => Q r env2
  | .own neg c f a b, env, X, Q => opd a (wE Γ a) env X fun x env1 => opd b (wE Γ b) env1 X fun y env2 => ownW Γ neg c f X Q x y env2
  | .chn o1 o2 a b c, env, X, Q => opd a (wE Γ a) env X fun x env1 => opd b (wE Γ b) env1 X fun y env2 => cmpW o1 (res env2 x) (res env2 y) fun r =>
      if r = true then opd c (wE Γ c) env2 X fun z env3 => cmpW o2 (res env3 y) (res env3 z) fun r' => Q r' env3 else Q false env2
def wI (Γ : Fns) : I → Env → XP → (List D → Env → Prop) → Prop
  | .it e, env, X, Q => wE Γ e env X fun r env1 => ∃ ds, itemsD r.toD = some ds ∧ Q ds env1
  | .rng es, env, X, Q => wOs Γ es env X fun os env1 => rngW (os.map (res env1)) fun ds => Q ds env1
  | .enm es, env, X, Q => wOs Γ es env X fun os env1 => enmW (datas os) fun ds => ds.length ≤ line ∧ Q ds env1
  | .zip es, env, X, Q => wOs Γ es env X fun os env1 => zipW (datas os) fun ds => ds.length ≤ line ∧ Q ds env1
  | .rvd es, env, X, Q => wOs Γ es env X fun os env1 => rvdW (datas os) fun ds => ds.length ≤ line ∧ Q ds env1
def wOs (Γ : Fns) : List E → Env → XP → PostOs → Prop
  | [], env, _, Q => Q [] env
  | e :: es, env, X, Q => opd e (wE Γ e) env X fun o env1 => wOs Γ es env1 X fun os env2 => Q (o :: os) env2
end
/-- several answers, none of them frozen -/
def wRs (Γ : Fns) : List E → Env → XP → (List RV → Env → Prop) → Prop
  | [], env, _, Q => Q [] env
  | e :: es, env, X, Q => wE Γ e env X fun r env1 => wRs Γ es env1 X fun rs env2 => Q (r :: rs) env2
mutual
def wS (Γ : Fns) : S → Env → XP → K → Prop
  | .asg i e, env, X, k => wE Γ e env X fun r env1 => setS env1 i r.toEV k.nx
  | .asgT t e, env, X, k => wE Γ e env X fun r env1 => asg t r.toD env1 k.nx
  | .par is es, env, X, k => wRs Γ es env X fun rs env1 => setAll env1 is rs k.nx
  | .put i ix e, env, X, k => wE Γ e env X fun r env1 => match env1[i]? with
    | some (some _) => opd ix (wE Γ ix) env1 X fun x env2 => (match res env2 x with
      | some (.int n) => putW env2 i n r.toD k.nx
      | _ => False)
    | _ => False
  | .ex e, env, X, k => wE Γ e env X fun _ env1 => k.nx env1
  | .fput i f e, env, X, k => wE Γ e env X fun r env1 => fputW env1 i f r.toD k.nx
  | .aug i op e, env, X, k => ∃ a, res env (.slot i) = some a ∧ (∃ d, env[i]? = some (some (.val d))) ∧ opd e (wE Γ e) env X fun x env1 => (env1[i]? = env[i]?) ∧ augW op (some a) (res env1 x) fun r => setS env1 i r.toEV k.nx
  | .ret (.var i), env, _, k => match env[i]? with
    | some (some (.val d)) => k.rt (.val d) env
    | some (some (.own o)) => k.rt (.fr o) (env.set i none)
    | _ => False
  | .ret e, env, X, k => wE Γ e env X k.rt
  | .retN, env, _, k => k.rt (.val .non) env
  | .ite c a b, env, X, k => wT Γ c env X fun b' env1 => if b' = true then wSs Γ a env1 X k else wSs Γ b env1 X k
  | .for_ t it body, env, X, k => wI Γ it env X fun ds env1 =>
      forW (fun d env2 R => asg t d env2 fun env3 => wSs Γ body env3 X { k with nx := R, ct := R, bk := k.nx }) k.nx ds env1
  | .while_ c body, env, X, k => ∃ n, whileW (fun env2 R => wT Γ c env2 X fun b env3 => if b = true then wSs Γ body env3 X { k with nx := R, ct := R, bk := k.nx } else k.nx env3) n env
  | .brk, env, _, k => k.bk env
  | .cnt, env, _, k => k.ct env
  | .pass, env, _, k => k.nx env
  | .raise c, env, X, _ => X ⟨c, []⟩ env
  | .bad, _, _, _ => False
def wSs (Γ : Fns) : List S → Env → XP → K → Prop
  | [], env, _, k => k.nx env
  | s :: ss, env, X, k => wS Γ s env X { k with nx := fun env1 => wSs Γ ss env1 X k }
end
/-- a def: its names by slot, parameters first, its body -/
structure FD where
  np : Nat
  ns : Nat
  body : List S
structure Text where
  fds : List (Nat × FD)
def Text.at (t : Text) (f : Nat) : Option FD := t.fds.lookup f
/-- the meaning of defs called with a held exception -/
def Wh (t : Text) : Nat → Nat → Nat → Exn → (RV → Prop) → Prop
  | 0, _, _, _, _ => False
  | n + 1, f, ad, x, R => match t.at f with
    | none => False
    | some fd => fd.np = 1 ∧ wSs ⟨fun _ _ _ _ => False, some (ad, x), Wh t n⟩ fd.body (some (.val (.exn ad)) :: List.replicate (fd.ns - 1) none) (fun _ _ => False) { nx := fun _ => R (.val .non), rt := fun r _ => R r }
/-- THE MEANING of the text's defs, calls at most n deep -/
def W (t : Text) : Nat → Nat → Spec
  | 0, _, _, _, _ => False
  | n + 1, f, as, Q, X => match t.at f with
    | none => False
    | some fd => as.length = fd.np ∧ wSs ⟨W t n, none, Wh t n⟩ fd.body (as.map some ++ List.replicate (fd.ns - fd.np) none) (fun x env => X x (bors env))
        { nx := fun env => Q (.val .non) (bors env), rt := fun r env => Q r (bors env) }
end G
/-! A1: how data lies in a heap; what an environment says of the slots and the heap. -/
namespace G
open PySem PySem.Spec L2

/-- where the text's things stand -/
structure Lay where
  K : PySem.W.Frag
  w : World
  cls : Nat → Addr
  fn : Nat → Addr
  xc : Nat → Addr
  /-- the classes that are known -/
  kc : Nat → Bool
  /-- code objects that make lambdas, their tables, the lambdas' name -/
  C : List (Addr × Addr × Str)
/-- the code objects' tables, by name -/
def Lay.T (L : Lay) : List (Addr × Str) := L.C.map (·.2)
/-- a dict stands at a: one of the heap's, or a written one with text keys -/
def DctAt (L : Lay) (F : Hp) (w : Bool) (a : Addr) (ks : List Key) (ws : List V) : Prop :=
  ks.length = ws.length ∧ (w = false ∧ F a = some (.dK (ks.zip ws)) ∨ w = true ∧ ∃ es n, KDict L.K L.w a es n ∧
    (∀ (z : Str), Sum.inr z ∉ ks → PySem.W.nsIn L.K a z = some none) ∧ ∀ (i : Nat) (k : Key) (v : V), ks[i]? = some k → ws[i]? = some v → ∃ z u, k = .inr z ∧ PySem.W.nsIn L.K a z = some (some u) ∧ RelV v u)

mutual
def Rep (L : Lay) (F : Hp) : D → V → Prop
  | .non, v => v = .non
  | .bl b, v => v = .bl b
  | .int i, v => v = .int i
  | .str s, v => v = .str s ∧ s.length ≤ line
  | .tup ds, v => ∃ a vs, v = .ref a ∧ SqT L.K F a vs ∧ Reps L F ds vs
  | .lst ds, v => ∃ a vs, v = .ref a ∧ F a = some (.lst vs) ∧ Reps L F ds vs
  | .dct w ks ds, v => ∃ a ws, v = .ref a ∧ DctAt L F w a ks ws ∧ Reps L F ds ws
  | .ins c ds, v => ∃ a dx fvs vs, v = .ref a ∧ F a = some (.ins (L.cls c) dx fvs) ∧ fvs = (clsNm c).zip vs ∧ (vs.length ≤ (clsNm c).length ∧ L.kc c = true) ∧ Reps L F ds vs
  | .fn f, v => v = .ref (L.fn f)
  | .scr ns, v => ∃ a, v = .ref a ∧ SqL L.K F a (ns.map V.int)
  | .exn a, v => v = .ref a
def Reps (L : Lay) (F : Hp) : List D → List V → Prop
  | [], vs => vs = []
  | d :: ds, vs => ∃ v r, vs = v :: r ∧ Rep L F d v ∧ Reps L F ds r
end
def LeH (F H : Hp) : Prop := ∀ a o, F a = some o → H a = some o
theorem LeH.refl (F : Hp) : LeH F F := fun _ _ h => h
theorem LeH.trans {F G H : Hp} (a : LeH F G) (b : LeH G H) : LeH F H := fun c o h => b c o (a c o h)
theorem LeH.upd {F : Hp} {p : Addr} {o : HO} (h : F p = none) : LeH F (upd F p o) := fun a u e => by rw [upd_ne (ne_of_none e h)]; exact e
theorem sqT_mono {K : PySem.W.Frag} {F H : Hp} (m : LeH F H) {a : Addr} {vs : List V} (h : SqT K F a vs) : SqT K H a vs := by
  rcases h with (h | ⟨o, h⟩) | h
  · exact .inl (.inl (m _ _ h))
  · exact .inl (.inr ⟨o, m _ _ h⟩)
  · exact .inr h
theorem sqL_mono {K : PySem.W.Frag} {F H : Hp} (m : LeH F H) {a : Addr} {vs : List V} (h : SqL K F a vs) : SqL K H a vs := by
  rcases h with (h | ⟨o, h⟩) | h
  · exact .inl (.inl (m _ _ h))
  · exact .inl (.inr ⟨o, m _ _ h⟩)
  · exact .inr h
theorem dctAt_mono {L : Lay} {F H : Hp} (m : LeH F H) {w : Bool} {a : Addr} {ks : List Key} {ws : List V} (h : DctAt L F w a ks ws) : DctAt L H w a ks ws := ⟨h.1, h.2.imp (fun q => ⟨q.1, m _ _ q.2⟩) id⟩
mutual
theorem Rep.mono {L : Lay} {F H : Hp} (m : LeH F H) : ∀ (d : D) (v : V), Rep L F d v → Rep L H d v
  | .non, _, h => h
  | .bl _, _, h => h
  | .int _, _, h => h
  | .str _, _, h => h
  | .tup ds, v, ⟨a, vs, e, s, r⟩ => ⟨a, vs, e, sqT_mono m s, Reps.mono m ds vs r⟩
  | .lst ds, v, ⟨a, vs, e, s, r⟩ => ⟨a, vs, e, m _ _ s, Reps.mono m ds vs r⟩
  | .dct w ks ds, v, ⟨a, ws, e, s, r⟩ => ⟨a, ws, e, dctAt_mono m s, Reps.mono m ds ws r⟩
  | .ins c ds, v, ⟨a, dx, fvs, vs, e, s, z, l, r⟩ => ⟨a, dx, fvs, vs, e, m _ _ s, z, l, Reps.mono m ds vs r⟩
  | .fn _, _, h => h
  | .scr _, _, ⟨a, e, s⟩ => ⟨a, e, sqL_mono m s⟩
  | .exn _, _, h => h
theorem Reps.mono {L : Lay} {F H : Hp} (m : LeH F H) : ∀ (ds : List D) (vs : List V), Reps L F ds vs → Reps L H ds vs
  | [], _, h => h
  | d :: ds, _, ⟨v, r, e, h1, h2⟩ => ⟨v, r, e, Rep.mono m d v h1, Reps.mono m ds r h2⟩
end
theorem Reps.length {L : Lay} {F : Hp} : ∀ {ds : List D} {vs : List V}, Reps L F ds vs → vs.length = ds.length
  | [], _, h => by rw [show _ = ([] : List V) from h]; rfl
  | _ :: _, _, ⟨_, _, e, _, h⟩ => by rw [e, List.length_cons, List.length_cons, Reps.length h]
theorem Reps.get {L : Lay} {F : Hp} : ∀ {ds : List D} {vs : List V} {i : Nat} {d : D}, Reps L F ds vs → ds[i]? = some d → ∃ v, vs[i]? = some v ∧ Rep L F d v
  | [], _, _, _, _, e => by simp at e
  | _ :: _, _, 0, _, ⟨v, r, e, h1, _⟩, q => by simp at q; subst q; subst e; exact ⟨v, rfl, h1⟩
  | _ :: ds, _, i + 1, _, ⟨v, r, e, _, h⟩, q => by
    subst e
    obtain ⟨w, h1, h2⟩ := Reps.get (i := i) h (by simpa using q)
    exact ⟨w, by simpa using h1, h2⟩
theorem Reps.append {L : Lay} {F : Hp} : ∀ {ds es : List D} {vs ws : List V}, Reps L F ds vs → Reps L F es ws → Reps L F (ds ++ es) (vs ++ ws)
  | [], _, _, _, h, k => by rw [show _ = ([] : List V) from h]; exact k
  | _ :: _, _, _, _, ⟨v, r, e, h1, h⟩, k => by subst e; exact ⟨v, r ++ _, rfl, h1, Reps.append h k⟩
theorem Reps.set {L : Lay} {F : Hp} {d : D} {v : V} (q : Rep L F d v) : ∀ {ds : List D} {vs : List V} (i : Nat), Reps L F ds vs → Reps L F (ds.set i d) (vs.set i v)
  | [], _, _, h => by rw [show _ = ([] : List V) from h]; rfl
  | _ :: _, _, 0, ⟨_, r, e, _, h⟩ => by subst e; exact ⟨v, r, rfl, q, h⟩
  | _ :: _, _, i + 1, ⟨w, r, e, h1, h⟩ => by subst e; exact ⟨w, r.set i v, rfl, h1, Reps.set q i h⟩

/-- neither a table nor a code object -/
def PlainO (o : HO) : Prop := (∀ ps, o ≠ .tbl ps) ∧ ∀ c q, o ≠ LamX.CodeO c q
theorem plain_lst {vs : List V}   : PlainO (.lst vs) := ⟨fun _ z => (nomatch z), fun c q z => by unfold LamX.CodeO at z; cases z⟩
theorem plain_ins {C d : Addr} {fs : List (Str × V)}   : PlainO (.ins C d fs) := ⟨fun _ z => (nomatch z), fun c q z => by unfold LamX.CodeO at z; cases z⟩
/-- an object of one's own at p: not in the part that never changes -/
def OwnAt (L : Lay) (F H : Hp) (p : Addr) : OV → Prop
  | .lst ds => F p = none ∧ ∃ vs, H p = some (.lst vs) ∧ Reps L F ds vs
  | .ins c ds => F p = none ∧ ∃ dx vs, H p = some (.ins (L.cls c) dx ((clsNm c).zip vs)) ∧ (vs.length ≤ (clsNm c).length ∧ L.kc c = true) ∧ Reps L F ds vs
theorem OwnAt.none {L : Lay} {F H : Hp} {p : Addr} : ∀ {o : OV}, OwnAt L F H p o → F p = Option.none
  | .lst _, h => h.1
  | .ins _ _, h => h.1
theorem OwnAt.there {L : Lay} {F H : Hp} {p : Addr} : ∀ {o : OV}, OwnAt L F H p o → ∃ u, H p = some u
  | .lst _, ⟨_, _, h, _⟩ => ⟨_, h⟩
  | .ins _ _, ⟨_, _, _, h, _⟩ => ⟨_, h⟩
theorem OwnAt.plain {L : Lay} {F H : Hp} {p : Addr} {u : HO} (hu : H p = some u) : ∀ {o : OV}, OwnAt L F H p o → PlainO u
  | .lst _, ⟨_, _, h, _⟩ => by rw [h] at hu; cases hu; exact plain_lst
  | .ins _ _, ⟨_, _, _, h, _⟩ => by rw [h] at hu; cases hu; exact plain_ins
theorem OwnAt.step {L : Lay} {F F' H H' : Hp} {p : Addr} (m : LeH F F') (hp : F' p = Option.none) (hH : ∀ u, H p = some u → H' p = some u) : ∀ {o : OV}, OwnAt L F H p o → OwnAt L F' H' p o
  | .lst _, ⟨_, vs, h, r⟩ => ⟨hp, vs, hH _ h, Reps.mono m _ _ r⟩
  | .ins _ _, ⟨_, dx, vs, h, l, r⟩ => ⟨hp, dx, vs, hH _ h, l, Reps.mono m _ _ r⟩
/-- read as data, as it is now -/
theorem OwnAt.rep {L : Lay} {F H G : Hp} {p : Addr} (m : LeH F G) (hG : ∀ u, H p = some u → G p = some u) : ∀ {o : OV}, OwnAt L F H p o → Rep L G o.toD (.ref p)
  | .lst _, ⟨_, vs, h, r⟩ => ⟨p, vs, rfl, hG _ h, Reps.mono m _ _ r⟩
  | .ins _ _, ⟨_, dx, vs, h, l, r⟩ => ⟨p, dx, _, vs, rfl, hG _ h, rfl, l, Reps.mono m _ _ r⟩

/-- what stays the same through a def's body: where things stand, what others own, the slots that are lent and where these stand, the part that never changes, at the entry -/
structure PP where
  L : Lay
  O : Hp
  B : Nat → Addr
  isB : Nat → Bool
  F0 : Hp
def ownish : Option (Option EV) → Option OV
  | some (some (.own o)) => some o
  | some (some (.bor o)) => some o
  | _ => none
/-- the tables of code objects stand, apart from all else -/
structure TabOk (T : List (Addr × Str)) (O F H : Hp) : Prop where
  tabs : LamX.Tabs T H
  nf : ∀ a ps, F a ≠ some (.tbl ps)
  no : ∀ a ps, O a ≠ some (.tbl ps)
section
variable {T : List (Addr × Str)} {O F H H' : Hp} {p : Addr} {o o' : HO}
theorem TabOk.grow (t : TabOk T O F H) (k : ∀ a o, H a = some o → H' a = some o) : TabOk T O F H' := ⟨t.tabs.ext k, t.nf, t.no⟩
theorem TabOk.frz (t : TabOk T O F H) (h : ∀ ps, o ≠ .tbl ps) : TabOk T O (upd F p o) H := ⟨t.tabs, fun a ps z => by
  by_cases e : a = p
  · subst e; rw [upd_same] at z; exact h ps (Option.some.inj z)
  · rw [upd_ne e] at z; exact t.nf a ps z, t.no⟩
theorem TabOk.own (t : TabOk T O F H) (hp : H p = some o) (h : PlainO o) : TabOk T O F (upd H p o') := ⟨fun q hq => by
  obtain ⟨ps, h1, h2, h3⟩ := t.tabs q hq
  refine ⟨ps, by rw [upd_ne (fun z => by rw [z, hp] at h1; exact h.1 ps (Option.some.inj h1))]; exact h1, h2, fun pos cv e => ?_⟩
  obtain ⟨c, e1, e2⟩ := h3 pos cv e
  exact ⟨c, e1, by rw [upd_ne (fun z => by rw [z, hp] at e2; exact h.2 _ _ (Option.some.inj e2))]; exact e2⟩, t.nf, t.no⟩
theorem TabOk.step {F2 : Hp} (t : TabOk T O F H) (k : ∀ a o, H a = some o → H' a = some o) (nf : ∀ a ps, F2 a = some (.tbl ps) → F a = some (.tbl ps)) : TabOk T O F2 H' := ⟨t.tabs.ext k, fun a ps z => t.nf a ps (nf a ps z), t.no⟩
theorem TabOk.lend (t : TabOk T O F H) (h : ∀ ps, o ≠ .tbl ps) : TabOk T (upd O p o) F H := ⟨t.tabs, t.nf, fun a ps z => by
  by_cases e : a = p
  · subst e; rw [upd_same] at z; exact h ps (Option.some.inj z)
  · rw [upd_ne e] at z; exact t.no a ps z⟩
theorem TabOk.unlend (t : TabOk T (upd O p o) F H) (h : O p = none) : TabOk T O F H := ⟨t.tabs, t.nf, fun a ps z => t.no a ps (by
  by_cases e : a = p
  · subst e; rw [h] at z; cases z
  · rw [upd_ne e]; exact z)⟩
theorem TabOk.growN (t : TabOk T O F H) (ht : LamX.Tabs T H') : TabOk T O F H' := ⟨ht, t.nf, t.no⟩
end
/-- A tells where each slot's own object stands -/
structure ER (P : PP) (A : Nat → Addr) (σ : St) (H : Hp) (env : Env) (F : Hp) : Prop where
  sub : LeH F H
  le0 : LeH P.F0 F
  fr : ∀ a o, P.O a = some o → H a = some o ∧ F a = none
  len : env.length = σ.length
  val : ∀ (i : Nat) (d : D), env[i]? = some (some (.val d)) → ∃ v, σ[i]? = some (some v) ∧ Rep P.L F d v
  own : ∀ (i : Nat) (o : OV), ownish env[i]? = some o → σ[i]? = some (some (.ref (A i))) ∧ OwnAt P.L F H (A i) o ∧ P.O (A i) = none
  ne : ∀ (i j : Nat) (o u : OV), ownish env[i]? = some o → ownish env[j]? = some u → i ≠ j → A i ≠ A j
  bor : ∀ (i : Nat) (o : OV), env[i]? = some (some (.bor o)) → A i = P.B i
  isb : ∀ (i : Nat), P.isB i = true ↔ ∃ o : OV, env[i]? = some (some (.bor o))
  tb : TabOk P.L.T P.O F H
def EX (P : PP) (σ : St) (H : Hp) (env : Env) (F : Hp) : Prop := ∃ A, ER P A σ H env F
/-- .. and an answer -/
def RVr (P : PP) (A : Nat → Addr) (H : Hp) (env : Env) (F : Hp) (v : V) : RV → Prop
  | .val d => Rep P.L F d v
  | .fr o => ∃ p, v = .ref p ∧ OwnAt P.L F H p o ∧ P.O p = none ∧ ∀ (i : Nat) (u : OV), ownish env[i]? = some u → A i ≠ p
def EXv (P : PP) (σ : St) (H : Hp) (env : Env) (F : Hp) (v : V) (r : RV) : Prop := ∃ A, ER P A σ H env F ∧ RVr P A H env F v r

theorem ownish_val {d : D} : ownish (some (some (.val d))) = none := rfl
theorem ownish_some {x : Option (Option EV)} {o : OV} (h : ownish x = some o) : x = some (some (.own o)) ∨ x = some (some (.bor o)) := by
  cases x with
  | none => cases h
  | some y => cases y with
    | none => cases h
    | some z => cases z with
      | val d => cases h
      | own u => cases h; exact .inl rfl
      | bor u => cases h; exact .inr rfl
theorem get_set_self {env : Env} {i : Nat} {x y : Option EV} (h : env[i]? = some y) : (env.set i x)[i]? = some x := List.getElem?_set_self (List.getElem?_eq_some_iff.mp h).1
theorem get_set_ne {env : Env} {i j : Nat} {x : Option EV} (h : i ≠ j) : (env.set i x)[j]? = env[j]? := List.getElem?_set_ne h
section
variable {P : PP} {A : Nat → Addr} {σ : St} {H H' : Hp} {env : Env} {F F' : Hp}
/-- a slot's own object is frozen: from now on it never changes -/
theorem ER.freeze (e : ER P A σ H env F) {i : Nat} {o : OV} (h : env[i]? = some (some (.own o))) :
    ∃ F', LeH F F' ∧ Rep P.L F' o.toD (.ref (A i)) ∧ ER P A σ H (env.set i (some (.val o.toD))) F' := by
  have ho : ownish env[i]? = some o := by rw [h]; rfl
  obtain ⟨hs, hO, hPO⟩ := e.own i o ho
  obtain ⟨u, hu⟩ := hO.there
  have hF := hO.none
  have m : LeH F (upd F (A i) u) := LeH.upd hF
  have rp : Rep P.L (upd F (A i) u) o.toD (.ref (A i)) := hO.rep m fun w hw => by rw [hu] at hw; cases hw; exact upd_same
  have own' : ∀ (j : Nat) (w : OV), ownish (env.set i (some (.val o.toD)))[j]? = some w → i ≠ j ∧ ownish env[j]? = some w := fun j w q => by
    by_cases ij : i = j
    · subst ij
      rw [get_set_self h] at q
      cases q
    · rw [get_set_ne ij] at q
      exact ⟨ij, q⟩
  refine ⟨upd F (A i) u, m, rp, ⟨fun a w q => ?_, e.le0.trans m, fun a w q => ?_, by rw [List.length_set]; exact e.len, fun j d q => ?_, fun j w q => ?_, fun j k w z q1 q2 n => ?_, fun j w q => ?_, fun j => ?_, e.tb.frz (hO.plain hu).1⟩⟩
  · by_cases ha : a = A i
    · subst ha
      rw [upd_same] at q
      cases q
      exact hu
    · rw [upd_ne ha] at q
      exact e.sub a w q
  · have na : a ≠ A i := fun z => by rw [z, hPO] at q; cases q
    rw [upd_ne na]
    exact e.fr a w q
  · by_cases ij : i = j
    · subst ij
      rw [get_set_self h] at q
      cases q
      exact ⟨_, hs, rp⟩
    · rw [get_set_ne ij] at q
      obtain ⟨v, h1, h2⟩ := e.val j d q
      exact ⟨v, h1, Rep.mono m _ _ h2⟩
  · obtain ⟨ij, q⟩ := own' j w q
    obtain ⟨h1, h2, h3⟩ := e.own j w q
    refine ⟨h1, h2.step m ?_ fun _ z => z, h3⟩
    rw [upd_ne (e.ne j i w o q ho (Ne.symm ij))]
    exact h2.none
  · exact e.ne j k w z (own' j w q1).2 (own' k z q2).2 n
  · have ij : i ≠ j := fun z => by subst z; rw [get_set_self h] at q; cases q
    rw [get_set_ne ij] at q
    exact e.bor j w q
  · rw [e.isb j]
    by_cases ij : i = j
    · subst ij
      rw [get_set_self h, h]
      constructor
      · rintro ⟨w, q⟩; cases q
      · rintro ⟨w, q⟩; cases q
    · rw [get_set_ne ij]
/-- a new object of one's own is frozen -/
theorem EXv.freeze {v : V} {r : RV} (e : EXv P σ H env F v r) : ∃ F', LeH F F' ∧ Rep P.L F' r.toD v ∧ EX P σ H env F' := by
  obtain ⟨A, e, hr⟩ := e
  cases r with
  | val d => exact ⟨F, LeH.refl F, hr, A, e⟩
  | fr o =>
    obtain ⟨p, rfl, hO, hPO, hn⟩ := hr
    obtain ⟨u, hu⟩ := hO.there
    have hF := hO.none
    have m : LeH F (upd F p u) := LeH.upd hF
    have rp : Rep P.L (upd F p u) o.toD (.ref p) := hO.rep m fun w hw => by rw [hu] at hw; cases hw; exact upd_same
    refine ⟨upd F p u, m, rp, A, ⟨fun a w q => ?_, e.le0.trans m, fun a w q => ?_, e.len, fun j d q => ?_, fun j w q => ?_, e.ne, e.bor, e.isb, e.tb.frz (hO.plain hu).1⟩⟩
    · by_cases ha : a = p
      · subst ha
        rw [upd_same] at q
        cases q
        exact hu
      · rw [upd_ne ha] at q
        exact e.sub a w q
    · have na : a ≠ p := fun z => by rw [z, hPO] at q; cases q
      rw [upd_ne na]
      exact e.fr a w q
    · obtain ⟨v, h1, h2⟩ := e.val j d q
      exact ⟨v, h1, Rep.mono m _ _ h2⟩
    · obtain ⟨h1, h2, h3⟩ := e.own j w q
      refine ⟨h1, h2.step m ?_ fun _ z => z, h3⟩
      rw [upd_ne (hn j w q)]
      exact h2.none
/-- the heap grows by a new object -/
theorem ER.grow (e : ER P A σ H env F) (k : ∀ a o, H a = some o → H' a = some o) : ER P A σ H' env F :=
  ⟨fun a o q => k a o (e.sub a o q), e.le0, fun a o q => ⟨k a o (e.fr a o q).1, (e.fr a o q).2⟩, e.len, e.val, fun i o q => let ⟨h1, h2, h3⟩ := e.own i o q; ⟨h1, h2.step (LeH.refl F) h2.none (fun u z => k _ u z), h3⟩, e.ne, e.bor, e.isb, e.tb.grow k⟩
/-- .. a lambda is made: the tables aside, the heap grows -/
theorem ER.growN (e : ER P A σ H env F) (k : LamX.ExtN H H') (ht : LamX.Tabs P.L.T H') : ER P A σ H' env F :=
  ⟨fun a o q => k a o (e.sub a o q) fun ps z => e.tb.nf a ps (by rw [q, z]), e.le0, fun a o q => ⟨k a o (e.fr a o q).1 fun ps z => e.tb.no a ps (by rw [q, z]), (e.fr a o q).2⟩, e.len, e.val, fun i o q => by
    obtain ⟨h1, h2, h3⟩ := e.own i o q
    obtain ⟨u, hu⟩ := h2.there
    exact ⟨h1, h2.step (LeH.refl F) h2.none (fun w z => by rw [hu] at z; cases z; exact k _ u hu (h2.plain hu).1), h3⟩, e.ne, e.bor, e.isb, e.tb.growN ht⟩
theorem EX.growN (e : EX P σ H env F) (k : LamX.ExtN H H') (ht : LamX.Tabs P.L.T H') : EX P σ H' env F := let ⟨A, e⟩ := e; ⟨A, e.growN k ht⟩
theorem EX.grow (e : EX P σ H env F) (k : ∀ a o, H a = some o → H' a = some o) : EX P σ H' env F := let ⟨A, e⟩ := e; ⟨A, e.grow k⟩
theorem grows {p : Addr} {o : HO} (h : H p = none) : ∀ a u, H a = some u → upd H p o a = some u := fun a u e => by rw [upd_ne (ne_of_none e h)]; exact e
/-- .. that belongs to the unchanging part -/
theorem ER.froze (e : ER P A σ H env F) {p : Addr} {o : HO} (h : H p = none) (ht : ∀ ps, o ≠ .tbl ps := by intro _ z; cases z) : ER P A σ (upd H p o) env (upd F p o) := by
  have hF : F p = none := by
    cases q : F p with
    | none => rfl
    | some u => rw [e.sub p u q] at h; cases h
  have m : LeH F (upd F p o) := LeH.upd hF
  have e' := e.grow (grows (o := o) h)
  refine ⟨fun a w q => ?_, e.le0.trans m, fun a w q => ?_, e.len, fun j d q => ?_, fun j w q => ?_, e.ne, e.bor, e.isb, e'.tb.frz ht⟩
  · by_cases ha : a = p
    · subst ha; rw [upd_same] at q ⊢; exact q
    · rw [upd_ne ha] at q ⊢; exact e.sub a w q
  · have na : a ≠ p := ne_of_none (e.fr a w q).1 h
    rw [upd_ne na, upd_ne na]
    exact e.fr a w q
  · obtain ⟨v, h1, h2⟩ := e.val j d q
    exact ⟨v, h1, Rep.mono m _ _ h2⟩
  · obtain ⟨h1, h2, h3⟩ := e'.own j w q
    obtain ⟨u, hu⟩ := (e.own j w q).2.1.there
    refine ⟨h1, h2.step m ?_ fun _ z => z, h3⟩
    rw [upd_ne (ne_of_none hu h)]
    exact h2.none
theorem EX.froze (e : EX P σ H env F) {p : Addr} {o : HO} (h : H p = none) (ht : ∀ ps, o ≠ .tbl ps := by intro _ z; cases z) : EX P σ (upd H p o) env (upd F p o) := let ⟨A, e⟩ := e; ⟨A, e.froze h ht⟩
theorem EX.nop (e : EX P σ H env F) {p : Addr} (h : H p = none) : F p = none := by
  obtain ⟨A, e⟩ := e
  cases q : F p with
  | none => rfl
  | some u => rw [e.sub p u q] at h; cases h
/-- a new list is one's own -/
theorem EX.fresh (e : EX P σ H env F) {p : Addr} {vs : List V} {ds : List D} (h : H p = none) (r : Reps P.L F ds vs) : EXv P σ (upd H p (.lst vs)) env F (.ref p) (.fr (.lst ds)) := by
  have hF := e.nop h
  obtain ⟨A, e⟩ := e
  refine ⟨A, e.grow (grows h), p, rfl, ⟨hF, vs, upd_same, r⟩, ?_, fun i u q => ?_⟩
  · cases q : P.O p with
    | none => rfl
    | some u => rw [(e.fr p u q).1] at h; cases h
  · obtain ⟨u, hu⟩ := (e.own i _ q).2.1.there
    exact ne_of_none hu h
/-- an operand's value -/
def OpR (P : PP) (F : Hp) (σ : St) (v : V) : Op → Prop
  | .d d => Rep P.L F d v
  | .slot i => σ[i]? = some (some v)
theorem OpR.mono {v : V} (m : LeH F F') : ∀ {o : Op}, OpR P F σ v o → OpR P F' σ v o
  | .d _, h => Rep.mono m _ _ h
  | .slot _, h => h
/-- an operand is read, now: its parts lie in the unchanging part -/
def Top (P : PP) (F H : Hp) (d : D) (v : V) : Prop := Rep P.L F d v ∨ ∃ p o, v = .ref p ∧ o.toD = d ∧ OwnAt P.L F H p o
theorem ER.res (e : ER P A σ H env F) {o : Op} {v : V} {d : D} (h : OpR P F σ v o) (q : res env o = some d) : Top P F H d v := by
  cases o with
  | d d' => cases q; exact .inl h
  | slot i =>
    unfold G.res at q
    have h : σ[i]? = some (some v) := h
    cases x : env[i]? with
    | none => simp only [x] at q; cases q
    | some y => cases y with
      | none => simp only [x] at q; cases q
      | some z =>
        simp only [x] at q
        cases z with
        | val d' =>
          cases q
          obtain ⟨w, h1, h2⟩ := e.val i d' x
          rw [h] at h1
          cases h1
          exact .inl h2
        | own u =>
          cases q
          obtain ⟨h1, h2, _⟩ := e.own i u (by rw [x]; rfl)
          rw [h] at h1
          cases h1
          exact .inr ⟨_, u, rfl, rfl, h2⟩
        | bor u =>
          cases q
          obtain ⟨h1, h2, _⟩ := e.own i u (by rw [x]; rfl)
          rw [h] at h1
          cases h1
          exact .inr ⟨_, u, rfl, rfl, h2⟩
theorem Top.now {d : D} {v : V} (t : Top P F H d v) (m : LeH F H) : Rep P.L H d v := by
  rcases t with t | ⟨p, o, rfl, rfl, t⟩
  · exact Rep.mono m _ _ t
  · exact t.rep m fun _ z => z
theorem Top.lst {ds : List D} {v : V} (t : Top P F H (.lst ds) v) (m : LeH F H) : ∃ a vs, v = .ref a ∧ H a = some (.lst vs) ∧ Reps P.L F ds vs := by
  rcases t with ⟨a, vs, e, s, r⟩ | ⟨p, o, rfl, q, t⟩
  · exact ⟨a, vs, e, m _ _ s, r⟩
  · cases o with
    | ins c fs => cases q
    | lst xs =>
      cases q
      obtain ⟨_, vs, h, r⟩ := t
      exact ⟨p, vs, rfl, h, r⟩
theorem Top.scr {ns : List Int} {v : V} (t : Top P F H (.scr ns) v) (m : LeH F H) : ∃ a, v = .ref a ∧ SqL P.L.K H a (ns.map V.int) := by
  rcases t with ⟨a, e, s⟩ | ⟨p, o, rfl, q, t⟩
  · exact ⟨a, e, sqL_mono m s⟩
  · cases o <;> cases q
theorem Top.tup {ds : List D} {v : V} (t : Top P F H (.tup ds) v) (m : LeH F H) : ∃ a vs, v = .ref a ∧ SqT P.L.K H a vs ∧ Reps P.L F ds vs := by
  rcases t with ⟨a, vs, e, s, r⟩ | ⟨p, o, rfl, q, t⟩
  · exact ⟨a, vs, e, sqT_mono m s, r⟩
  · cases o <;> cases q
theorem Top.dct {w : Bool} {ks : List Key} {ds : List D} {v : V} (t : Top P F H (.dct w ks ds) v) (m : LeH F H) : ∃ a ws, v = .ref a ∧ DctAt P.L H w a ks ws ∧ Reps P.L F ds ws := by
  rcases t with ⟨a, vs, e, s, r⟩ | ⟨p, o, rfl, q, t⟩
  · exact ⟨a, vs, e, dctAt_mono m s, r⟩
  · cases o <;> cases q
theorem Top.int {i : Int} {v : V} (t : Top P F H (.int i) v) : v = .int i := by
  rcases t with e | ⟨p, o, rfl, q, t⟩
  · exact e
  · cases o <;> cases q
theorem Top.str {s : Str} {v : V} (t : Top P F H (.str s) v) : v = .str s ∧ s.length ≤ line := by
  rcases t with e | ⟨p, o, rfl, q, t⟩
  · exact e
  · cases o <;> cases q
theorem Top.bl {b : Bool} {v : V} (t : Top P F H (.bl b) v) : v = .bl b := by
  rcases t with e | ⟨p, o, rfl, q, t⟩
  · exact e
  · cases o <;> cases q
theorem Top.non {v : V} (t : Top P F H .non v) : v = .non := by
  rcases t with e | ⟨p, o, rfl, q, t⟩
  · exact e
  · cases o <;> cases q
end

/-! ### readings by wishes -/
def tO (P : PP) (Γ : Fns) (X : XP) (m : E) : TE := fun σ H Q => ∃ env F R, EX P σ H env F ∧ opd m (wE Γ m) env X R ∧ ∀ o env' v H' F', R o env' → LeH F F' → EX P σ H' env' F' → OpR P F' σ v o → Q v H'
def tE (P : PP) (Γ : Fns) (X : XP) (m : E) : TE := fun σ H Q => ∃ env F R, EX P σ H env F ∧ wE Γ m env X R ∧ ∀ r env' v H' F', R r env' → LeH F F' → EXv P σ H' env' F' v r → Q v H'
def tT (P : PP) (Γ : Fns) (X : XP) (m : T) : TT := fun σ H Q => ∃ env F R, EX P σ H env F ∧ wT Γ m env X R ∧ ∀ b env' H' F', R b env' → LeH F F' → EX P σ H' env' F' → Q b H'
def OpRs (P : PP) (F : Hp) (σ : St) : List V → List Op → Prop := Paired (OpR P F σ)
theorem OpRs.mono {P : PP} {F F' : Hp} {σ : St} (m : LeH F F') {vs : List V} {os : List Op} (h : OpRs P F σ vs os) : OpRs P F' σ vs os := Paired.mapP h fun _ _ q => OpR.mono m q
def tOs (P : PP) (Γ : Fns) (X : XP) (ms : List E) : TA := fun σ H Q => ∃ env F R, EX P σ H env F ∧ wOs Γ ms env X R ∧ ∀ os env' vs H' F', R os env' → LeH F F' → EX P σ H' env' F' → OpRs P F' σ vs os → vs.length = ms.length → Q vs H'
/-- an iterator over these data -/
def ItOk (L : Lay) (J : It) (F : Hp) (ds : List D) : Prop :=
  (∀ H, LeH F H → J.stop ds.length H) ∧ ∀ (i : Nat) (d : D), ds[i]? = some d → ∀ F1 H, LeH F F1 → LeH F1 H → J.go i H ∧ ∀ x H', J.yld i H x H' →
    ∃ F2, LeH F1 F2 ∧ LeH F2 H' ∧ (∀ a o, H a = some o → H' a = some o ∧ F2 a = F1 a) ∧ (∀ a ps, F2 a = some (.tbl ps) → F1 a = some (.tbl ps)) ∧ Rep L F2 d x
def tI (P : PP) (Γ : Fns) (X : XP) (m : I) : TI := fun σ H R => ∃ env F Rd, EX P σ H env F ∧ wI Γ m env X Rd ∧ ∀ ds env' H' F' J, Rd ds env' → LeH F F' → EX P σ H' env' F' → ds.length ≤ line → ItOk P.L J F' ds → R J H'

theorem pe_imp {X : Cx} {e : Expr} {t t' : TE} (h : PE X e t) (m : ∀ σ H Q, t' σ H Q → t σ H Q) : PE X e t' := ⟨fun pins s σ H Q I q => h.run pins s σ H Q I (m σ H Q q)⟩
theorem pt_imp {X : Cx} {e : Expr} {t t' : TT} (h : PT X e t) (m : ∀ σ H Q, t' σ H Q → t σ H Q) : PT X e t' := ⟨fun pins s σ H Q I q => h.run pins s σ H Q I (m σ H Q q)⟩
theorem pa_imp {X : Cx} {e : List Expr} {t t' : TA} (h : PA X e t) (m : ∀ σ H Q, t' σ H Q → t σ H Q) : PA X e t' := ⟨fun pos pins s σ H Q I q => h.run pos pins s σ H Q I (m σ H Q q)⟩
theorem ps_imp {X : Cx} {e : Stmt} {t t' : TS} (h : PS X e t) (m : ∀ Dn σ H, t' Dn σ H → t Dn σ H) : PS X e t' := ⟨fun pins s σ H Dn I q => h.run pins s σ H Dn I (m Dn σ H q)⟩
theorem pss_imp {X : Cx} {e : List Stmt} {t t' : TS} (h : PSs X e t) (m : ∀ Dn σ H, t' Dn σ H → t Dn σ H) : PSs X e t' := ⟨fun pins s σ H Dn I q => h.run pins s σ H Dn I (m Dn σ H q)⟩
theorem pi_imp {X : Cx} {tg e : Expr} {t t' : TI} (h : PI X tg e t) (m : ∀ σ H R, t' σ H R → t σ H R) : PI X tg e t' := ⟨fun pins s σ H R I q => h.run pins s σ H R I (m σ H R q)⟩
end G
/-! X0: tuple * 0, * 1; tuple[::-1]. -/
namespace HT
open PySem PySem.Spec PyProof.Rows
section
variable {prog : Program} {w : World} {A : Around} {E : Value → Shared → Prop} {s : Shared}
theorem sliceApplied_rev {sl : Addr} {vl vu vs : Value} {n : Nat} {Q : Int × Int × Nat → Shared → Prop} (hs : s.heap.IsSliceOf sl vl vu vs) (pl : IsPart vl none) (pu : IsPart vu none) (ps : IsPart vs (some (-1)))
    (h : Q ((n : Int) - 1, -1, n) s) : wpAny (model prog w) A (Builtin.Slice.sliceApplied (.ref sl) (pure (n : Int))) Q E s := by
  obtain ⟨os, hos, hcs, hds⟩ := id hs
  unfold Builtin.Slice.sliceApplied Builtin.Slice.sliceFields
  refine wpAny_bind (wpAny_bind (wpAny_field hos hds (x := vl) rfl (wpAny_bind (wpAny_field hos hds (x := vu) rfl (wpAny_bind (wpAny_field hos hds (x := vs) rfl (wpAny_pure ?_)))))))
  refine wpAny_bind (slicePart_ ps ?_)
  show wpAny _ _ (if ((-1 : Int) == 0) = true then _ else _) _ _ s
  rw [if_neg (by decide)]
  refine wpAny_bind (slicePart_ pl (wpAny_bind (slicePart_ pu (wpAny_bind (wpAny_pure ?_)))))
  show wpAny _ _ (match Builtin.Slice.sliceAdjust none none (-1) (n : Int) with | (lo, hi) => pure (lo, (-1 : Int), Builtin.Slice.slicePlaces lo hi (-1))) _ _ s
  have e1 : Builtin.Slice.sliceAdjust none none (-1) (n : Int) = ((n : Int) - 1, -1) := by
    simp [Builtin.Slice.sliceAdjust]
  have e2 : Builtin.Slice.slicePlaces ((n : Int) - 1) (-1) (-1) = n := by
    unfold Builtin.Slice.slicePlaces
    simp
    try omega
  rw [e1]
  show wpAny _ _ (pure ((n : Int) - 1, (-1 : Int), Builtin.Slice.slicePlaces ((n : Int) - 1) (-1) (-1))) _ _ s
  rw [e2]
  exact wpAny_pure h
theorem getItem_tuple_rev {t sl : Addr} {items : Array Value} {vl vu vs : Value} {Q : Value → Shared → Prop} (ht : IsTup s.heap t items) (hs : s.heap.IsSliceOf sl vl vu vs) (pl : IsPart vl none) (pu : IsPart vu none) (ps : IsPart vs (some (-1)))
    (h : Q (.ref s.heap.objs.size) { s with heap := s.heap.push { cls := .type "tuple", data := .seq items.toList.reverse.toArray } })
    (hsz : items.size ≤ sizeLine) : wpAny (model prog w) A (getItem (.ref t) (.ref sl)) Q E s := by
  have htake : sizeOk (.seq items.toList.reverse.toArray) := by
    show items.toList.reverse.toArray.size ≤ sizeLine
    rw [List.size_toArray, List.length_reverse, Array.length_toList]
    exact hsz
  obtain ⟨os, hos, hcs, hds⟩ := id hs
  have hTs : s.TypeIs (.ref sl) "slice" := ⟨os, hos, hcs⟩
  unfold getItem
  try with_reducible refine wpAny_holding ?_
  first | refine wpAny_bind (wpAny_pure ?_) | skip
  refine wpAny_bind (wpAny_sequenceKey ht.typeIs (by decide) ?_)
  refine wpAny_bind (wpAny_callSpecial?_slot (name := Str.ofString "__getitem__") ht.typeIs PyProof.Rows.slot_tuple_getitem
    (wpAny_call_entry PyProof.Rows.slot_tuple_getitem ht.typeIs entry_tuple_getitem ?_ (args_tuple_getitem _ _)))
  show wpAny _ _ (Builtin.Tuple.tupleItemsOf (.ref t) >>= _) _ _ s
  refine wpAny_bind (tupleItemsOf_ ht ?_)
  refine wpAny_bind (wpAny_typeOf hTs ?_)
  rw [if_pos (by decide)]
  refine wpAny_bind (sliceApplied_rev hs pl pu ps ?_)
  have hno : ¬ (((((items.size : Int) - 1) == 0 && (-1 : Int) == 1 && items.size == items.size) = true)) := by
    intro q
    rw [Bool.and_eq_true, Bool.and_eq_true] at q
    exact absurd (eq_of_beq q.1.2) (by decide)
  show wpAny _ _ (if (((items.size : Int) - 1) == 0 && (-1 : Int) == 1 && items.size == items.size) = true then _ else _) _ _ s
  have pick : ((List.range items.size).filterMap fun (k : Nat) => items[((items.size : Int) - 1 + (k : Int) * (-1)).toNat]?).toArray = items.toList.reverse.toArray := by
    congr 1
    have e : (List.range items.size).filterMap (fun (k : Nat) => items[((items.size : Int) - 1 + (k : Int) * (-1)).toNat]?) = ((List.range items.size).map fun k => items.size - 1 - k).filterMap (items[·]?) := by
      rw [List.filterMap_map]
      congr 1
      funext k
      show items[((items.size : Int) - 1 + (k : Int) * (-1)).toNat]? = items[items.size - 1 - k]?
      have : ((items.size : Int) - 1 + (k : Int) * (-1)).toNat = items.size - 1 - k := by omega
      rw [this]
    rw [e, PySem.W.krv_range, List.filterMap_reverse, PySem.W.krv_all]
  rw [if_neg hno, pick]
  first
    | exact wpAny_bind (m := Builtin.Tuple.tupleExact _) (wpAny_newObj_type (wpAny_pure ⟨_, rfl, wpAny_pure h⟩) htake)
    | exact wpAny_bind (m := Builtin.Tuple.tupleExact _) (wpAny_newObj_type (wpAny_bind (wpAny_pure (wpAny_pure ⟨_, rfl, wpAny_pure h⟩))) htake)
    | exact wpAny_bind (wpAny_bind (m := Builtin.Tuple.tupleExact _) (wpAny_newObj_type (wpAny_pure (wpAny_pure ⟨_, rfl, wpAny_pure h⟩)) htake))
    | exact wpAny_bind (wpAny_bind (m := Builtin.Tuple.tupleExact _) (wpAny_newObj_type (wpAny_pure ⟨_, rfl, wpAny_pure h⟩) htake))
end
end HT
namespace G
open PySem PySem.Spec L2 PyProof.Rows HT
theorem tuple_mulS (l : Addr) (items : Array Value) (n : Nat) (dd : Option Addr) (sl : Array (Option Value)) (x : Int) (u : Tok) (c0 : (decide (x < -(2 ^ 63)) || decide (x ≥ 2 ^ 63)) = false) (c1 : (items.isEmpty || x == 1) = true) :
    Meets (Builtin.«tuple.__mul__» ⟨[.ref l, .int x u], []⟩) (fun _ R s => s.heap.get? l = some { cls := .type "tuple", dict := dd, data := .seq items n, slots := sl } ∧ R (.ok (.ret (Value.ref l))) s) :=
  .of_wp fun prog w A R s h => by
    obtain ⟨hp, g, d, tk, os⟩ := s
    obtain ⟨hl, h⟩ := h
    have f1 := AutoSeq1.idx_int
    wp_walk using wpAny_loadPart' hl
    repeat (first
      | (refine wpAny_ite_false (decide_eq_false (by rw [c0]; exact Bool.false_ne_true)) ?_; wp_walk using wpAny_loadPart' hl)
      | (refine wpAny_ite_true (decide_eq_true c1) ?_; wp_walk using wpAny_loadPart' hl))
    exact ⟨_, rfl, h⟩
theorem tuple_mul0 (l : Addr) (items : Array Value) (n : Nat) (dd : Option Addr) (sl : Array (Option Value)) (x : Int) (u : Tok) (c0 : (decide (x < -(2 ^ 63)) || decide (x ≥ 2 ^ 63)) = false) (c1 : (items.isEmpty || x == 1) = false) (c2 : (decide (x ≤ 0) || items.isEmpty) = true) :
    Meets (Builtin.«tuple.__mul__» ⟨[.ref l, .int x u], []⟩) (fun _ R s => s.heap.get? l = some { cls := .type "tuple", dict := dd, data := .seq items n, slots := sl } ∧
      R (.ok (.ret (Value.ref s.heap.objs.size))) { s with heap := s.heap.push { cls := Value.type "tuple", data := Data.seq #[] }, toks := s.toks }) :=
  .of_wp fun prog w A R s h => by
    obtain ⟨hp, g, d, tk, os⟩ := s
    obtain ⟨hl, h⟩ := h
    have f1 := AutoSeq1.idx_int
    wp_walk using wpAny_loadPart' hl
    repeat (first
      | (refine wpAny_ite_false (decide_eq_false (by rw [c0]; exact Bool.false_ne_true)) ?_; wp_walk using wpAny_loadPart' hl)
      | (refine wpAny_ite_false (decide_eq_false (by rw [c1]; exact Bool.false_ne_true)) ?_; wp_walk using wpAny_loadPart' hl)
      | (refine wpAny_ite_true (decide_eq_true c2) ?_; wp_walk using wpAny_loadPart' hl))
    exact ⟨_, rfl, h⟩
/-- tuple * int -/
def rRepA (K : PySem.W.Frag) : R2 := fun x y H Q => ∃ l k xs, x = .ref l ∧ y = .int k ∧ SqT K H l xs ∧ 0 ≤ k ∧ k ≤ 1000 ∧ xs.length ≤ 1000 ∧
  ((xs = [] ∨ k = 1) → Q (.ref l) H) ∧ (xs ≠ [] → k ≠ 1 → ∀ p, H p = none → Q (.ref p) (upd H p (.tup (List.replicate k.toNat xs).flatten)))
theorem op_repA {X : Cx} : L2.OpR X (binaryOp .Mult) (rRepA X.K) := by
  intro pins s σ H x y v u Q I rx ry h
  obtain ⟨l, k, xs, rfl, rfl, hT, h0, h1, hz, q1, q2⟩ := h
  by_cases big : xs ≠ [] ∧ 2 ≤ k
  · exact op_repT pins s σ H _ _ v u Q I rx ry ⟨l, k, xs, rfl, rfl, hT, big.1, big.2, h1, hz, q2 big.1 (by omega)⟩
  · cases rx
    obtain ⟨t, rfl⟩ := ry
    obtain ⟨its, r, ⟨⟨cls, dd, data, sl⟩, ho, hc, n, hd⟩, hs⟩ := I.tuple hT
    simp only at hc hd
    subst hc hd
    have hle : its.length = xs.length := r.length.symm
    have c0 : (decide (k < -(2 ^ 63)) || decide (k ≥ 2 ^ 63)) = false := by
      rw [decide_eq_false (by omega), decide_eq_false (by omega)] <;> rfl
    have em : its.toArray.isEmpty = decide (xs = []) := by
      cases its with
      | nil => cases xs with
        | nil => rfl
        | cons _ _ => simp at hle
      | cons _ _ => cases xs with
        | nil => simp at hle
        | cons _ _ => rfl
    by_cases same : xs = [] ∨ k = 1
    · have c1 : (its.toArray.isEmpty || k == 1) = true := by
        rw [em]
        rcases same with h | h
        · rw [decide_eq_true h, Bool.true_or]
        · rw [h]; simp
      refine wpAny_binaryOp_repeat_ref (T := "tuple") (U := "int") (by decide) ⟨_, ho, rfl⟩ (fun s' => typeIs_int s' k t) noFill_tuple_mul F.fills_int_mul F.slot_int_rmul repeat_tuple F.slot_int_index.lookup
        (call_meets F.slot_int_rmul (typeIs_int s k t) F.entry_int_rmul (F.args_int_rmul_2 _ _) (int_rmul_tuple k t l its.toArray n dd sl)
          ⟨ho, rfl, ⟨_, ho, rfl⟩, call_meets F.slot_tuple_mul ⟨_, ho, rfl⟩ F.entry_tuple_mul (F.args_tuple_mul_2 _ _) (tuple_mulS l its.toArray n dd sl k t c0 c1) ⟨ho, ?_⟩⟩)
      exact ⟨.ref l, H, I, rfl, q1 same⟩
    · have hne : xs ≠ [] := fun z => same (.inl z)
      have hk : k ≠ 1 := fun z => same (.inr z)
      have hk0 : k = 0 := by
        by_cases h2 : 2 ≤ k
        · exact absurd ⟨hne, h2⟩ big
        · omega
      have c1 : (its.toArray.isEmpty || k == 1) = false := by
        rw [em, decide_eq_false hne, Bool.false_or]
        exact beq_eq_false_iff_ne.mpr hk
      have c2 : (decide (k ≤ 0) || its.toArray.isEmpty) = true := by
        rw [decide_eq_true (by omega), Bool.true_or]
      refine wpAny_binaryOp_repeat_ref (T := "tuple") (U := "int") (by decide) ⟨_, ho, rfl⟩ (fun s' => typeIs_int s' k t) noFill_tuple_mul F.fills_int_mul F.slot_int_rmul repeat_tuple F.slot_int_index.lookup
        (call_meets F.slot_int_rmul (typeIs_int s k t) F.entry_int_rmul (F.args_int_rmul_2 _ _) (int_rmul_tuple k t l its.toArray n dd sl)
          ⟨ho, rfl, ⟨_, ho, rfl⟩, call_meets F.slot_tuple_mul ⟨_, ho, rfl⟩ F.entry_tuple_mul (F.args_tuple_mul_2 _ _) (tuple_mul0 l its.toArray n dd sl k t c0 c1 c2) ⟨ho, ?_⟩⟩)
      have q := q2 hne hk s.heap.objs.size (I.hok.fresh (Nat.le_refl _))
      have e : (List.replicate k.toNat xs).flatten = [] := by rw [hk0]; rfl
      rw [e] at q
      refine ⟨.ref s.heap.objs.size, _, I.laid (t' := s.toks) (o := .tup []) (fun b ob q => Heap.get?_push_of_some _ q) (Nat.le_refl _) ?_, rfl, q⟩
      exact ⟨by show 0 ≤ sizeLine; exact Nat.zero_le _, [], .nil, IsTup.new _ _⟩
/-- t[::-1] -/
def tRevT (K : PySem.W.Frag) (te : TE) : TE := fun σ H Q => te σ H fun x H1 => (∃ a xs, x = .ref a ∧ SqL K H1 a xs ∧ ∀ p, H1 p = none → Q (.ref p) (upd H1 p (.lst xs.reverse))) ∨ ∃ a xs, x = .ref a ∧ SqT K H1 a xs ∧ ∀ p, H1 p = none → Q (.ref p) (upd H1 p (.tup xs.reverse))
theorem pe_revA {X : Cx} {te : TE} {pos : Pos} {e : Expr} {k : Nat} {p1 p2 p3 : Pos} (he : PE X e te) : PE X (.Subscript e (.Slice none none (some (.UnaryOp .USub (.Constant (.int 1) k p1) p2)) p3) pos) (tRevT X.K te) := by
  refine ⟨fun pins s σ H Q I h => ?_⟩
  refine Subscript_ (thn (he.run pins s σ H _ I h) fun v s1 ⟨x, H1, I1, r1, q1⟩ => ?_)
  have hst : PO X (some (.UnaryOp .USub (.Constant (.int 1) k p1) p2)) (tPart (tUn (rU fun i => .int (-i)) (tC (.int 1)))) := po_some (pe_un un_neg pe_int)
  refine wpAny_Slice (thn (po_none.run pins s1 σ H1 (fun o H2 => o = none ∧ H2 = H1) I1 ⟨rfl, rfl⟩) fun vl s2 ⟨l, H2, I2, pl, el, e2⟩ => ?_)
  subst el e2
  refine thn (po_none.run pins s2 σ H2 (fun o H3 => o = none ∧ H3 = H2) I2 ⟨rfl, rfl⟩) fun vu s3 ⟨u, H3, I3, pu, eu, e3⟩ => ?_
  subst eu e3
  refine thn (hst.run pins s3 σ H3 (fun o H4 => o = some (-1) ∧ H4 = H3) I3 ⟨1, rfl, -1, rfl, rfl, rfl⟩) fun vs s4 ⟨o, H4, I4, ps, eo, e4⟩ => ?_
  subst eo e4
  have I5 : Inv X pins σ H4 { s4 with heap := s4.heap.push { cls := .type "slice", data := .fields #[vl, vu, vs] } } := I4.kept (t' := s4.toks) fun b ob q => Heap.get?_push_of_some _ q
  rcases q1 with ⟨a, xs, ex, hx, q⟩ | ⟨a, xs, ex, hx, q⟩
  · subst ex
    cases r1
    obtain ⟨its, r, ht, hz⟩ := I5.list hx
    have hlen := r.length
    show wpAny (model X.prog X.w) X.A (subscriptTail e (.Slice none none (some (.UnaryOp .USub (.Constant (.int 1) k p1) p2)) p3) (.ref a) (.ref s4.heap.objs.size)) (EP X pins σ Q) X.xe { s4 with heap := s4.heap.push { cls := .type "slice", data := .fields #[vl, vu, vs] } }
    refine tail_any (ops := [.ref a, .ref s4.heap.objs.size]) ht.isList.typeIs (PySem.slot_list_getitem.lookup) ?_ (by with_unfolding_all rfl)
    refine wpAny_getItem_list_slice ht.isList (Heap.IsSliceOf.new _ vl vu vs) pl pu ps (by decide) ?_ (by rw [List.size_toArray]; omega)
    rw [PySem.W.krv_pick]
    refine ⟨.ref _, _, I5.laid (t' := s4.toks) (o := .lst xs.reverse) (fun b ob q => Heap.get?_push_of_some _ q) (Nat.le_refl _) ?_, rfl, q _ (I5.hok.fresh (Nat.le_refl _))⟩
    exact ⟨by rw [List.length_reverse]; exact hz, _, 0, r.reverse, Heap.get?_push_size _ rfl⟩
  · subst ex
    cases r1
    obtain ⟨its, r, ht, hz⟩ := I5.tuple hx
    have hlen := r.length
    show wpAny (model X.prog X.w) X.A (subscriptTail e (.Slice none none (some (.UnaryOp .USub (.Constant (.int 1) k p1) p2)) p3) (.ref a) (.ref s4.heap.objs.size)) (EP X pins σ Q) X.xe { s4 with heap := s4.heap.push { cls := .type "slice", data := .fields #[vl, vu, vs] } }
    refine tail_any (ops := [.ref a, .ref s4.heap.objs.size]) ht.typeIs (PyProof.Rows.slot_tuple_getitem.lookup) ?_ (by with_unfolding_all rfl)
    refine HT.getItem_tuple_rev ht (Heap.IsSliceOf.new _ vl vu vs) pl pu ps ?_ (by rw [List.size_toArray]; omega)
    refine ⟨.ref _, _, I5.laid (t' := s4.toks) (o := .tup xs.reverse) (fun b ob q => Heap.get?_push_of_some _ q) (Nat.le_refl _) ?_, rfl, q _ (I5.hok.fresh (Nat.le_refl _))⟩
    exact ⟨by rw [List.length_reverse]; exact hz, _, r.reverse, IsTup.new _ _⟩
end G
/-! S5: enumerate(tuple). -/
namespace G
open PySem PySem.Spec L2 PyProof.Rows
theorem meets_enumerate_new1 {v : Value} {o : Obj} {H : Heap → Prop} (B : Begins v o H) :
    Meets (Builtin.«enumerate.__new__» ⟨[.type "enumerate", v], []⟩) (fun _ R s => H s.heap ∧
      R (.ok (.ret (.ref (s.heap.push o).objs.size))) { s with heap := (s.heap.push o).push { cls := .type "enumerate", data := .fields #[.none, .bool false, .ref s.heap.objs.size, rawInt 0, .none, .none] } }) :=
  .of_wp fun prog w A R s h => by
    obtain ⟨hp, g, d, tk, os⟩ := s; obtain ⟨h1, h⟩ := h
    have hsub := sub_enumerate
    have q1 : ∀ {A' : Around} {E : Value → Shared → Prop} {Q : Value → Shared → Prop}, Q (.ref hp.objs.size) ⟨hp.push o, g, d, tk, os⟩ → wpAny (model prog w) A' (pyIter v) Q E ⟨hp, g, d, tk, os⟩ :=
      fun q => B.iter prog w _ _ ⟨hp, g, d, tk, os⟩ _ h1 q
    wp_walk using q1
    refine wpAny_stack_any fun st => wpAny_pure ?_
    split
    · rename_i c _ _ _ _ _
      cases (c == Value.type "enumerate")
      · wp_walk using q1
        exact ⟨_, rfl, h⟩
      · wp_walk using q1
        exact ⟨_, rfl, h⟩
    · wp_walk using q1
      exact ⟨_, rfl, h⟩
theorem enum_begins1 {prog : Program} {w : World} {A : Around} {E : Value → Shared → Prop} {s : Shared} {v : Value} {o : Obj} {H : Heap → Prop} {Q : Value → Shared → Prop} (B : Begins v o H) (h1 : H s.heap)
    (h : ∀ h', IsEnum h' (s.heap.objs.size + 1) s.heap.objs.size 0 .none → h'.get? s.heap.objs.size = some o → h'.objs.size = s.heap.objs.size + 2 →
      (∀ b o, s.heap.get? b = some o → h'.get? b = some o) → Q (.ref (s.heap.objs.size + 1)) { s with heap := h' }) :
    wpAny (model prog w) A (call (.type "enumerate") [v]) Q E s := by
  refine callType_new F.called_enumerate (by decide) (F.typeCall_enumerate_1 _) (F.newCall_enumerate_1 _) (fun obj => F.args_object_init_2 obj _) F.entry_enumerate_new
    (meets_enumerate_new1 B) ⟨h1, ?_⟩
  have hz : (s.heap.push o).objs.size = s.heap.objs.size + 1 := Heap.size_push ..
  show _ ∧ _
  rw [hz]
  have he : IsEnum ((s.heap.push o).push { cls := .type "enumerate", data := .fields #[.none, .bool false, .ref s.heap.objs.size, rawInt 0, .none, .none] }) (s.heap.objs.size + 1) s.heap.objs.size 0 .none := by
    have := Heap.get?_push_size (s.heap.push o) (o := { cls := .type "enumerate", data := .fields #[.none, .bool false, .ref s.heap.objs.size, rawInt 0, .none, .none] }) rfl
    rw [hz] at this; exact this
  refine ⟨⟨_, he, rfl⟩, h _ he (Heap.get?_push_of_some _ (Heap.get?_push_size _ B.free)) (by rw [Heap.size_push, hz]) fun b o x => Heap.get?_push_of_some _ (Heap.get?_push_of_some _ x)⟩
/-- the tuple at a as it stands at each turn, each item in a new pair -/
def IteT (K : PySem.W.Frag) (a : Addr) : It :=
  ⟨fun i H => ∃ (xs : List V) (x : V), SqT K H a xs ∧ xs[i]? = some x, fun i H v H' => ∃ T x, v = .ref T ∧ H T = none ∧ H' = upd H T (.tup [.int (i : Nat), x]) ∧ ∀ xs, SqT K H a xs → xs[i]? = some x, fun i H => ∃ xs : List V, SqT K H a xs ∧ xs.length ≤ i⟩
theorem tup_ne {h : Heap} {a it : Addr} {items : Array Value} {i : Nat} (t : h.IsTuple a items) (p : h.IsTupleIter it a i) : a ≠ it := fun e => by
  subst e
  obtain ⟨o, ho, hc, _⟩ := t
  obtain ⟨o', ho', hc', _⟩ := p
  rw [ho] at ho'
  cases ho'
  rw [hc] at hc'
  exact absurd hc' (by decide)
/-- at its end an iterator over a tuple draws nothing -/
theorem draws_end {prog : Program} {w : World} {A : Around} (hh : A.handled = none) (it t : Addr) (hne : t ≠ it) (items : Array Value) (n : Nat) (hn : items.size ≤ n) :
    Draws prog w A it [it, t] n (fun _ _ => False) (fun i h => i = n ∧ h.IsTupleIter it t i ∧ h.IsTuple t items) where
  live := fun _ _ st => let ⟨o, ho, _⟩ := st.2.1; ⟨o, ho⟩
  frame := fun _ _ _ st hk => ⟨st.1, st.2.1.at fun o e => hk it (by simp) o e, st.2.2.at fun o e => hk t (by simp) o e⟩
  item := fun i s Q E hi st hQ => absurd st.1 (Nat.ne_of_lt hi)
  done := fun s Q E st hE => wpAny_nextOf_tuple_end hh st.2.1 st.2.2 (by simpa using hn) hE
theorem turn_enumT {P : Program} {w : World} {K : PySem.W.Frag} {elts : List Expr} {kk : Nat} {tpos : Pos} (a e it : Addr) :
    Turn P w K (.Tuple elts kk tpos) (IteT K a) [e, it] e (fun i h => (∃ old, IsEnum h e it ((0 : Int) + (i : Int)) old) ∧ h.IsTupleIter it a i ∧ e ≠ it ∧ e ≠ a) where
  mem := by simp
  obj := fun i h st b hb => by
    obtain ⟨⟨old, he⟩, ⟨o, ho, hc, hd⟩, _⟩ := st
    have e' : b = e ∨ b = it := by simpa using hb
    rcases e' with z | z
    · rw [z]; exact ⟨_, he, fun v q => nomatch q⟩
    · rw [z]; exact ⟨o, ho, fun v q => by rw [hd] at q; cases q⟩
  keep := fun i h h' st k => let ⟨⟨old, he⟩, hi, hne⟩ := st; ⟨⟨old, k e (by simp) _ he⟩, hi.at fun o q => k it (by simp) o q, hne⟩
  item := by
    intro X hP hw hK hc i pins s σ H E I hf st hg
    subst hP hw hK
    obtain ⟨he, hit, hne, hea⟩ := st
    obtain ⟨xs, x, hq, hx⟩ := hg
    obtain ⟨its, rv, hT, hz⟩ := I.tuple hq
    obtain ⟨u, hu, ru⟩ := rv.get hx
    have hi : i < its.toArray.size := by simpa using (List.getElem?_eq_some_iff.mp hu).1
    have D := Draws.tuple (prog := X.prog) (w := X.w) (A := X.A.in1) (I.ok.hd hc) it a (tup_ne hT hit) its.toArray
    have W := GoesN.enumFrom (elts := elts) (x1 := kk) (pos := tpos) 0 D e hne (by simp [hne, hea]) (by simp)
    refine W.goes i s (fun u s2 => ∃ x H', Inv X pins σ H' s2 ∧ RelV x u ∧ (IteT X.K a).yld i H x H' ∧ ((∃ old, IsEnum s2.heap e it ((0 : Int) + ((i + 1 : Nat) : Int)) old) ∧ s2.heap.IsTupleIter it a (i + 1) ∧ e ≠ it ∧ e ≠ a) ∧ ∀ b ∈ [e, it], H' b = none) E hi ⟨he, hit, hT⟩ fun v h' tk hY st' hk htk => ?_
    obtain ⟨T, t, y, rfl, hTn, hy, hT2⟩ := hY
    obtain rfl : y = u := by
      have : its[i]? = some y := by simpa using hy
      rw [hu] at this
      exact (Option.some.inj this).symm
    obtain ⟨he', hit', _⟩ := st'
    have e0 : ((0 : Int) + (i : Int)) = ((i : Nat) : Int) := by omega
    rw [e0] at hT2
    have new : ObjOk X.prog X.w (upd H T (.tup [.int (i : Nat), x])) h' T (.tup [.int (i : Nat), x]) :=
      ⟨by show 2 ≤ sizeLine; decide, [.int i t, y], .cons ⟨_, rfl⟩ (.cons ru .nil), hT2⟩
    have I1 : Inv X pins σ (upd H T (.tup [.int (i : Nat), x])) { s with heap := h', toks := tk } := I.turnedNew (ch := [e, it]) (fun b ob hb q => hk b ob hb q) hf hTn new
    refine ⟨.ref T, _, I1, rfl, ⟨T, x, rfl, I.hok.fresh hTn, rfl, fun ys hy => by rw [I.tuple_inj hy hq]; exact hx⟩, ⟨he', hit', hne, hea⟩, fun b hb => ?_⟩
    have hb' : b < s.heap.objs.size := by
      have e' : b = e ∨ b = it := by simpa using hb
      rcases e' with z | z
      · rw [z]; obtain ⟨_, q⟩ := he; exact Heap.lt_size q
      · rw [z]; obtain ⟨_, q, _⟩ := hit; exact Heap.lt_size q
    rw [upd_ne (Nat.ne_of_lt (Nat.lt_of_lt_of_le hb' hTn))]
    exact (hf b hb).1
  done := by
    intro X hP hw hK hc i pins s σ H E I hf st hg
    subst hP hw hK
    obtain ⟨he, hit, hne, hea⟩ := st
    obtain ⟨xs, hq, hx⟩ := hg
    obtain ⟨its, rv, hT, hz⟩ := I.tuple hq
    obtain ⟨f0, f1, f2, f3, f4, f5⟩ := hf it (by simp)
    have hl := rv.length
    have D := draws_end (prog := X.prog) (w := X.w) (A := X.A.in1) (I.ok.hd hc) it a (tup_ne hT hit) its.toArray i (by rw [List.size_toArray]; omega)
    have W := GoesN.enumFrom (elts := elts) (x1 := kk) (pos := tpos) 0 D e hne (by simp [hne, hea]) (by simp)
    exact W.stops s (fun s1 => Inv X pins σ H s1) E ⟨he, rfl, hit, hT⟩ fun h' tk hk htk => I.turnedL (ch := [e, it]) (fun b ob hb q => hk b ob hb q) hf
  self := fun A i s Q E st h => let ⟨⟨_, he⟩, _⟩ := st; wpAny_pyIter_enum he h
def iEnumT (K : PySem.W.Frag) (ta : TA) : TI := fun σ H R => ta σ H fun vs H1 => ∃ a, vs = [.ref a] ∧ ((∃ xs, SqL K H1 a xs ∧ R (Ite K a) H1) ∨ ∃ xs, SqT K H1 a xs ∧ R (IteT K a) H1)
theorem pi_enumT {X : Cx} {e : Expr} {ta : TA} {p pos tpos : Pos} {elts : List Expr} {kk : Nat} (hg : Gl X "enumerate") (hm : X.mg "enumerate" = none) (ha : PA X [e] ta) (hs : starEach [e] X.env = [(false, eval e X.env)] := by rfl) :
    PI X (.Tuple elts kk tpos) (.Call (.Name "enumerate" p) [e] [] pos) (iEnumT X.K ta) := by
  refine ⟨fun pins s σ H R I h => ?_⟩
  refine Call_ (ld_blt I hg hm boot_enumerate (PyProof.Rows.callWith_type1 (thn (ha.run pos pins s σ H _ I h) fun us s1 ⟨vs, H1, I1, r1, q1⟩ => ?_) hs rfl))
  obtain ⟨a, ex, q1⟩ := q1
  subst ex
  cases r1 with
  | cons r rr =>
    cases rr
    cases r
    have fps : ∀ b ∈ [s1.heap.objs.size + 1, s1.heap.objs.size], FpOk X pins H1 b := fun b hb => by
      have e' : b = s1.heap.objs.size + 1 ∨ b = s1.heap.objs.size := by simpa using hb
      have hle : s1.heap.objs.size ≤ b := by
        rcases e' with z | z
        · rw [z]; exact Nat.le_add_right _ _
        · rw [z]; exact Nat.le_refl _
      exact I1.fpOk hle (I1.hok.fresh hle)
    rcases q1 with ⟨xs, hq, q⟩ | ⟨xs, hq, q⟩
    · obtain ⟨its, rv, p', hz⟩ := I1.list hq
      refine call_enumerate_list p'.isList fun h' he hit hsz hk => wpAny_pyIter_enum he ?_
      have I2 : Inv X pins σ H1 { s1 with heap := h' } := I1.kept (t' := s1.toks) hk
      exact ⟨s1.heap.objs.size + 1, [s1.heap.objs.size + 1, s1.heap.objs.size], _, _, H1, rfl, I2, turn_enum a (s1.heap.objs.size + 1) s1.heap.objs.size, ⟨⟨.none, he⟩, hit, Nat.succ_ne_self _⟩, fps, q⟩
    · obtain ⟨its, rv, hT, hz⟩ := I1.tuple hq
      refine enum_begins1 (begins_tuple a its.toArray) hT fun h' he hit hsz hk => wpAny_pyIter_enum he ?_
      have I2 : Inv X pins σ H1 { s1 with heap := h' } := I1.kept (t' := s1.toks) hk
      have hlt : a < s1.heap.objs.size := by obtain ⟨o, ho, _⟩ := hT; exact Heap.lt_size ho
      exact ⟨s1.heap.objs.size + 1, [s1.heap.objs.size + 1, s1.heap.objs.size], _, _, H1, rfl, I2, turn_enumT a (s1.heap.objs.size + 1) s1.heap.objs.size, ⟨⟨.none, he⟩, ⟨_, hit, rfl, rfl⟩, Nat.succ_ne_self _, Nat.ne_of_gt (Nat.lt_succ_of_lt hlt)⟩, fps, q⟩
end G
/-! S12: zip of three lists, of three tuples. -/
namespace G
open PySem PySem.Spec L2 PyProof.Rows
/-- a list (false), a tuple (true) -/
def SqB (t : Bool) (K : PySem.W.Frag) (H : Hp) (a : Addr) (xs : List V) : Prop := if t = true then SqT K H a xs else SqL K H a xs
def atB (t : Bool) (h : Heap) (a : Addr) (its : Array Value) : Prop := if t = true then h.IsTuple a its else h.IsList a its
def itB (t : Bool) (h : Heap) (it a : Addr) (i : Nat) : Prop := if t = true then h.IsTupleIter it a i else h.IsListIter it a i
def itO (t : Bool) (a : Addr) : Obj := if t = true then { cls := .type "tuple_iterator", data := .fields #[.ref a, .int 0 0] } else { cls := .type "list_iterator", data := .fields #[.ref a, .int 0 0] }
theorem itB_obj {t : Bool} {h : Heap} {it a : Addr} {i : Nat} (q : itB t h it a i) : ∃ o, h.get? it = some o ∧ (∀ v, o.data ≠ .cell v) ∧ o.cls ≠ .type "tuple" ∧ o.cls ≠ .type "list" := by
  unfold itB at q
  split at q
  · obtain ⟨o, ho, hc, hd⟩ := q
    exact ⟨o, ho, (fun v z => by rw [hd] at z; cases z), (by rw [hc]; decide), (by rw [hc]; decide)⟩
  · obtain ⟨o, ho, hc, hd⟩ := q
    exact ⟨o, ho, (fun v z => by rw [hd] at z; cases z), (by rw [hc]; decide), (by rw [hc]; decide)⟩
theorem itB_at {t : Bool} {h h' : Heap} {it a : Addr} {i : Nat} (q : itB t h it a i) (k : ∀ o, h.get? it = some o → h'.get? it = some o) : itB t h' it a i := by
  unfold itB at q ⊢
  split at q
  · rename_i z; rw [if_pos z]; exact q.at k
  · rename_i z; rw [if_neg z]; exact q.at k
theorem atB_obj {t : Bool} {h : Heap} {a : Addr} {its : Array Value} (q : atB t h a its) : ∃ o, h.get? a = some o ∧ (o.cls = .type "tuple" ∨ o.cls = .type "list") := by
  unfold atB at q
  split at q
  · obtain ⟨o, ho, hc, _⟩ := q; exact ⟨o, ho, .inl hc⟩
  · obtain ⟨o, ho, hc, _⟩ := q; exact ⟨o, ho, .inr hc⟩
theorem atB_ne {t : Bool} {h : Heap} {a it b : Addr} {its : Array Value} {i : Nat} (q : atB t h a its) (p : itB t h it b i) : a ≠ it := fun e => by
  subst e
  obtain ⟨o, ho, hc⟩ := atB_obj q
  obtain ⟨o', ho', _, h1, h2⟩ := itB_obj p
  rw [ho] at ho'
  cases ho'
  rcases hc with z | z
  · exact h1 z
  · exact h2 z
theorem draws_b {t : Bool} {prog : Program} {w : World} {A : Around} (hh : A.handled = none) (it a : Addr) (hne : a ≠ it) (items : Array Value) :
    Draws prog w A it [it, a] items.size (fun i v => items[i]? = some v) (fun i h => itB t h it a i ∧ atB t h a items) := by
  cases t
  · exact Draws.list hh it a hne items
  · exact Draws.tuple hh it a hne items
theorem begins_b {t : Bool} (a : Addr) (items : Array Value) : Begins (.ref a) (itO t a) fun h => atB t h a items := by
  cases t
  · exact begins_list a items
  · exact begins_tuple a items
theorem itB_new {t : Bool} {h : Heap} {it a : Addr} (e : h.get? it = some (itO t a)) : itB t h it a 0 := by
  cases t
  · exact ⟨_, e, rfl, rfl⟩
  · exact ⟨_, e, rfl, rfl⟩
section
variable {X : Cx} {pins : List (Addr × Obj)} {σ : L2.St} {H : Hp} {s : Shared}
theorem seq_b {t : Bool} {a : Addr} {xs : List V} (I : Inv X pins σ H s) (q : SqB t X.K H a xs) : ∃ its : List Value, Vals xs its ∧ atB t s.heap a its.toArray := by
  cases t
  · obtain ⟨its, rv, p, _⟩ := I.list q
    exact ⟨its, rv, p.isList⟩
  · obtain ⟨its, rv, p, _⟩ := I.tuple q
    exact ⟨its, rv, p⟩
theorem inj_b {t : Bool} {a : Addr} {xs ys : List V} (I : Inv X pins σ H s) (q : SqB t X.K H a xs) (q' : SqB t X.K H a ys) : xs = ys := by
  cases t
  · exact I.list_inj q q'
  · exact I.tuple_inj q q'
end
/-- the three at a, b and c as they stand at each turn, the items in new tuples -/
def Itz3 (t : Bool) (K : PySem.W.Frag) (a b c : Addr) : It :=
  ⟨fun i H => ∃ (xs ys zs : List V) (x y z : V), SqB t K H a xs ∧ SqB t K H b ys ∧ SqB t K H c zs ∧ xs[i]? = some x ∧ ys[i]? = some y ∧ zs[i]? = some z,
    fun i H v H' => ∃ T x y z, v = .ref T ∧ H T = none ∧ H' = upd H T (.tup [x, y, z]) ∧ (∀ xs, SqB t K H a xs → xs[i]? = some x) ∧ (∀ ys, SqB t K H b ys → ys[i]? = some y) ∧ ∀ zs, SqB t K H c zs → zs[i]? = some z,
    fun i H => ∃ xs ys zs : List V, SqB t K H a xs ∧ SqB t K H b ys ∧ SqB t K H c zs ∧ i = min (min xs.length ys.length) zs.length⟩
structure Z3 (z TI TO i1 i2 i3 a b c : Addr) : Prop where
  sep : ZipSep3 z TI TO i1 i2 i3 [i1, a] [i2, b] [i3, c]
theorem turn_zip3 {t : Bool} {P : Program} {w : World} {K : PySem.W.Frag} {elts : List Expr} {kk : Nat} {tpos : Pos} {a b c z TI TO i1 i2 i3 : Addr} (D : Z3 z TI TO i1 i2 i3 a b c) :
    Turn P w K (.Tuple elts kk tpos) (Itz3 t K a b c) [z, TI, TO, i1, i2, i3] z (fun i h => IsZip h z TI TO .none ∧ IsTupOf3 h TI (.ref i1) (.ref i2) (.ref i3) ∧ (∃ x y u, IsTupOf3 h TO x y u) ∧ itB t h i1 a i ∧ itB t h i2 b i ∧ itB t h i3 c i) where
  mem := by simp
  obj := fun i h st d hd => by
    obtain ⟨hz, hTI, ⟨x, y, u, hTO⟩, h1, h2, h3⟩ := st
    have e' : d = z ∨ d = TI ∨ d = TO ∨ d = i1 ∨ d = i2 ∨ d = i3 := by simpa using hd
    rcases e' with q | q | q | q | q | q
    · rw [q]; exact ⟨_, hz, fun v q => nomatch q⟩
    · rw [q]; exact ⟨_, hTI, fun v q => nomatch q⟩
    · rw [q]; exact ⟨_, hTO, fun v q => nomatch q⟩
    · rw [q]; obtain ⟨o, ho, hn, _⟩ := itB_obj h1; exact ⟨o, ho, hn⟩
    · rw [q]; obtain ⟨o, ho, hn, _⟩ := itB_obj h2; exact ⟨o, ho, hn⟩
    · rw [q]; obtain ⟨o, ho, hn, _⟩ := itB_obj h3; exact ⟨o, ho, hn⟩
  keep := fun i h h' st k => by
    obtain ⟨hz, hTI, ⟨x, y, u, hTO⟩, h1, h2, h3⟩ := st
    exact ⟨k z (by simp) _ hz, k TI (by simp) _ hTI, ⟨x, y, u, k TO (by simp) _ hTO⟩, itB_at h1 fun o q => k i1 (by simp) o q, itB_at h2 fun o q => k i2 (by simp) o q, itB_at h3 fun o q => k i3 (by simp) o q⟩
  item := by
    intro X hP hw hK hc i pins s σ H E I hf st hg
    subst hP hw hK
    obtain ⟨hz, hTI, hTO, h1, h2, h3⟩ := st
    obtain ⟨xs, ys, zs, x, y, u, qx, qy, qz, hx, hy, hu⟩ := hg
    obtain ⟨its, rv, p⟩ := seq_b I qx
    obtain ⟨its2, rv2, p2⟩ := seq_b I qy
    obtain ⟨its3, rv3, p3⟩ := seq_b I qz
    obtain ⟨v1, hv1, r1⟩ := rv.get hx
    obtain ⟨v2, hv2, r2⟩ := rv2.get hy
    obtain ⟨v3, hv3, r3⟩ := rv3.get hu
    have l1 : i < its.toArray.size := by simpa using (List.getElem?_eq_some_iff.mp hv1).1
    have l2 : i < its2.toArray.size := by simpa using (List.getElem?_eq_some_iff.mp hv2).1
    have l3 : i < its3.toArray.size := by simpa using (List.getElem?_eq_some_iff.mp hv3).1
    have hh := I.ok.hd hc
    have D1 := draws_b (t := t) (prog := X.prog) (w := X.w) (A := X.A.in1) hh i1 a (atB_ne p h1) its.toArray
    have D2 := draws_b (t := t) (prog := X.prog) (w := X.w) (A := X.A.in1) hh i2 b (atB_ne p2 h2) its2.toArray
    have D3 := draws_b (t := t) (prog := X.prog) (w := X.w) (A := X.A.in1) hh i3 c (atB_ne p3 h3) its3.toArray
    have W := GoesN.zip3 (elts := elts) (x1 := kk) (pos := tpos) D.sep D1 D2 D3
    refine W.goes i s (fun u s2 => ∃ x H', Inv X pins σ H' s2 ∧ RelV x u ∧ (Itz3 t X.K a b c).yld i H x H' ∧ (IsZip s2.heap z TI TO .none ∧ IsTupOf3 s2.heap TI (.ref i1) (.ref i2) (.ref i3) ∧ (∃ x y u, IsTupOf3 s2.heap TO x y u) ∧ itB t s2.heap i1 a (i + 1) ∧ itB t s2.heap i2 b (i + 1) ∧ itB t s2.heap i3 c (i + 1)) ∧ ∀ b ∈ [z, TI, TO, i1, i2, i3], H' b = none) E (by omega) ⟨hz, hTI, hTO, ⟨h1, p⟩, ⟨h2, p2⟩, ⟨h3, p3⟩⟩ fun v h' tk hY st' hk htk => ?_
    obtain ⟨T, w1, w2, w3, rfl, hTn, g1, g2, g3, hT2⟩ := hY
    obtain rfl : w1 = v1 := Option.some.inj (g1.symm.trans (by simpa using hv1))
    obtain rfl : w2 = v2 := Option.some.inj (g2.symm.trans (by simpa using hv2))
    obtain rfl : w3 = v3 := Option.some.inj (g3.symm.trans (by simpa using hv3))
    obtain ⟨hz', hTI', hTO', ⟨k1, _⟩, ⟨k2, _⟩, ⟨k3, _⟩⟩ := st'
    have new : ObjOk X.prog X.w (upd H T (.tup [x, y, u])) h' T (.tup [x, y, u]) :=
      ⟨by show 3 ≤ sizeLine; decide, [w1, w2, w3], .cons r1 (.cons r2 (.cons r3 .nil)), hT2⟩
    have I1 : Inv X pins σ (upd H T (.tup [x, y, u])) { s with heap := h', toks := tk } := I.turnedNew (ch := [z, TI, TO, i1, i2, i3]) (fun b ob hb q => hk b ob (fun m => hb (by
      have m : b = z ∨ b = TO ∨ b = i1 ∨ b = i2 ∨ b = i3 := by simpa using m
      simp only [List.mem_cons, List.not_mem_nil, or_false]
      rcases m with m | m | m | m | m <;> simp [m])) q) hf hTn new
    refine ⟨.ref T, _, I1, rfl, ⟨T, x, y, u, rfl, I.hok.fresh hTn, rfl, fun l hl => by rw [inj_b I hl qx]; exact hx, fun l hl => by rw [inj_b I hl qy]; exact hy, fun l hl => by rw [inj_b I hl qz]; exact hu⟩, ⟨hz', hTI', hTO', k1, k2, k3⟩, fun d hd => ?_⟩
    have hlt : d < s.heap.objs.size := by
      have e' : d = z ∨ d = TI ∨ d = TO ∨ d = i1 ∨ d = i2 ∨ d = i3 := by simpa using hd
      obtain ⟨x, y, u, hTO⟩ := hTO
      rcases e' with q | q | q | q | q | q
      · rw [q]; exact Heap.lt_size hz
      · rw [q]; exact Heap.lt_size hTI
      · rw [q]; exact Heap.lt_size hTO
      · rw [q]; obtain ⟨_, e1, _⟩ := itB_obj h1; exact Heap.lt_size e1
      · rw [q]; obtain ⟨_, e1, _⟩ := itB_obj h2; exact Heap.lt_size e1
      · rw [q]; obtain ⟨_, e1, _⟩ := itB_obj h3; exact Heap.lt_size e1
    rw [upd_ne (Nat.ne_of_lt (Nat.lt_of_lt_of_le hlt hTn))]
    exact (hf d hd).1
  done := by
    intro X hP hw hK hc i pins s σ H E I hf st hg
    subst hP hw hK
    obtain ⟨hz, hTI, hTO, h1, h2, h3⟩ := st
    obtain ⟨xs, ys, zs, qx, qy, qz, hi⟩ := hg
    obtain ⟨its, rv, p⟩ := seq_b I qx
    obtain ⟨its2, rv2, p2⟩ := seq_b I qy
    obtain ⟨its3, rv3, p3⟩ := seq_b I qz
    have l1 := rv.length
    have l2 := rv2.length
    have l3 := rv3.length
    have hh := I.ok.hd hc
    have D1 := draws_b (t := t) (prog := X.prog) (w := X.w) (A := X.A.in1) hh i1 a (atB_ne p h1) its.toArray
    have D2 := draws_b (t := t) (prog := X.prog) (w := X.w) (A := X.A.in1) hh i2 b (atB_ne p2 h2) its2.toArray
    have D3 := draws_b (t := t) (prog := X.prog) (w := X.w) (A := X.A.in1) hh i3 c (atB_ne p3 h3) its3.toArray
    have W := GoesN.zip3 (elts := elts) (x1 := kk) (pos := tpos) D.sep D1 D2 D3
    have en : min (min its.toArray.size its2.toArray.size) its3.toArray.size = i := by simp only [List.size_toArray]; omega
    refine W.stops s (fun s1 => Inv X pins σ H s1) E ?_ fun h' tk hk htk => I.turnedL (ch := [z, TI, TO, i1, i2, i3]) (fun b ob hb q => hk b ob (fun m => hb (by
      have m : b = z ∨ b = TO ∨ b = i1 ∨ b = i2 ∨ b = i3 := by simpa using m
      simp only [List.mem_cons, List.not_mem_nil, or_false]
      rcases m with m | m | m | m | m <;> simp [m])) q) hf
    rw [en]
    exact ⟨hz, hTI, hTO, ⟨h1, p⟩, ⟨h2, p2⟩, ⟨h3, p3⟩⟩
  self := fun A i s Q E st h => wpAny_pyIter_zip st.1 h
def iZip3 (K : PySem.W.Frag) (ta : TA) : TI := fun σ H R => ta σ H fun vs H1 => ∃ (t : Bool) (a b c : Addr) (xs ys zs : List V), vs = [.ref a, .ref b, .ref c] ∧ SqB t K H1 a xs ∧ SqB t K H1 b ys ∧ SqB t K H1 c zs ∧ R (Itz3 t K a b c) H1
theorem pi_zip3 {X : Cx} {e e2 e3 : Expr} {ta : TA} {p pos tpos : Pos} {elts : List Expr} {kk : Nat} (hg : Gl X "zip") (hm : X.mg "zip" = none) (ha : PA X [e, e2, e3] ta)
    (hs : starEach [e, e2, e3] X.env = (false, eval e X.env) :: starEach [e2, e3] X.env) (hpl : (backTo pos (starEach [e2, e3] X.env)).any (·.1) = false) :
    PI X (.Tuple elts kk tpos) (.Call (.Name "zip" p) [e, e2, e3] [] pos) (iZip3 X.K ta) := by
  refine ⟨fun pins s σ H R I h => ?_⟩
  refine Call_ (ld_blt I hg hm PyProof.Rows.boot_zip (PyProof.Rows.callWith_type1 (thn (ha.run pos pins s σ H _ I h) fun us s1 ⟨vs, H1, I1, r1, q1⟩ => ?_) hs hpl))
  obtain ⟨t, a, b, c, xs, ys, zs, ex, qx, qy, qz, q⟩ := q1
  subst ex
  cases r1 with
  | cons r rr =>
    cases rr with
    | cons r' rr =>
      cases rr with
      | cons r'' rr =>
        cases rr
        cases r
        cases r'
        cases r''
        have fresh : ∀ d, d ∈ [s1.heap.objs.size + 5, s1.heap.objs.size + 3, s1.heap.objs.size + 4, s1.heap.objs.size, s1.heap.objs.size + 1, s1.heap.objs.size + 2] → FpOk X pins H1 d := fun d hd => by
          have e' : d = s1.heap.objs.size + 5 ∨ d = s1.heap.objs.size + 3 ∨ d = s1.heap.objs.size + 4 ∨ d = s1.heap.objs.size ∨ d = s1.heap.objs.size + 1 ∨ d = s1.heap.objs.size + 2 := by simpa using hd
          have hle : s1.heap.objs.size ≤ d := by
            rcases e' with z | z | z | z | z | z <;> rw [z] <;> first | exact Nat.le_refl _ | exact Nat.le_add_right _ _
          exact I1.fpOk hle (I1.hok.fresh hle)
        obtain ⟨its, rv, p1⟩ := seq_b I1 qx
        obtain ⟨its2, rv2, p2⟩ := seq_b I1 qy
        obtain ⟨its3, rv3, p3⟩ := seq_b I1 qz
        obtain ⟨o1, ho1, _⟩ := atB_obj p1
        obtain ⟨o2, ho2, _⟩ := atB_obj p2
        obtain ⟨o3, ho3, _⟩ := atB_obj p3
        refine zip_begins3 (begins_b (t := t) a its.toArray) (begins_b (t := t) b its2.toArray) (begins_b (t := t) c its3.toArray) p1 p2 p3 fun h' hz hTI hTO g1 g2 g3 hsz hk => wpAny_pyIter_zip hz ?_
        have I2 : Inv X pins σ H1 { s1 with heap := h' } := I1.kept (t' := s1.toks) hk
        have sp : ZipSep3 (s1.heap.objs.size + 5) (s1.heap.objs.size + 3) (s1.heap.objs.size + 4) s1.heap.objs.size (s1.heap.objs.size + 1) (s1.heap.objs.size + 2) [s1.heap.objs.size, a] [s1.heap.objs.size + 1, b] [s1.heap.objs.size + 2, c] :=
          zip_sep3 (fp1 := [a]) (fp2 := [b]) (fp3 := [c]) (fun d hd => by rw [List.mem_singleton.mp hd]; exact Heap.lt_size ho1) (fun d hd => by rw [List.mem_singleton.mp hd]; exact Heap.lt_size ho2) (fun d hd => by rw [List.mem_singleton.mp hd]; exact Heap.lt_size ho3)
        exact ⟨s1.heap.objs.size + 5, [s1.heap.objs.size + 5, s1.heap.objs.size + 3, s1.heap.objs.size + 4, s1.heap.objs.size, s1.heap.objs.size + 1, s1.heap.objs.size + 2], _, _, H1, rfl, I2, turn_zip3 ⟨sp⟩, ⟨hz, hTI, ⟨_, _, _, hTO⟩, itB_new g1, itB_new g2, itB_new g3⟩, fresh, q⟩
end G
/-! S6: pairs of ints in order. -/
namespace G
open PySem PySem.Spec L2 PyProof.Rows
def rOrdT (K : PySem.W.Frag) (op : CmpOp) : R2 := fun x y H Q => ∃ (a b : Addr) (i j k l : Int), x = .ref a ∧ y = .ref b ∧ SqT K H a [.int i, .int j] ∧ SqT K H b [.int k, .int l] ∧ Q (.bl (ordP op i j k l)) H
theorem lex_pair {op : CmpOp} {z : Bool} {i j k l : Int} (hz : ∀ a : Int, ordI op a a = z) : Ob.lexAt (fun n => decide ([i, j].getD n 0 = [k, l].getD n 0)) (fun n => ordI op ([i, j].getD n 0) ([k, l].getD n 0)) z 0 2 = ordP op i j k l := by
  rw [Ob.lexAt_succ, Ob.lexAt_succ, Ob.lexAt_zero]
  simp only [List.getD_cons_zero, List.getD_cons_succ, Nat.zero_add, decide_eq_true_eq]
  unfold ordP
  by_cases h : i = k
  · rw [if_pos h, if_pos h]
    by_cases h2 : j = l
    · rw [if_pos h2, h2, hz]
    · rw [if_neg h2]
  · rw [if_neg h, if_neg h]
theorem op_ord {X : Cx} {op : CmpOp} {z : Bool} (hop : ∀ a b, compareOp op a b = richCompare op a b) (hz : ∀ a : Int, ordI op a a = z)
    (hi : ∀ (A : Around) (s : Shared) (a b : Int) (t u : Tok), Ob.RcOp op A s (.int a t) (.int b u) (ordI op a b))
    (ht : ∀ {A : Around} {s : Shared} {l b : Addr} {items items2 : Array Value} {e r : Nat → Bool}, s.heap.IsTuple l items → s.heap.IsTuple b items2 → A.units < cLine → items.size = 2 → items2.size = 2 →
      (∀ j (h1 : j < items.size) (h2 : j < items2.size), SeqAt.EqAt A.in1 s items[j] items2[j] (e j)) → (∀ j (h1 : j < items.size) (h2 : j < items2.size), e j = false → Ob.RcOp op A.in1 s items[j] items2[j] (r j)) → Ob.RcOp op A s (.ref l) (.ref b) (Ob.lexAt e r z 0 2))
    (hu : X.A.units < cLine) : L2.OpR X (compareOp op) (rOrdT X.K op) := by
  intro pins s σ H x y v u Q I rx ry h
  obtain ⟨a, b, i, j, k, l, rfl, rfl, ha, hb, q⟩ := h
  cases rx
  cases ry
  obtain ⟨its, r1, p1, _⟩ := I.tuple ha
  obtain ⟨its2, r2, p2, _⟩ := I.tuple hb
  have i1 : IntsAre its [i, j] := Vals.ints (ns := [i, j]) r1
  have i2 : IntsAre its2 [k, l] := Vals.ints (ns := [k, l]) r2
  have e1 : its.toArray.size = 2 := by rw [List.size_toArray]; exact i1.length
  have e2 : its2.toArray.size = 2 := by rw [List.size_toArray]; exact i2.length
  have at1 : ∀ n (h1 : n < its.toArray.size), ∃ t, its.toArray[n] = .int ([i, j].getD n 0) t := fun n h1 => PyProof.Rows.IntsAre.int_at i1 _ _ (by simp at h1; simp [h1])
  have at2 : ∀ n (h1 : n < its2.toArray.size), ∃ t, its2.toArray[n] = .int ([k, l].getD n 0) t := fun n h1 => PyProof.Rows.IntsAre.int_at i2 _ _ (by simp at h1; simp [h1])
  have R := ht (A := X.A) (s := s) (e := fun n => decide ([i, j].getD n 0 = [k, l].getD n 0)) (r := fun n => ordI op ([i, j].getD n 0) ([k, l].getD n 0)) p1 p2 hu e1 e2 (fun n h1 h2 => by
    obtain ⟨t, et⟩ := at1 n h1
    obtain ⟨t', et'⟩ := at2 n h2
    rw [et, et']
    have z : ([i, j].getD n 0 == [k, l].getD n 0) = decide ([i, j].getD n 0 = [k, l].getD n 0) := by
      by_cases q : [i, j].getD n 0 = [k, l].getD n 0
      · rw [decide_eq_true q]; exact beq_iff_eq.mpr q
      · rw [decide_eq_false q]; exact beq_eq_false_iff_ne.mpr q
    rw [← z]
    exact SeqAt.EqAt.int_int _ _ _ _) (fun n h1 h2 _ => by
    obtain ⟨t, et⟩ := at1 n h1
    obtain ⟨t', et'⟩ := at2 n h2
    rw [et, et']
    exact hi _ _ _ _ _ _)
  rw [lex_pair hz] at R
  rw [hop]
  exact R X.prog X.w X.xe (EP X pins σ Q) ⟨.bl _, H, I, rfl, q⟩
theorem op_ltP {X : Cx} (hu : X.A.units < cLine) : L2.OpR X (compareOp .Lt) (rOrdT X.K .Lt) := op_ord (z := false) (fun _ _ => rfl) (fun a => by simp [ordI]) (fun A s a b t u => Ob.RcOp.lt_int a b t u) (fun h1 h2 h3 h4 h5 h6 h7 => by have q := Ob.RcOp.tuples_lt h1 h2 h3 h6 h7; rw [h4, h5] at q; exact q) hu
theorem op_leP {X : Cx} (hu : X.A.units < cLine) : L2.OpR X (compareOp .LtE) (rOrdT X.K .LtE) := op_ord (z := true) (fun _ _ => rfl) (fun a => by simp [ordI]) (fun A s a b t u => Ob.RcOp.le_int a b t u) (fun h1 h2 h3 h4 h5 h6 h7 => by have q := Ob.RcOp.tuples_le h1 h2 h3 h6 h7; rw [h4, h5] at q; exact q) hu
theorem op_gtP {X : Cx} (hu : X.A.units < cLine) : L2.OpR X (compareOp .Gt) (rOrdT X.K .Gt) := op_ord (z := false) (fun _ _ => rfl) (fun a => by simp [ordI]) (fun A s a b t u => Ob.RcOp.gt_int a b t u) (fun h1 h2 h3 h4 h5 h6 h7 => by have q := Ob.RcOp.tuples_gt h1 h2 h3 h6 h7; rw [h4, h5] at q; exact q) hu
theorem op_geP {X : Cx} (hu : X.A.units < cLine) : L2.OpR X (compareOp .GtE) (rOrdT X.K .GtE) := op_ord (z := true) (fun _ _ => rfl) (fun a => by simp [ordI]) (fun A s a b t u => Ob.RcOp.ge_int a b t u) (fun h1 h2 h3 h4 h5 h6 h7 => by have q := Ob.RcOp.tuples_ge h1 h2 h3 h6 h7; rw [h4, h5] at q; exact q) hu
end G
/-! A2: each form of expression keeps its meaning. -/
namespace G
open PySem PySem.Spec L2

section
variable {X : Cx} {P : PP} {Γ : Fns} {Xp : XP} {pos : Pos} {x y z : Expr} {a b c : E}

theorem EX.pure {σ : L2.St} {H : Hp} {env : Env} {F : Hp} {v : V} {d : D} (e : EX P σ H env F) (r : Rep P.L F d v) : EXv P σ H env F v (.val d) := let ⟨A, e⟩ := e; ⟨A, e, r⟩
theorem EXv.ex {σ : L2.St} {H : Hp} {env : Env} {F : Hp} {v : V} {r : RV} (e : EXv P σ H env F v r) : EX P σ H env F := let ⟨A, e, _⟩ := e; ⟨A, e⟩
theorem EX.sub {σ : L2.St} {H : Hp} {env : Env} {F : Hp} (e : EX P σ H env F) : LeH F H := let ⟨_, e⟩ := e; e.sub
theorem EX.res {σ : L2.St} {H : Hp} {env : Env} {F : Hp} (e : EX P σ H env F) {o : Op} {v : V} {d : D} (h : OpR P F σ v o) (q : res env o = some d) : Top P F H d v := let ⟨_, e⟩ := e; e.res h q
theorem line_eq : line = sizeLine := by rw [sizeLine_eq]; rfl

/-- a name that is looked at -/
theorem o_ref {i : Nat} (h : PE X x (tVar i)) : PE X x (tO P Γ Xp (.ref i)) := pe_imp h fun σ H Q h => by
  obtain ⟨env, F, R, ex, w, k⟩ := h
  obtain ⟨A, e⟩ := id ex
  unfold opd at w
  dsimp only at w
  cases hx : env[i]? with
  | none => rw [hx] at w; exact w.elim
  | some y => cases y with
    | none => rw [hx] at w; exact w.elim
    | some z =>
      rw [hx] at w
      have : ∃ v, σ[i]? = some (some v) := by
        cases z with
        | val d => obtain ⟨v, h, _⟩ := e.val i d hx; exact ⟨v, h⟩
        | own o => exact ⟨_, (e.own i o (by rw [hx]; rfl)).1⟩
        | bor o => exact ⟨_, (e.own i o (by rw [hx]; rfl)).1⟩
      obtain ⟨v, hv⟩ := this
      exact ⟨v, hv, k _ env v H F w (LeH.refl F) ex hv⟩
theorem o_of (hr : ∀ i, a ≠ .ref i) (h : PE X x (tE P Γ Xp a)) : PE X x (tO P Γ Xp a) := pe_imp h fun σ H Q h => by
  obtain ⟨env, F, R, ex, w, k⟩ := h
  have w' : wE Γ a env Xp fun r env' => R (.d r.toD) env' := by
    cases a <;> first
      | exact w
      | exact absurd rfl (hr _)
  refine ⟨env, F, _, ex, w', fun r env' v H' F' q m e => ?_⟩
  obtain ⟨F2, m2, rp, e2⟩ := e.freeze
  exact k _ env' v H' F2 q (m.trans m2) e2 rp
theorem e_var {i : Nat} (h : PE X x (tVar i)) : PE X x (tE P Γ Xp (.var i)) := pe_imp h fun σ H Q h => by
  obtain ⟨env, F, R, ex, w, k⟩ := h
  obtain ⟨A, e⟩ := id ex
  simp only [wE] at w
  cases hx : env[i]? with
  | none => rw [hx] at w; exact w.elim
  | some y => cases y with
    | none => rw [hx] at w; exact w.elim
    | some z =>
      rw [hx] at w
      cases z with
      | val d =>
        obtain ⟨v, h1, h2⟩ := e.val i d hx
        exact ⟨v, h1, k _ env v H F w (LeH.refl F) (ex.pure h2)⟩
      | own o =>
        obtain ⟨F', m, rp, e'⟩ := e.freeze hx
        exact ⟨_, (e.own i o (by rw [hx]; rfl)).1, k _ _ _ H F' w m ⟨A, e', rp⟩⟩
      | bor o => exact w.elim
theorem e_con {d : D} {v : V} (h : PE X x (tC v)) (r : ∀ F, Rep P.L F d v) : PE X x (tE P Γ Xp (.con d)) := pe_imp h fun σ H Q h => by
  obtain ⟨env, F, R, ex, w, k⟩ := h
  exact k _ env v H F w (LeH.refl F) (ex.pure (r F))
/-- two operands, then an operation that asks r2 -/
theorem two {r2 : R2} {W2 : Option D → Option D → (RV → Prop) → Prop}
    (core : ∀ (σ : L2.St) (H : Hp) (env : Env) (F : Hp) (o1 o2 : Op) (v1 v2 : V) (R : RV → Prop) (Q : VK), EX P σ H env F → OpR P F σ v1 o1 → OpR P F σ v2 o2 → W2 (res env o1) (res env o2) R →
      (∀ r v H' F', R r → LeH F F' → EXv P σ H' env F' v r → Q v H') → r2 v1 v2 H Q)
    {σ : L2.St} {H : Hp} {Q : VK} {env : Env} {F : Hp} {R : PostE} (ex : EX P σ H env F)
    (w : opd a (wE Γ a) env Xp fun p env1 => opd b (wE Γ b) env1 Xp fun q env2 => W2 (res env2 p) (res env2 q) fun r => R r env2)
    (k : ∀ r env' v H' F', R r env' → LeH F F' → EXv P σ H' env' F' v r → Q v H') : tOp r2 (tO P Γ Xp a) (tO P Γ Xp b) σ H Q := by
  refine ⟨env, F, _, ex, w, fun o1 env1 v1 H1 F1 w1 m1 e1 p1 => ⟨env1, F1, _, e1, w1, fun o2 env2 v2 H2 F2 w2 m2 e2 p2 => ?_⟩⟩
  exact core σ H2 env2 F2 o1 o2 v1 v2 _ Q e2 (p1.mono m2) p2 w2 fun r v H' F' hr m e => k r env2 v H' F' hr ((m1.trans m2).trans m) e
theorem OpR2.or {f : Value → Value → Sem Value} {r r' : R2} (h : L2.OpR X f r) (h' : L2.OpR X f r') : L2.OpR X f (fun x y H Q => r x y H Q ∨ r' x y H Q) := by
  intro pins s σ H x y v u Q I rx ry q
  rcases q with q | q
  · exact h pins s σ H x y v u Q I rx ry q
  · exact h' pins s σ H x y v u Q I rx ry q
theorem OpR2.no {f : Value → Value → Sem Value} : L2.OpR X f (fun _ _ _ _ => False) := fun _ _ _ _ _ _ _ _ _ _ _ _ q => q.elim

/-- the rule of an operator -/
def rBin (K : PySem.W.Frag) : Operator → R2
  | .Add => fun x y H Q => rI0 (fun i j => .int (i + j)) x y H Q ∨ (∃ i j, x = .str i ∧ y = .str j ∧ i.length + j.length ≤ sizeLine ∧ Q (.str (i ++ j)) H) ∨ rCat x y H Q ∨ rCatA K x y H Q
  | .Sub => rI0 fun i j => .int (i - j)
  | .Mult => fun x y H Q => rI CMulW (fun i j => .int (i * j)) x y H Q ∨ rRep x y H Q ∨ rRepA K x y H Q
  | .FloorDiv => rI CDivW fun i j => .int (i / j)
  | .Mod => rI (fun _ j => 0 < j) fun i j => .int (i % j)
  | .Pow => rI CPow fun i j => .int (i ^ j.toNat)
  | _ => fun _ _ _ _ => False
theorem op_bin (op : Operator) : L2.OpR X (binaryOp op) (rBin X.K op) := by
  cases op with
  | Add => exact OpR2.or op_add (OpR2.or op_add_str (OpR2.or op_cat op_catA))
  | Sub => exact op_sub
  | Mult => exact OpR2.or op_mulW (OpR2.or op_rep op_repA)
  | FloorDiv => exact op_fdivW
  | Mod => exact op_mod
  | Pow => exact op_pow
  | _ => exact OpR2.no
theorem int_post {σ : L2.St} {H : Hp} {env : Env} {F : Hp} {Q : VK} {R : RV → Prop} {i : Int} (ex : EX P σ H env F) (k : ∀ r v H' F', R r → LeH F F' → EXv P σ H' env F' v r → Q v H') (h : R (.val (.int i))) : Q (.int i) H :=
  k _ _ H F h (LeH.refl F) (ex.pure rfl)
theorem bl_post {σ : L2.St} {H : Hp} {env : Env} {F : Hp} {Q : VK} {R : RV → Prop} {i : Bool} (ex : EX P σ H env F) (k : ∀ r v H' F', R r → LeH F F' → EXv P σ H' env F' v r → Q v H') (h : R (.val (.bl i))) : Q (.bl i) H :=
  k _ _ H F h (LeH.refl F) (ex.pure rfl)
/-- a new tuple -/
theorem tup_post {σ : L2.St} {H : Hp} {env : Env} {F : Hp} {Q : VK} {R : RV → Prop} {vs : List V} {ds : List D} {p : Addr} (ex : EX P σ H env F) (k : ∀ r v H' F', R r → LeH F F' → EXv P σ H' env F' v r → Q v H')
    (h : R (.val (.tup ds))) (hp : H p = none) (r : Reps P.L F ds vs) : Q (.ref p) (upd H p (.tup vs)) := by
  have m : LeH F (upd F p (.tup vs)) := LeH.upd (ex.nop hp)
  exact k _ _ _ _ h m ((ex.froze hp).pure ⟨p, vs, rfl, .inl (.inl upd_same), Reps.mono m _ _ r⟩)
theorem lst_post {σ : L2.St} {H : Hp} {env : Env} {F : Hp} {Q : VK} {R : RV → Prop} {vs : List V} {ds : List D} {p : Addr} (ex : EX P σ H env F) (k : ∀ r v H' F', R r → LeH F F' → EXv P σ H' env F' v r → Q v H')
    (h : R (.fr (.lst ds))) (hp : H p = none) (r : Reps P.L F ds vs) : Q (.ref p) (upd H p (.lst vs)) := k _ _ _ _ h (LeH.refl F) (ex.fresh hp r)
theorem Reps.nil_iff {L : Lay} {F : Hp} {ds : List D} {vs : List V} (r : Reps L F ds vs) : vs = [] ↔ ds = [] := by
  cases ds with
  | nil => rw [show vs = [] from r]; simp
  | cons d ds => obtain ⟨v, r, e, _⟩ := r; rw [e]; simp
theorem Top.rtup {H F : Hp} {ds : List D} {v : V} (t : Top P F H (.tup ds) v) : Rep P.L F (.tup ds) v := by
  rcases t with t | ⟨p, o, rfl, q, t⟩
  · exact t
  · cases o <;> cases q
theorem Reps.rep {L : Lay} {F : Hp} {ds : List D} {vs : List V} (r : Reps L F ds vs) : ∀ m, Reps L F (List.replicate m ds).flatten (List.replicate m vs).flatten
  | 0 => rfl
  | m + 1 => by
    rw [List.replicate_succ, List.flatten_cons, List.replicate_succ, List.flatten_cons]
    exact r.append (Reps.rep r m)
theorem bin_core (hK : X.K = P.L.K) {op : Operator} (σ : L2.St) (H : Hp) (env : Env) (F : Hp) (o1 o2 : Op) (v1 v2 : V) (R : RV → Prop) (Q : VK) (ex : EX P σ H env F) (p1 : OpR P F σ v1 o1) (p2 : OpR P F σ v2 o2) (w : binW op (res env o1) (res env o2) R)
    (k : ∀ r v H' F', R r → LeH F F' → EXv P σ H' env F' v r → Q v H') : rBin X.K op v1 v2 H Q := by
  generalize q1 : res env o1 = d1 at w
  generalize q2 : res env o2 = d2 at w
  unfold binW at w
  split at w
  · exact .inl ⟨_, _, (ex.res p1 q1).int, (ex.res p2 q2).int, int_post ex k w⟩
  · exact ⟨_, _, (ex.res p1 q1).int, (ex.res p2 q2).int, int_post ex k w⟩
  · exact .inl ⟨_, _, (ex.res p1 q1).int, (ex.res p2 q2).int, w.1, int_post ex k w.2⟩
  · exact ⟨_, _, (ex.res p1 q1).int, (ex.res p2 q2).int, w.1, int_post ex k w.2⟩
  · exact ⟨_, _, (ex.res p1 q1).int, (ex.res p2 q2).int, w.1, int_post ex k w.2⟩
  · exact ⟨_, _, (ex.res p1 q1).int, (ex.res p2 q2).int, w.1, int_post ex k w.2⟩
  · refine .inr (.inl ⟨_, _, (ex.res p1 q1).str.1, (ex.res p2 q2).str.1, by rw [← line_eq]; exact w.1, ?_⟩)
    exact k _ _ H F w.2 (LeH.refl F) (ex.pure ⟨rfl, by rw [show ∀ s t : Str, (s ++ t).length = s.length + t.length from fun s t => Array.size_append]; exact w.1⟩)
  · obtain ⟨a1, vs1, rfl, h1, r1⟩ := (ex.res p1 q1).lst ex.sub
    obtain ⟨a2, vs2, rfl, h2, r2⟩ := (ex.res p2 q2).lst ex.sub
    refine .inr (.inr (.inl ⟨_, _, _, _, rfl, rfl, h1, h2, by rw [r1.length, r2.length, ← line_eq]; exact w.1, fun p hp => ?_⟩))
    exact lst_post ex k w.2 hp (r1.append r2)
  · have t1 := (ex.res p1 q1).rtup
    have t2 := (ex.res p2 q2).rtup
    obtain ⟨a1, vs1, rfl, h1, r1⟩ := id t1
    obtain ⟨a2, vs2, rfl, h2, r2⟩ := id t2
    refine .inr (.inr (.inr ⟨_, _, _, _, rfl, rfl, by rw [hK]; exact sqT_mono ex.sub h1, by rw [hK]; exact sqT_mono ex.sub h2, by rw [r1.length, r2.length, ← line_eq]; exact w.1, fun e => ?_, fun _ e => ?_, fun _ _ p hp => ?_⟩))
    · have e' := r1.nil_iff.mp e
      exact k _ _ H F w.2 (LeH.refl F) (ex.pure (by rw [e', List.nil_append]; exact t2))
    · have e' := r2.nil_iff.mp e
      exact k _ _ H F w.2 (LeH.refl F) (ex.pure (by rw [e', List.append_nil]; exact t1))
    · exact tup_post ex k w.2 hp (r1.append r2)
  · obtain ⟨a1, vs1, rfl, h1, r1⟩ := (ex.res p1 q1).lst ex.sub
    refine .inr (.inl ⟨_, _, _, rfl, (ex.res p2 q2).int, h1, by have := w.1.1; omega, by have := w.1.2.1; omega, ?_, fun p hp => lst_post ex k w.2 hp (Reps.rep r1 _)⟩)
    rw [r1.length]
    have h2 := w.1.2.2
    rename_i xs n
    have h3 : n.toNat ≤ 1000 := by have := w.1.2.1; omega
    have := Nat.mul_le_mul h2 h3
    rw [← line_eq]
    exact Nat.le_trans this (by decide)
  · have t1 := (ex.res p1 q1).rtup
    obtain ⟨a1, vs1, rfl, h1, r1⟩ := id t1
    refine .inr (.inr ⟨_, _, _, rfl, (ex.res p2 q2).int, by rw [hK]; exact sqT_mono ex.sub h1, w.1.1, w.1.2.1, by rw [r1.length]; exact w.1.2.2, fun z => ?_, fun _ _ p hp => ?_⟩)
    · refine k _ _ H F w.2 (LeH.refl F) (ex.pure ?_)
      have e : ∀ (n : Int) (ds : List D), Reps P.L F ds vs1 → (vs1 = [] ∨ n = 1) → (List.replicate n.toNat ds).flatten = ds := by
        intro n ds r1 z
        rcases z with z | z
        · have := r1.nil_iff.mp z
          rw [this]
          generalize n.toNat = m
          induction m with
          | zero => rfl
          | succ m ih => rw [List.replicate_succ, List.flatten_cons, ih]; rfl
        · rw [z]; simp
      rw [e _ _ r1 z]
      exact t1
    · refine tup_post ex k w.2 hp ?_
      exact Reps.rep r1 _
  · exact w.elim
theorem e_bin {op : Operator} (hK : X.K = P.L.K) (ha : PE X x (tO P Γ Xp a)) (hb : PE X y (tO P Γ Xp b)) : PE X (.BinOp x op y pos) (tE P Γ Xp (.bin op a b)) := pe_imp (pe_op (op_bin op) ha hb) fun σ H Q h => by
  obtain ⟨env, F, R, ex, w, k⟩ := h
  simp only [wE] at w
  exact two (W2 := binW op) (bin_core hK) ex w k
theorem e_neg (ha : PE X x (tO P Γ Xp a)) : PE X (.UnaryOp .USub x pos) (tE P Γ Xp (.neg a)) := pe_imp (pe_un un_neg ha) fun σ H Q h => by
  obtain ⟨env, F, R, ex, w, k⟩ := h
  simp only [wE] at w
  refine ⟨env, F, _, ex, w, fun o1 env1 v1 H1 F1 w1 m1 e1 p1 => ?_⟩
  obtain ⟨i, q, w1⟩ := w1
  exact ⟨i, (e1.res p1 q).int, k _ _ _ H1 F1 w1 m1 (e1.pure rfl)⟩

/-! ### comparisons -/
/-! plain data in a heap, as the layer says it -/
mutual
theorem rep_dp {H : Hp} : ∀ (d : D) (v : V), plain d = true → Rep P.L H d v → Dp P.L.K H v (toPy d)
  | .non, _, _, h => by rw [show _ = V.non from h]; exact .non
  | .bl _, _, _, h => by rw [show _ = V.bl _ from h]; exact .bl _
  | .int _, _, _, h => by rw [show _ = V.int _ from h]; exact .int _
  | .str _, _, _, h => by rw [show _ = V.str _ from h.1]; exact .str _
  | .tup ds, v, p, ⟨a, vs, e, s, r⟩ => by
    subst e
    exact .tup s (reps_dp ds vs (by simpa [plain] using p) r)
  | .lst ds, v, p, ⟨a, vs, e, s, r⟩ => by
    subst e
    exact .lst (.inl (.inl s)) (reps_dp ds vs (by simpa [plain] using p) r)
  | .dct _ _ _, _, p, _ => by simp [plain] at p
  | .ins _ _, _, p, _ => by simp [plain] at p
  | .fn _, _, p, _ => by simp [plain] at p
  | .scr _, _, p, _ => by simp [plain] at p
  | .exn _, _, p, _ => by simp [plain] at p
theorem reps_dp {H : Hp} : ∀ (ds : List D) (vs : List V), plains ds = true → Reps P.L H ds vs → DpAll P.L.K H vs (toPys ds)
  | [], _, _, h => by rw [show _ = ([] : List V) from h]; exact .nil
  | d :: ds, _, p, ⟨v, r, e, h1, h2⟩ => by
    subst e
    have p' : plain d = true ∧ plains ds = true := by simpa [plains] using p
    exact .cons (rep_dp d v p'.1 h1) (reps_dp ds r p'.2 h2)
end
mutual
theorem plain_toPy : ∀ d : D, plain d = true → (toPy d).plain = true
  | .non, _ => rfl
  | .bl _, _ => rfl
  | .int _, _ => rfl
  | .str _, _ => rfl
  | .tup xs, h => by simp only [toPy, PyData.plain]; exact plains_toPy xs (by simpa [plain] using h)
  | .lst xs, h => by simp only [toPy, PyData.plain]; exact plains_toPy xs (by simpa [plain] using h)
  | .dct _ _ _, h => by simp [plain] at h
  | .ins _ _, h => by simp [plain] at h
  | .fn _, h => by simp [plain] at h
  | .scr _, h => by simp [plain] at h
  | .exn _, h => by simp [plain] at h
theorem plains_toPy : ∀ ds : List D, plains ds = true → PyData.plainAll (toPys ds) = true
  | [], _ => rfl
  | d :: ds, h => by
    simp only [plains, Bool.and_eq_true] at h
    simp only [toPys, PyData.plainAll, Bool.and_eq_true]
    exact ⟨plain_toPy d h.1, plains_toPy ds h.2⟩
end
theorem flats_ok {n : Nat} (ih : ∀ d : D, flat n d = true → plain d = true ∧ (toPy d).depth ≤ n) : ∀ xs : List D, xs.all (flat n) = true → plains xs = true ∧ PyData.depthAll (toPys xs) ≤ n
  | [], _ => ⟨rfl, Nat.zero_le _⟩
  | x :: xs, h => by
    simp only [List.all_cons, Bool.and_eq_true] at h
    obtain ⟨a, b⟩ := ih x h.1
    obtain ⟨c, d⟩ := flats_ok ih xs h.2
    refine ⟨by simp only [plains, a, c, Bool.and_self], ?_⟩
    simp only [toPys, PyData.depthAll]
    omega
theorem flat_ok : ∀ (n : Nat) (d : D), flat n d = true → plain d = true ∧ (toPy d).depth ≤ n
  | n, .non, _ => ⟨rfl, Nat.zero_le _⟩
  | n, .bl _, _ => ⟨rfl, Nat.zero_le _⟩
  | n, .int _, _ => ⟨rfl, Nat.zero_le _⟩
  | n, .str _, _ => ⟨rfl, Nat.zero_le _⟩
  | 0, .tup _, h => by simp [flat] at h
  | 0, .lst _, h => by simp [flat] at h
  | n + 1, .tup xs, h => by
    obtain ⟨a, b⟩ := flats_ok (flat_ok n) xs (by simpa [flat] using h)
    exact ⟨by simpa [plain] using a, by simp only [toPy, PyData.depth]; omega⟩
  | n + 1, .lst xs, h => by
    obtain ⟨a, b⟩ := flats_ok (flat_ok n) xs (by simpa [flat] using h)
    exact ⟨by simpa [plain] using a, by simp only [toPy, PyData.depth]; omega⟩
  | n, .dct _ _ _, h => by cases n <;> simp [flat] at h
  | n, .ins _ _, h => by cases n <;> simp [flat] at h
  | n, .fn _, h => by cases n <;> simp [flat] at h
  | n, .scr _, h => by cases n <;> simp [flat] at h
  | n, .exn _, h => by cases n <;> simp [flat] at h
/-- data that may be compared -/
def shp (d : PyData) : Bool := d.plain && decide (d.depth ≤ 60)
theorem okPy.both {d : D} (h : okPy d) : plain d = true ∧ shp (toPy d) = true := by
  obtain ⟨a, b⟩ := flat_ok 60 d h
  exact ⟨a, by unfold shp; rw [plain_toPy d a, Bool.true_and]; exact decide_eq_true b⟩
theorem shp_plain {d : PyData} (h : shp d = true) : d.plain = true := (Bool.and_eq_true_iff.mp h).1
theorem shp_depth {d : PyData} (h : shp d = true) : d.depth ≤ 60 := of_decide_eq_true (Bool.and_eq_true_iff.mp h).2
theorem shp_all {ds : List PyData} (h : shp (.list ds) = true) : PyData.plainAll ds = true ∧ PyData.depthAll ds ≤ 60 := by
  have a := shp_plain h
  have b := shp_depth h
  simp only [PyData.plain] at a
  simp only [PyData.depth] at b
  exact ⟨a, by omega⟩
def rEqP (K : PySem.W.Frag) (neg : Bool) : R2 := fun x y H Q => ∃ d e, Dp K H x d ∧ Dp K H y e ∧ shp d = true ∧ shp e = true ∧ Q (.bl (if neg then !PyData.eqv d e else PyData.eqv d e)) H
theorem op_eqP (hu : X.A.units + 150 < cLine) : L2.OpR X (compareOp .Eq) (rEqP X.K false) := by
  intro pins s σ H x y v u Q I rx ry h
  obtain ⟨d, e, h1, h2, s1, s2, q⟩ := h
  obtain ⟨as, r1⟩ := Dp.reads I d x v h1 rx
  obtain ⟨bs, r2⟩ := Dp.reads I e y u h2 ry
  exact SeqAt.eq_plain r1 r2 (shp_plain s1) (shp_plain s2) (by have := shp_depth s1; have := Nat.min_le_left d.depth e.depth; omega) ⟨.bl _, H, I, rfl, q⟩
theorem op_neP (hu : X.A.units + 150 < cLine) : L2.OpR X (compareOp .NotEq) (rEqP X.K true) := by
  intro pins s σ H x y v u Q I rx ry h
  obtain ⟨d, e, h1, h2, s1, s2, q⟩ := h
  obtain ⟨as, r1⟩ := Dp.reads I d x v h1 rx
  obtain ⟨bs, r2⟩ := Dp.reads I e y u h2 ry
  exact SeqAt.ne_plain r1 r2 (shp_plain s1) (shp_plain s2) (by have := shp_depth s1; have := Nat.min_le_left d.depth e.depth; omega) ⟨.bl _, H, I, rfl, q⟩
/-- == to one that is empty -/
def rEqE (K : PySem.W.Frag) (neg : Bool) : R2 := fun x y H Q => ∃ a b xs, x = .ref a ∧ y = .ref b ∧ (SqT K H a xs ∧ SqT K H b [] ∨ H a = some (.lst xs) ∧ H b = some (.lst [])) ∧ Q (.bl (if neg then !xs.isEmpty else xs.isEmpty)) H
theorem is_tup {h : Heap} {a : Addr} {vs : Array Value} (t : PyProof.Rows.IsTup h a vs) : h.IsTuple a vs := t
theorem emp_size {vs : List V} {us : List Value} (r : Vals vs us) : (us.toArray.size == (#[] : Array Value).size) = vs.isEmpty := by
  cases r <;> rfl
theorem op_eqE (hu : X.A.units + 150 < cLine) : L2.OpR X (compareOp .Eq) (rEqE X.K false) := by
  intro pins s σ H x y v u Q I rx ry h
  obtain ⟨a, b, xs, rfl, rfl, h, q⟩ := h
  cases rx
  cases ry
  rcases h with ⟨h1, h2⟩ | ⟨h1, h2⟩
  · obtain ⟨its, r1, p1, _⟩ := I.tuple h1
    obtain ⟨its2, r2, p2, _⟩ := I.tuple h2
    cases r2
    refine SeqAt.eq_tupleAt (e := fun _ => true) p1 p2 (by omega) (fun j _ h2 => absurd h2 (by simp)) ⟨.bl _, H, I, rfl, ?_⟩
    rw [emp_size r1, List.all_eq_true.mpr (fun _ _ => rfl), Bool.true_and]
    exact q
  · obtain ⟨its, n, r1, p1, _⟩ := I.lst h1
    obtain ⟨its2, n2, r2, p2, _⟩ := I.lst h2
    cases r2
    cases r1 with
    | nil =>
      refine SeqAt.eq_listAt (e := fun _ => true) (items := #[]) (items2 := #[]) ⟨_, p1, rfl, n, rfl⟩ ⟨_, p2, rfl, n2, rfl⟩ rfl (by omega) (fun j _ h2 => absurd h2 (by simp)) ⟨.bl _, H, I, rfl, ?_⟩
      exact q
    | cons a t => exact SeqAt.eq_list_lengthsAt ⟨_, p1, rfl, n, rfl⟩ ⟨_, p2, rfl, n2, rfl⟩ rfl (by omega) ⟨.bl _, H, I, rfl, q⟩
theorem op_neE (hu : X.A.units + 150 < cLine) : L2.OpR X (compareOp .NotEq) (rEqE X.K true) := by
  intro pins s σ H x y v u Q I rx ry h
  obtain ⟨a, b, xs, rfl, rfl, h, q⟩ := h
  cases rx
  cases ry
  rcases h with ⟨h1, h2⟩ | ⟨h1, h2⟩
  · obtain ⟨its, r1, p1, _⟩ := I.tuple h1
    obtain ⟨its2, r2, p2, _⟩ := I.tuple h2
    cases r2
    refine SeqAt.RcNeAt.tuples (e := fun _ => true) p1 p2 (by omega) (fun j _ h2 => absurd h2 (by simp)) _ _ _ _ ⟨.bl _, H, I, rfl, ?_⟩
    rw [emp_size r1, List.all_eq_true.mpr (fun _ _ => rfl), Bool.true_and]
    exact q
  · obtain ⟨its, n, r1, p1, _⟩ := I.lst h1
    obtain ⟨its2, n2, r2, p2, _⟩ := I.lst h2
    cases r2
    cases r1 with
    | nil =>
      refine SeqAt.RcNeAt.lists (e := fun _ => true) (items := #[]) (items2 := #[]) ⟨_, p1, rfl, n, rfl⟩ ⟨_, p2, rfl, n2, rfl⟩ rfl (by omega) (fun j _ h2 => absurd h2 (by simp)) _ _ _ _ ⟨.bl _, H, I, rfl, ?_⟩
      exact q
    | cons a t => exact SeqAt.RcNeAt.lists_lengths ⟨_, p1, rfl, n, rfl⟩ ⟨_, p2, rfl, n2, rfl⟩ rfl (by omega) _ _ _ _ ⟨.bl _, H, I, rfl, q⟩
instance memKD : ∀ (k : Key) (ks : List Key), Decidable (k ∈ ks)
  | _, [] => .isFalse (by simp)
  | k, x :: ks => if e : k = x then .isTrue (by rw [e]; exact List.mem_cons_self ..) else match memKD k ks with
    | .isTrue h => .isTrue (List.mem_cons_of_mem _ h)
    | .isFalse h => .isFalse (fun z => (List.mem_cons.mp z).elim e h)
def nb (neg : Bool) (b : Bool) : Bool := if neg then !b else b
/-- in, not in -/
def rInA (L : Lay) (neg : Bool) : R2 := fun x y H Q =>
  (∃ (c : Nat) (z : Str), x = .str ⟨#[c]⟩ ∧ y = .str z ∧ Q (.bl (nb neg (decide (c ∈ z.cps.toList)))) H) ∨
  (∃ (wr : Bool) (a : Addr) (ks : List Key) (ws : List V) (z : Str), x = .str z ∧ y = .ref a ∧ DctAt L H wr a ks ws ∧ Q (.bl (nb neg (decide (Sum.inr z ∈ ks)))) H) ∨
  ∃ d ds, Dp L.K H x d ∧ (Dp L.K H y (.list ds) ∨ Dp L.K H y (.tuple ds)) ∧ shp d = true ∧ shp (.list ds) = true ∧ Q (.bl (nb neg (ds.any fun z => PyData.eqv z d))) H
theorem valV_zip_none {ks : List Key} : ∀ {ws : List V} {k : Key}, k ∉ ks → valV (ks.zip ws) k = none := by
  induction ks with
  | nil => intro ws k _; rfl
  | cons x ks ih =>
    intro ws k h
    cases ws with
    | nil => rfl
    | cons w ws =>
      rw [List.zip_cons_cons, valV_neg (fun e => h (by rw [← e]; exact List.mem_cons_self ..))]
      exact ih fun z => h (List.mem_cons_of_mem _ z)
theorem valV_zip_some {ks : List Key} : ∀ {ws : List V} {k : Key}, ks.length = ws.length → k ∈ ks → ∃ v, valV (ks.zip ws) k = some v := by
  induction ks with
  | nil => intro ws k _ h; simp at h
  | cons x ks ih =>
    intro ws k hl h
    cases ws with
    | nil => simp at hl
    | cons w ws =>
      by_cases e : x = k
      · exact ⟨w, by rw [List.zip_cons_cons, valV_pos e]⟩
      · rcases List.mem_cons.mp h with z | z
        · exact absurd z.symm e
        · obtain ⟨v, hv⟩ := ih (ws := ws) (by simpa using hl) z
          exact ⟨v, by rw [List.zip_cons_cons, valV_neg e]; exact hv⟩
theorem dct_isSome {L : Lay} {H : Hp} {wr : Bool} {a : Addr} {ks : List Key} {ws : List V} (h : DctAt L H wr a ks ws) (k : Key) : (valV (ks.zip ws) k).isSome = decide (k ∈ ks) := by
  by_cases q : k ∈ ks
  · obtain ⟨v, hv⟩ := valV_zip_some h.1 q
    rw [hv, decide_eq_true q]; rfl
  · rw [valV_zip_none q, decide_eq_false q]; rfl
theorem op_inA (hK : X.K = P.L.K) (hW : X.w = P.L.w) (hu : X.A.units + 150 < cLine) : L2.OpR X (compareOp .In) (rInA P.L false) := by
  intro pins s σ H x y v u Q I rx ry h
  rcases h with ⟨c, z, h1, h2, q⟩ | ⟨wr, a, ks, ws, z, h1, h2, hd, q⟩ | ⟨d, ds, h1, h2, s1, s2, q⟩
  · exact op_in_sign pins s σ H x y v u Q I rx ry ⟨c, z, h1, h2, q⟩
  · rcases id hd.2 with ⟨_, hd'⟩ | ⟨_, es, n, kd, no, yes⟩
    · subst h1; subst h2
      cases ry
      refine d_in (by omega) I (.k (k := .inr z) hd') rx fun s' I' => ⟨.bl _, H, I', rfl, ?_⟩
      rw [dct_isSome hd]
      exact q
    · have kd' : KDict X.K X.w a es n := by rw [hK, hW]; exact kd
      by_cases m : Sum.inr z ∈ ks
      · obtain ⟨i, hi, e⟩ := List.getElem_of_mem m
        have hi' : i < ws.length := by rw [← hd.1]; exact hi
        obtain ⟨z', u', ez, hn, _⟩ := yes i _ ws[i] (by rw [List.getElem?_eq_getElem hi, e]) (List.getElem?_eq_getElem hi')
        cases ez
        refine op_in_kd kd' pins s σ H x y v u Q I rx ry ⟨z, some u', h1, h2, by rw [hK]; exact hn, ?_⟩
        rw [decide_eq_true m] at q
        exact q
      · refine op_in_kd kd' pins s σ H x y v u Q I rx ry ⟨z, none, h1, h2, by rw [hK]; exact no z m, ?_⟩
        rw [decide_eq_false m] at q
        exact q
  · rcases h2 with h2 | h2
    · obtain ⟨as, r1⟩ := Dp.reads I d x v (by rw [hK]; exact h1) rx
      obtain ⟨bs, r2⟩ := Dp.reads I (.list ds) y u (by rw [hK]; exact h2) ry
      exact SeqAt.in_list_data r2 r1 (shp_all s2).1 (shp_plain s1) (by have := shp_depth s1; have := Nat.min_le_right (PyData.depthAll ds) d.depth; omega) ⟨.bl _, H, I, rfl, q⟩
    · obtain ⟨as, r1⟩ := Dp.reads I d x v (by rw [hK]; exact h1) rx
      obtain ⟨bs, r2⟩ := Dp.reads I (.tuple ds) y u (by rw [hK]; exact h2) ry
      exact SeqAt.in_tuple_data r2 r1 (shp_all s2).1 (shp_plain s1) (by have := shp_depth s1; have := Nat.min_le_right (PyData.depthAll ds) d.depth; omega) ⟨.bl _, H, I, rfl, q⟩
theorem op_notInA (hK : X.K = P.L.K) (hW : X.w = P.L.w) (hu : X.A.units + 150 < cLine) : L2.OpR X (compareOp .NotIn) (rInA P.L true) := by
  intro pins s σ H x y v u Q I rx ry h
  rcases h with ⟨c, z, h1, h2, q⟩ | ⟨wr, a, ks, ws, z, h1, h2, hd, q⟩ | ⟨d, ds, h1, h2, s1, s2, q⟩
  · exact op_notIn_sign pins s σ H x y v u Q I rx ry ⟨c, z, h1, h2, q⟩
  · rcases id hd.2 with ⟨_, hd'⟩ | ⟨_, es, n, kd, no, yes⟩
    · subst h1; subst h2
      cases ry
      refine d_notIn (by omega) I (.k (k := .inr z) hd') rx fun s' I' => ⟨.bl _, H, I', rfl, ?_⟩
      rw [dct_isSome hd]
      exact q
    · have kd' : KDict X.K X.w a es n := by rw [hK, hW]; exact kd
      by_cases m : Sum.inr z ∈ ks
      · obtain ⟨i, hi, e⟩ := List.getElem_of_mem m
        have hi' : i < ws.length := by rw [← hd.1]; exact hi
        obtain ⟨z', u', ez, hn, _⟩ := yes i _ ws[i] (by rw [List.getElem?_eq_getElem hi, e]) (List.getElem?_eq_getElem hi')
        cases ez
        refine op_notIn_kd kd' pins s σ H x y v u Q I rx ry ⟨z, some u', h1, h2, by rw [hK]; exact hn, ?_⟩
        rw [decide_eq_true m] at q
        exact q
      · refine op_notIn_kd kd' pins s σ H x y v u Q I rx ry ⟨z, none, h1, h2, by rw [hK]; exact no z m, ?_⟩
        rw [decide_eq_false m] at q
        exact q
  · rcases h2 with h2 | h2
    · obtain ⟨as, r1⟩ := Dp.reads I d x v (by rw [hK]; exact h1) rx
      obtain ⟨bs, r2⟩ := Dp.reads I (.list ds) y u (by rw [hK]; exact h2) ry
      exact SeqAt.notIn_list_data r2 r1 (shp_all s2).1 (shp_plain s1) (by have := shp_depth s1; have := Nat.min_le_right (PyData.depthAll ds) d.depth; omega) ⟨.bl _, H, I, rfl, q⟩
    · obtain ⟨as, r1⟩ := Dp.reads I d x v (by rw [hK]; exact h1) rx
      obtain ⟨bs, r2⟩ := Dp.reads I (.tuple ds) y u (by rw [hK]; exact h2) ry
      exact SeqAt.notIn_tuple_data r2 r1 (shp_all s2).1 (shp_plain s1) (by have := shp_depth s1; have := Nat.min_le_right (PyData.depthAll ds) d.depth; omega) ⟨.bl _, H, I, rfl, q⟩
def rCmp (L : Lay) : CmpOp → R2
  | .Lt => fun x y H Q => rI0 (fun i j => .bl (decide (i < j))) x y H Q ∨ rOrdT L.K .Lt x y H Q
  | .LtE => fun x y H Q => rI0 (fun i j => .bl (decide (i ≤ j))) x y H Q ∨ rOrdT L.K .LtE x y H Q
  | .Gt => fun x y H Q => rI0 (fun i j => .bl (decide (j < i))) x y H Q ∨ rOrdT L.K .Gt x y H Q
  | .GtE => fun x y H Q => rI0 (fun i j => .bl (decide (j ≤ i))) x y H Q ∨ rOrdT L.K .GtE x y H Q
  | .Eq => fun x y H Q => rEq x y H Q ∨ rEqP L.K false x y H Q ∨ rEqE L.K false x y H Q
  | .NotEq => fun x y H Q => rNe x y H Q ∨ rEqP L.K true x y H Q ∨ rEqE L.K true x y H Q
  | .Is => fun x y H Q => (y = .non ∧ Q (.bl (decide (x = .non))) H) ∨ ∃ a b, x = .bl a ∧ y = .bl b ∧ Q (.bl (decide (a = b))) H
  | .IsNot => fun x y H Q => (y = .non ∧ Q (.bl (!decide (x = .non))) H) ∨ ∃ a b, x = .bl a ∧ y = .bl b ∧ Q (.bl (!decide (a = b))) H
  | .In => rInA L false
  | .NotIn => rInA L true
theorem op_cmp (hK : X.K = P.L.K) (hW : X.w = P.L.w) (hu : X.A.units + 150 < cLine) (op : CmpOp) : L2.OpR X (compareOp op) (rCmp P.L op) := by
  cases op with
  | Lt => exact OpR2.or op_lt (by rw [← hK]; exact op_ltP (by omega))
  | LtE => exact OpR2.or op_le (by rw [← hK]; exact op_leP (by omega))
  | Gt => exact OpR2.or op_gt (by rw [← hK]; exact op_gtP (by omega))
  | GtE => exact OpR2.or op_ge (by rw [← hK]; exact op_geP (by omega))
  | Eq => exact OpR2.or op_eq (by rw [← hK]; exact OpR2.or (op_eqP hu) (op_eqE hu))
  | NotEq => exact OpR2.or op_ne (by rw [← hK]; exact OpR2.or (op_neP hu) (op_neE hu))
  | Is => exact OpR2.or op_isN op_is_bl
  | IsNot => exact OpR2.or op_notN op_isnot_bl
  | In => exact op_inA hK hW hu
  | NotIn => exact op_notInA hK hW hu
/-- a dict's part -/
theorem look_at {L : Lay} {F : Hp} : ∀ {ks : List Key} {ds : List D} {ws : List V} {k : Key} {d : D}, Reps L F ds ws → ks.length = ws.length → lookK ks ds k = some d → ∃ (i : Nat) (v : V), ks[i]? = some k ∧ ws[i]? = some v ∧ Rep L F d v ∧ valV (ks.zip ws) k = some v
  | [], ds, _, _, _, _, _, h => by cases ds <;> simp [lookK] at h
  | _ :: _, [], _, _, _, _, _, h => by simp [lookK] at h
  | x :: ks, d' :: ds, ws, k, d, ⟨v, r, e, h1, h2⟩, hl, h => by
    subst e
    by_cases z : x = k
    · simp only [lookK, z, if_true, Option.some.injEq] at h
      subst h
      exact ⟨0, v, by simp [z], rfl, h1, by rw [List.zip_cons_cons, valV_pos z]⟩
    · simp only [lookK, z, if_false] at h
      obtain ⟨i, w, a1, a2, a3, a4⟩ := look_at h2 (by simpa using hl) h
      exact ⟨i + 1, w, by simpa using a1, by simpa using a2, a3, by rw [List.zip_cons_cons, valV_neg z]; exact a4⟩
theorem look_mem : ∀ {ks : List Key} {ds : List D} {k : Key}, ks.length = ds.length → (lookK ks ds k).isSome = decide (k ∈ ks)
  | [], ds, _, _ => by cases ds <;> simp [lookK]
  | _ :: _, [], _, h => by simp at h
  | x :: ks, d :: ds, k, h => by
    by_cases z : x = k
    · simp [lookK, z]
    · simp only [lookK, z, if_false]
      rw [look_mem (by simpa using h)]
      have : ¬ k = x := fun q => z q.symm
      simp [this]
theorem toPys_map : ∀ ds : List D, toPys ds = ds.map toPy
  | [] => by simp [toPys]
  | d :: ds => by simp [toPys, toPys_map ds]
theorem any_eqD {ys : List D} {x : D} : (toPys ys).any (fun z => PyData.eqv z (toPy x)) = ys.any fun y => eqD y x := by
  rw [toPys_map, List.any_map]
  rfl
theorem is_non {H F : Hp} {d : D} {v : V} (t : Top P F H d v) : decide (v = V.non) = isNon d := by
  rcases t with t | ⟨p, o, rfl, q, t⟩
  · cases d with
    | non => rw [show v = V.non from t]; rfl
    | bl b => rw [show v = V.bl b from t]; rfl
    | int i => rw [show v = V.int i from t]; rfl
    | str s => rw [show v = V.str s from t.1]; rfl
    | tup ds => obtain ⟨a, vs, rfl, _⟩ := t; rfl
    | lst ds => obtain ⟨a, vs, rfl, _⟩ := t; rfl
    | dct w ks ds => obtain ⟨a, ws, rfl, _⟩ := t; rfl
    | ins c ds => obtain ⟨a, _, _, _, rfl, _⟩ := t; rfl
    | fn f => rw [show v = V.ref (P.L.fn f) from t]; rfl
    | scr ns => obtain ⟨a, rfl, _⟩ := t; rfl
    | exn a => rw [show v = V.ref a from t]; rfl
  · cases o with
    | lst xs => cases q; rfl
    | ins c fs => cases q; rfl
theorem reps_emp {L : Lay} {F : Hp} {ds : List D} {vs : List V} (r : Reps L F ds vs) : vs.isEmpty = ds.isEmpty := by
  have := r.length
  cases ds <;> cases vs <;> simp_all
theorem pair_at {P : PP} {F H : Hp} {i j : Int} {v : V} (t : Top P F H (.tup [.int i, .int j]) v) (m : LeH F H) : ∃ a, v = .ref a ∧ SqT P.L.K H a [.int i, .int j] := by
  obtain ⟨a, vs, rfl, h, r⟩ := t.tup m
  obtain ⟨w, r', rfl, e1, w2, r2, rfl, e2, e3⟩ := r
  obtain rfl : w = .int i := e1
  obtain rfl : w2 = .int j := e2
  obtain rfl : r2 = [] := e3
  exact ⟨a, rfl, h⟩
theorem pair_ord {P : PP} {op : CmpOp} {F H : Hp} {i j k l : Int} {v u : V} {Q : VK} (t : Top P F H (.tup [.int i, .int j]) v) (t' : Top P F H (.tup [.int k, .int l]) u) (m : LeH F H) (q : Q (.bl (ordP op i j k l)) H) : rOrdT P.L.K op v u H Q := by
  obtain ⟨a, rfl, h⟩ := pair_at t m
  obtain ⟨b, rfl, h'⟩ := pair_at t' m
  exact ⟨a, b, i, j, k, l, rfl, rfl, h, h', q⟩
theorem cmp_core {op : CmpOp} {H : Hp} {env : Env} {σ : L2.St} {F : Hp} {o1 o2 : Op} {v1 v2 : V} {R : Bool → Prop} {Q : VK} (ex : EX P σ H env F) (p1 : OpR P F σ v1 o1) (p2 : OpR P F σ v2 o2) (w : cmpW op (res env o1) (res env o2) R)
    (k : ∀ b, R b → Q (.bl b) H) : rCmp P.L op v1 v2 H Q := by
  generalize q1 : res env o1 = d1 at w
  generalize q2 : res env o2 = d2 at w
  unfold cmpW at w
  split at w
  · exact .inl ⟨_, _, (ex.res p1 q1).int, (ex.res p2 q2).int, k _ w⟩
  · exact .inl ⟨_, _, (ex.res p1 q1).int, (ex.res p2 q2).int, k _ w⟩
  · exact .inl ⟨_, _, (ex.res p1 q1).int, (ex.res p2 q2).int, k _ w⟩
  · exact .inl ⟨_, _, (ex.res p1 q1).int, (ex.res p2 q2).int, k _ w⟩
  · exact .inr (pair_ord (ex.res p1 q1) (ex.res p2 q2) ex.sub (k _ w))
  · exact .inr (pair_ord (ex.res p1 q1) (ex.res p2 q2) ex.sub (k _ w))
  · exact .inr (pair_ord (ex.res p1 q1) (ex.res p2 q2) ex.sub (k _ w))
  · exact .inr (pair_ord (ex.res p1 q1) (ex.res p2 q2) ex.sub (k _ w))
  · rw [(ex.res p1 q1).int, (ex.res p2 q2).int]
    exact .inl ⟨rfl, by rw [dec_int, Bool.beq_eq_decide_eq]; exact k _ w⟩
  · rw [(ex.res p1 q1).int, (ex.res p2 q2).int]
    exact .inl ⟨rfl, by rw [dec_int, Bool.beq_eq_decide_eq]; exact k _ w⟩
  · rw [(ex.res p1 q1).str.1, (ex.res p2 q2).str.1]
    exact .inl ⟨rfl, by rw [dec_str, Bool.beq_eq_decide_eq]; exact k _ w⟩
  · rw [(ex.res p1 q1).str.1, (ex.res p2 q2).str.1]
    exact .inl ⟨rfl, by rw [dec_str, Bool.beq_eq_decide_eq]; exact k _ w⟩
  · exact .inl ⟨(ex.res p2 q2).non, by rw [is_non (ex.res p1 q1)]; exact k _ w⟩
  · exact .inl ⟨(ex.res p2 q2).non, by rw [is_non (ex.res p1 q1)]; exact k _ w⟩
  · exact .inr ⟨_, _, (ex.res p1 q1).bl, (ex.res p2 q2).bl, k _ w⟩
  · exact .inr ⟨_, _, (ex.res p1 q1).bl, (ex.res p2 q2).bl, k _ w⟩
  · obtain ⟨c, rfl, w⟩ := w
    exact .inl ⟨_, _, (ex.res p1 q1).str.1, (ex.res p2 q2).str.1, k _ w⟩
  · obtain ⟨c, rfl, w⟩ := w
    exact .inl ⟨_, _, (ex.res p1 q1).str.1, (ex.res p2 q2).str.1, k _ w⟩
  · obtain ⟨a, ws, hv, hd, r⟩ := (ex.res p2 q2).now ex.sub
    refine .inr (.inl ⟨_, a, _, ws, _, (ex.res p1 q1).str.1, hv, hd, ?_⟩)
    rw [look_mem (by rw [hd.1, r.length])] at w
    exact k _ w
  · obtain ⟨a, ws, hv, hd, r⟩ := (ex.res p2 q2).now ex.sub
    refine .inr (.inl ⟨_, a, _, ws, _, (ex.res p1 q1).str.1, hv, hd, ?_⟩)
    rw [look_mem (by rw [hd.1, r.length])] at w
    exact k _ w
  · obtain ⟨a0, b0, w⟩ := w
    obtain ⟨a1, a2⟩ := a0.both
    obtain ⟨b1, b2⟩ := b0.both
    exact .inr (.inr ⟨_, _, rep_dp _ _ a1 ((ex.res p1 q1).now ex.sub), .inr (rep_dp _ _ b1 ((ex.res p2 q2).now ex.sub)), a2, b2, by rw [any_eqD]; exact k _ w⟩)
  · obtain ⟨a0, b0, w⟩ := w
    obtain ⟨a1, a2⟩ := a0.both
    obtain ⟨b1, b2⟩ := b0.both
    exact .inr (.inr ⟨_, _, rep_dp _ _ a1 ((ex.res p1 q1).now ex.sub), .inr (rep_dp _ _ b1 ((ex.res p2 q2).now ex.sub)), a2, b2, by rw [any_eqD]; exact k _ w⟩)
  · obtain ⟨a0, b0, w⟩ := w
    obtain ⟨a1, a2⟩ := a0.both
    obtain ⟨b1, b2⟩ := b0.both
    exact .inr (.inr ⟨_, _, rep_dp _ _ a1 ((ex.res p1 q1).now ex.sub), .inl (rep_dp _ _ b1 ((ex.res p2 q2).now ex.sub)), a2, b2, by rw [any_eqD]; exact k _ w⟩)
  · obtain ⟨a0, b0, w⟩ := w
    obtain ⟨a1, a2⟩ := a0.both
    obtain ⟨b1, b2⟩ := b0.both
    exact .inr (.inr ⟨_, _, rep_dp _ _ a1 ((ex.res p1 q1).now ex.sub), .inl (rep_dp _ _ b1 ((ex.res p2 q2).now ex.sub)), a2, b2, by rw [any_eqD]; exact k _ w⟩)
  · obtain ⟨a, vs, h1, h2, r1⟩ := (ex.res p1 q1).tup ex.sub
    obtain ⟨b, ws, h3, h4, r2⟩ := (ex.res p2 q2).tup ex.sub
    rw [show ws = [] from r2] at h4
    refine .inr (.inr ⟨a, b, vs, h1, h3, .inl ⟨h2, h4⟩, ?_⟩)
    rw [reps_emp r1]
    exact k _ w
  · obtain ⟨a, vs, h1, h2, r1⟩ := (ex.res p1 q1).tup ex.sub
    obtain ⟨b, ws, h3, h4, r2⟩ := (ex.res p2 q2).tup ex.sub
    rw [show ws = [] from r2] at h4
    refine .inr (.inr ⟨a, b, vs, h1, h3, .inl ⟨h2, h4⟩, ?_⟩)
    rw [reps_emp r1]
    exact k _ w
  · obtain ⟨a, vs, h1, h2, r1⟩ := (ex.res p1 q1).lst ex.sub
    obtain ⟨b, ws, h3, h4, r2⟩ := (ex.res p2 q2).lst ex.sub
    rw [show ws = [] from r2] at h4
    refine .inr (.inr ⟨a, b, vs, h1, h3, .inr ⟨h2, h4⟩, ?_⟩)
    rw [reps_emp r1]
    exact k _ w
  · obtain ⟨a, vs, h1, h2, r1⟩ := (ex.res p1 q1).lst ex.sub
    obtain ⟨b, ws, h3, h4, r2⟩ := (ex.res p2 q2).lst ex.sub
    rw [show ws = [] from r2] at h4
    refine .inr (.inr ⟨a, b, vs, h1, h3, .inr ⟨h2, h4⟩, ?_⟩)
    rw [reps_emp r1]
    exact k _ w
  · obtain ⟨a0, b0, w⟩ := w
    obtain ⟨a1, a2⟩ := a0.both
    obtain ⟨b1, b2⟩ := b0.both
    exact .inr (.inl ⟨_, _, rep_dp _ _ a1 ((ex.res p1 q1).now ex.sub), rep_dp _ _ b1 ((ex.res p2 q2).now ex.sub), a2, b2, k _ w⟩)
  · obtain ⟨a0, b0, w⟩ := w
    obtain ⟨a1, a2⟩ := a0.both
    obtain ⟨b1, b2⟩ := b0.both
    exact .inr (.inl ⟨_, _, rep_dp _ _ a1 ((ex.res p1 q1).now ex.sub), rep_dp _ _ b1 ((ex.res p2 q2).now ex.sub), a2, b2, k _ w⟩)
  · exact w.elim
theorem e_cmp {op : CmpOp} (hK : X.K = P.L.K) (hW : X.w = P.L.w) (hu : X.A.units + 150 < cLine) (ha : PE X x (tO P Γ Xp a)) (hb : PE X y (tO P Γ Xp b)) (hm : behindInMarks op y = false) : PE X (.Compare x [op] [y] pos) (tE P Γ Xp (.cmp op a b)) :=
  pe_imp (pe_cmpR (op_cmp hK hW hu op) ha hb hm) fun σ H Q h => by
  obtain ⟨env, F, R, ex, w, k⟩ := h
  simp only [wE] at w
  refine ⟨env, F, _, ex, w, fun o1 env1 v1 H1 F1 w1 m1 e1 p1 => ⟨env1, F1, _, e1, w1, fun o2 env2 v2 H2 F2 w2 m2 e2 p2 => ?_⟩⟩
  exact cmp_core e2 (p1.mono m2) p2 w2 fun b hb => k _ _ _ H2 F2 hb (m1.trans m2) (e2.pure rfl)
theorem t_cmp {op : CmpOp} (hK : X.K = P.L.K) (hW : X.w = P.L.w) (hu : X.A.units + 150 < cLine) (ha : PE X x (tO P Γ Xp a)) (hb : PE X y (tO P Γ Xp b)) (hm : behindInMarks op y = false) : PT X (.Compare x [op] [y] pos) (tT P Γ Xp (.cmp op a b)) :=
  pt_imp (pt_cmpR (op_cmp hK hW hu op) ha hb hm) fun σ H Q h => by
  obtain ⟨env, F, R, ex, w, k⟩ := h
  simp only [wT] at w
  refine ⟨env, F, _, ex, w, fun o1 env1 v1 H1 F1 w1 m1 e1 p1 => ⟨env1, F1, _, e1, w1, fun o2 env2 v2 H2 F2 w2 m2 e2 p2 => ?_⟩⟩
  exact cmp_core e2 (p1.mono m2) p2 w2 fun b hb => ⟨b, rfl, k _ _ H2 F2 hb (m1.trans m2) e2⟩
theorem chn_core {o1 o2 : CmpOp} {R : Bool → Env → Prop} {σ : L2.St} {H : Hp} {Q : VK} {env : Env} {F : Hp} (ex : EX P σ H env F)
    (w : opd a (wE Γ a) env Xp fun x env1 => opd b (wE Γ b) env1 Xp fun y env2 => cmpW o1 (res env2 x) (res env2 y) fun r =>
      if r = true then opd c (wE Γ c) env2 Xp fun z env3 => cmpW o2 (res env3 y) (res env3 z) fun r' => R r' env3 else R false env2)
    (k : ∀ r env' H' F', R r env' → LeH F F' → EX P σ H' env' F' → Q (.bl r) H') : tChain (rCmp P.L o1) (rCmp P.L o2) (tO P Γ Xp a) (tO P Γ Xp b) (tO P Γ Xp c) σ H Q := by
  refine ⟨env, F, _, ex, w, fun o1 env1 v1 H1 F1 w1 m1 e1 p1 => ⟨env1, F1, _, e1, w1, fun o2 env2 v2 H2 F2 w2 m2 e2 p2 => ?_⟩⟩
  refine cmp_core e2 (p1.mono m2) p2 w2 fun b hb => ⟨b, rfl, ?_⟩
  cases b with
  | false =>
    rw [if_neg (by decide)] at hb ⊢
    exact k _ _ H2 F2 hb (m1.trans m2) e2
  | true =>
    rw [if_pos rfl] at hb ⊢
    refine ⟨env2, F2, _, e2, hb, fun o3 env3 v3 H3 F3 w3 m3 e3 p3 => ?_⟩
    exact cmp_core e3 (p2.mono m3) p3 w3 fun b hb => k _ _ H3 F3 hb ((m1.trans m2).trans m3) e3
theorem e_chn {o1 o2 : CmpOp} (hK : X.K = P.L.K) (hW : X.w = P.L.w) (hu : X.A.units + 150 < cLine) (ha : PE X x (tO P Γ Xp a)) (hb : PE X y (tO P Γ Xp b)) (hc : PE X z (tO P Γ Xp c)) (hm : lastMarks [o1, o2] [y, z] = false) :
    PE X (.Compare x [o1, o2] [y, z] pos) (tE P Γ Xp (.chn o1 o2 a b c)) := pe_imp (pe_chain (op_cmp hK hW hu o1) (op_cmp hK hW hu o2) ha hb hc hm) fun σ H Q h => by
  obtain ⟨env, F, R, ex, w, k⟩ := h
  simp only [wE] at w
  exact chn_core (R := fun b e => R (.val (.bl b)) e) ex w fun r env' H' F' q m e => k _ _ _ H' F' q m (e.pure rfl)
theorem t_chn {o1 o2 : CmpOp} (hK : X.K = P.L.K) (hW : X.w = P.L.w) (hu : X.A.units + 150 < cLine) (ha : PE X x (tO P Γ Xp a)) (hb : PE X y (tO P Γ Xp b)) (hc : PE X z (tO P Γ Xp c)) (hm : lastMarks [o1, o2] [y, z] = false) :
    PT X (.Compare x [o1, o2] [y, z] pos) (tT P Γ Xp (.chn o1 o2 a b c)) := pt_imp (pt_chain (op_cmp hK hW hu o1) (op_cmp hK hW hu o2) ha hb hc hm) fun σ H Q h => by
  obtain ⟨env, F, R, ex, w, k⟩ := h
  simp only [wT] at w
  exact chn_core (R := R) ex w fun r env' H' F' q m e => ⟨r, rfl, k _ _ H' F' q m e⟩

/-! ### and, or, not, if -/
variable {ta tb tc : T} {rest : List Expr}
/-- a value as a test -/
theorem tru_top {H F : Hp} (hK : X.K = P.L.K) (m : LeH F H) {d : D} {v : V} {b : Bool} (t : Top P F H d v) (q : truth d = some b) : TruV X.K v H b := by
  have n := t.now m
  cases d with
  | non => cases q; rw [show v = V.non from n]; exact rfl
  | bl c => cases q; rw [show v = V.bl _ from n]; exact rfl
  | int i => cases q; rw [show v = V.int _ from n]; exact rfl
  | str s =>
    cases q
    rw [show v = V.str _ from n.1]
    refine ⟨by rw [← line_eq]; exact n.2, ?_⟩
    rw [Bool.eq_iff_iff]
    simp
  | tup ds =>
    cases q
    obtain ⟨a, vs, rfl, s, r⟩ := n
    refine .inr (.inl ⟨vs, by rw [hK]; exact s, ?_⟩)
    have := r.length
    cases ds <;> cases vs <;> first | rfl | (simp at this)
  | lst ds =>
    cases q
    obtain ⟨a, vs, rfl, s, r⟩ := n
    refine .inl ⟨vs, .inl (.inl s), ?_⟩
    have := r.length
    cases ds <;> cases vs <;> first | rfl | (simp at this)
  | dct _ _ _ => cases q
  | ins _ _ => cases q
  | fn _ => cases q
  | scr _ => cases q
  | exn _ => cases q
theorem tru_exv (hK : X.K = P.L.K) {σ : L2.St} {H : Hp} {env : Env} {F : Hp} {v : V} {r : RV} {b : Bool} (e : EXv P σ H env F v r) (q : truth r.toD = some b) : TruV X.K v H b := by
  obtain ⟨A, e, hr⟩ := e
  cases r with
  | val d => exact tru_top hK e.sub (.inl hr) q
  | fr o =>
    obtain ⟨p, rfl, hO, _⟩ := hr
    exact tru_top hK e.sub (.inr ⟨p, o, rfl, rfl, hO⟩) q
theorem e_not (hK : X.K = P.L.K) (ha : PE X x (tO P Γ Xp a)) : PE X (.UnaryOp .Not x pos) (tE P Γ Xp (.not a)) := pe_imp (pe_notT ha) fun σ H Q h => by
  obtain ⟨env, F, R, ex, w, k⟩ := h
  simp only [wE] at w
  refine ⟨env, F, _, ex, w, fun o env1 v1 H1 F1 w1 m1 e1 p1 => ?_⟩
  obtain ⟨d, c, q1, q2, w1⟩ := w1
  exact ⟨c, tru_top hK e1.sub (e1.res p1 q1) q2, k _ _ _ H1 F1 w1 m1 (e1.pure rfl)⟩
theorem and_core (hK : X.K = P.L.K) {e : Expr} (h : PE X e (tAndT X.K (tE P Γ Xp a) (tE P Γ Xp b))) : PE X e (tE P Γ Xp (.and a b)) := pe_imp h fun σ H Q h => by
  obtain ⟨env, F, R, ex, w, k⟩ := h
  simp only [wE] at w
  refine ⟨env, F, _, ex, w, fun r env1 v1 H1 F1 w1 m1 e1 => ?_⟩
  obtain ⟨c, q, w1⟩ := w1
  refine ⟨c, tru_exv hK e1 q, ?_⟩
  cases c with
  | true => exact ⟨env1, F1, _, e1.ex, w1, fun r env2 v2 H2 F2 w2 m2 e2 => k _ _ _ H2 F2 w2 (m1.trans m2) e2⟩
  | false => exact k _ _ _ H1 F1 w1 m1 e1
theorem or_core (hK : X.K = P.L.K) {e : Expr} (h : PE X e (tOrT X.K (tE P Γ Xp a) (tE P Γ Xp b))) : PE X e (tE P Γ Xp (.or a b)) := pe_imp h fun σ H Q h => by
  obtain ⟨env, F, R, ex, w, k⟩ := h
  simp only [wE] at w
  refine ⟨env, F, _, ex, w, fun r env1 v1 H1 F1 w1 m1 e1 => ?_⟩
  obtain ⟨c, q, w1⟩ := w1
  refine ⟨c, tru_exv hK e1 q, ?_⟩
  cases c with
  | false => exact ⟨env1, F1, _, e1.ex, w1, fun r env2 v2 H2 F2 w2 m2 e2 => k _ _ _ H2 F2 w2 (m1.trans m2) e2⟩
  | true => exact k _ _ _ H1 F1 w1 m1 e1
theorem t_not (ha : PT X x (tT P Γ Xp ta)) : PT X (.UnaryOp .Not x pos) (tT P Γ Xp (.not ta)) := pt_imp (pt_not ha) fun σ H Q h => by
  obtain ⟨env, F, R, ex, w, k⟩ := h
  simp only [wT] at w
  exact ⟨env, F, _, ex, w, fun b env1 H1 F1 w1 m1 e1 => k _ _ H1 F1 w1 m1 e1⟩
theorem tand_core {σ : L2.St} {H : Hp} {Q : Bool → Hp → Prop} (h : tT P Γ Xp (.and ta tb) σ H Q) : tAnd (tT P Γ Xp ta) (tT P Γ Xp tb) σ H Q := by
  obtain ⟨env, F, R, ex, w, k⟩ := h
  simp only [wT] at w
  refine ⟨env, F, _, ex, w, fun c env1 H1 F1 w1 m1 e1 => ?_⟩
  cases c with
  | true => exact ⟨env1, F1, _, e1, w1, fun r env2 H2 F2 w2 m2 e2 => k _ _ H2 F2 w2 (m1.trans m2) e2⟩
  | false => exact k _ _ H1 F1 w1 m1 e1
theorem tor_core {σ : L2.St} {H : Hp} {Q : Bool → Hp → Prop} (h : tT P Γ Xp (.or ta tb) σ H Q) : tOr (tT P Γ Xp ta) (tT P Γ Xp tb) σ H Q := by
  obtain ⟨env, F, R, ex, w, k⟩ := h
  simp only [wT] at w
  refine ⟨env, F, _, ex, w, fun c env1 H1 F1 w1 m1 e1 => ?_⟩
  cases c with
  | false => exact ⟨env1, F1, _, e1, w1, fun r env2 H2 F2 w2 m2 e2 => k _ _ H2 F2 w2 (m1.trans m2) e2⟩
  | true => exact k _ _ H1 F1 w1 m1 e1
theorem e_ite (hc : PT X z (tT P Γ Xp tc)) (ha : PE X x (tE P Γ Xp a)) (hb : PE X y (tE P Γ Xp b)) : PE X (.IfExp z x y pos) (tE P Γ Xp (.ite tc a b)) := pe_imp (pe_ifExp hc ha hb) fun σ H Q h => by
  obtain ⟨env, F, R, ex, w, k⟩ := h
  simp only [wE] at w
  refine ⟨env, F, _, ex, w, fun c env1 H1 F1 w1 m1 e1 => ?_⟩
  cases c with
  | true => exact ⟨env1, F1, _, e1, w1, fun r env2 v H2 F2 w2 m2 e2 => k _ _ _ H2 F2 w2 (m1.trans m2) e2⟩
  | false => exact ⟨env1, F1, _, e1, w1, fun r env2 v H2 F2 w2 m2 e2 => k _ _ _ H2 F2 w2 (m1.trans m2) e2⟩
theorem t_tv (hK : X.K = P.L.K) (ha : PE X x (tO P Γ Xp a)) (he : ∀ whole, isTrue x X.env whole = (do let v ← whole; standAt x.pos; holding [v] (truthy v))) : PT X x (tT P Γ Xp (.tv a)) := pt_imp (pt_truth ha he) fun σ H Q h => by
  obtain ⟨env, F, R, ex, w, k⟩ := h
  simp only [wT] at w
  refine ⟨env, F, _, ex, w, fun o env1 v1 H1 F1 w1 m1 e1 p1 => ?_⟩
  obtain ⟨d, b, q1, q2, w1⟩ := w1
  exact ⟨b, tru_top hK e1.sub (e1.res p1 q1) q2, k _ _ H1 F1 w1 m1 e1⟩
/-! ### arguments, displays -/
theorem os_nil : PA X [] (tOs P Γ Xp []) := pa_imp pa_nil fun σ H Q h => by
  obtain ⟨env, F, R, ex, w, k⟩ := h
  simp only [wOs] at w
  exact k _ _ _ H F w (LeH.refl F) ex .nil rfl
theorem os_cons {es : List Expr} {ms : List E} (ha : PE X x (tO P Γ Xp a)) (hr : PA X es (tOs P Γ Xp ms)) (hs : starEach (x :: es) X.env = (false, eval x X.env) :: starEach es X.env) : PA X (x :: es) (tOs P Γ Xp (a :: ms)) := pa_imp (pa_cons ha hr hs) fun σ H Q h => by
  obtain ⟨env, F, R, ex, w, k⟩ := h
  simp only [wOs] at w
  refine ⟨env, F, _, ex, w, fun o env1 v1 H1 F1 w1 m1 e1 p1 => ⟨env1, F1, _, e1, w1, fun os env2 vs H2 F2 w2 m2 e2 p2 l2 => ?_⟩⟩
  exact k _ _ _ H2 F2 w2 (m1.trans m2) e2 (.cons (p1.mono m2) p2) (by rw [List.length_cons, List.length_cons, l2])
theorem datas_reps {F : Hp} {σ : L2.St} : ∀ {vs : List V} {os : List Op} {ds : List D}, OpRs P F σ vs os → datas os = some ds → Reps P.L F ds vs
  | _, _, ds, .nil, q => by
    cases q
    rfl
  | _, _, ds, .cons (b := o) (l₂ := os) h t, q => by
    cases o with
    | slot i => cases q
    | d d' =>
      cases e : datas os with
      | none => simp [datas, e] at q
      | some es =>
        simp only [datas, e, Option.map_some, Option.some.injEq] at q
        subst q
        exact ⟨_, _, rfl, h, datas_reps t e⟩
theorem datas_len : ∀ {os : List Op} {ds : List D}, datas os = some ds → ds.length = os.length
  | [], _, q => by cases q; rfl
  | .slot _ :: _, _, q => by cases q
  | .d d :: os, _, q => by
    cases e : datas os with
    | none => simp [datas, e] at q
    | some es =>
      simp only [datas, e, Option.map_some, Option.some.injEq] at q
      subst q
      rw [List.length_cons, List.length_cons, datas_len e]
theorem e_tup {es : List Expr} {ms : List E} {kk : Nat} (ha : PA X es (tOs P Γ Xp ms)) (hl : ms.length ≤ 1000) : PE X (.Tuple es kk pos) (tE P Γ Xp (.tup ms)) := pe_imp (pe_tup ha) fun σ H Q h => by
  obtain ⟨env, F, R, ex, w, k⟩ := h
  simp only [wE] at w
  refine ⟨env, F, _, ex, w, fun os env1 vs H1 F1 w1 m1 e1 p1 l1 => ?_⟩
  obtain ⟨ds, q, w1⟩ := w1
  exact ⟨by rw [l1, sizeLine_eq]; omega, fun p hp => tup_post e1 (fun r v H' F' hr m e => k r env1 v H' F' hr (m1.trans m) e) w1 hp (datas_reps p1 q)⟩
theorem e_lst {es : List Expr} {ms : List E} (ha : PA X es (tOs P Γ Xp ms)) (hl : ms.length ≤ 1000) : PE X (.List es pos) (tE P Γ Xp (.lst ms)) := pe_imp (pe_lst ha) fun σ H Q h => by
  obtain ⟨env, F, R, ex, w, k⟩ := h
  simp only [wE] at w
  refine ⟨env, F, _, ex, w, fun os env1 vs H1 F1 w1 m1 e1 p1 l1 => ?_⟩
  obtain ⟨ds, q, w1⟩ := w1
  exact ⟨by rw [l1, sizeLine_eq]; omega, fun p hp => lst_post e1 (fun r v H' F' hr m e => k r env1 v H' F' hr (m1.trans m) e) w1 hp (datas_reps p1 q)⟩

/-! ### items -/
theorem IxR2.or {r r' : R2} (h : IxR X r) (h' : IxR X r') : IxR X (fun x y H Q => r x y H Q ∨ r' x y H Q) := by
  intro value slice pins s σ H x y v u Q I rx ry q
  rcases q with q | q
  · exact h value slice pins s σ H x y v u Q I rx ry q
  · exact h' value slice pins s σ H x y v u Q I rx ry q
theorem atI_map {α β : Type} {f : α → β} {xs : List α} {i : Int} : atI (xs.map f) i = (atI xs i).map f := by
  unfold atI
  rw [List.length_map]
  cases ixN xs.length i with
  | none => rfl
  | some j => simp
theorem Reps.atI {L : Lay} {F : Hp} {ds : List D} {vs : List V} (r : Reps L F ds vs) {i : Int} {d : D} (h : atI ds i = some d) : ∃ v, L2.atI vs i = some v ∧ Rep L F d v := by
  unfold L2.atI at h ⊢
  rw [r.length]
  cases e : ixN ds.length i with
  | none => rw [e] at h; cases h
  | some j =>
    rw [e] at h
    exact r.get h
theorem sign_len : (1 : Nat) ≤ line := by decide
theorem ix_dct (hK : X.K = P.L.K) (hW : X.w = P.L.w) (hu : X.A.units + 150 < cLine) : IxR X (fun x y H Q => ∃ (wr : Bool) (a : Addr) (ks : List Key) (ws : List V) (z : Str) (i : Nat) (v : V), x = .ref a ∧ y = .str z ∧ DctAt P.L H wr a ks ws ∧ ks[i]? = some (.inr z) ∧ ws[i]? = some v ∧ valV (ks.zip ws) (.inr z) = some v ∧ Q v H) := by
  intro value slice pins s σ H x y v u Q I rx ry h hs
  obtain ⟨wr, a, ks, ws, z, i, v0, rfl, rfl, hd, h1, h2, h3, q⟩ := h
  rcases hd.2 with ⟨_, hd'⟩ | ⟨_, es, n, kd, no, yes⟩
  · cases rx
    have g : DGet H a (.str z) (some v0) := by
      have := DGet.k (k := .inr z) hd'
      rw [h3] at this
      exact this
    exact PyProof.Rows.tail_any (dict_typeIs I g) PySem.slot_dict_getitem.lookup (d_getItem (by omega) I g ry fun w' s' I' r' => ⟨v0, H, I', r', q⟩) hs
  · obtain ⟨z', u', ez, hn, ru⟩ := yes i _ v0 h1 h2
    cases ez
    exact ix_kdict value slice pins s σ H _ _ v u Q I rx ry ⟨a, z, v0, rfl, rfl, ⟨es, n, u', by rw [hK]; exact kd.at_, by rw [hW]; exact kd.lit, by rw [hK]; exact hn, ru⟩, q⟩ hs
theorem e_sub (hK : X.K = P.L.K) (hW : X.w = P.L.w) (hu : X.A.units + 150 < cLine) (ha : PE X x (tO P Γ Xp a)) (hb : PE X y (tO P Γ Xp b)) (hs : PlainIx y) : PE X (.Subscript x y pos) (tE P Γ Xp (.sub a b)) :=
  pe_imp (pe_ix (IxR2.or ix_list (IxR2.or ix_tup (IxR2.or ix_str (ix_dct hK hW hu)))) ha hb hs) fun σ H Q h => by
  obtain ⟨env, F, R, ex, w, k⟩ := h
  simp only [wE] at w
  refine ⟨env, F, _, ex, w, fun o1 env1 v1 H1 F1 w1 m1 e1 p1 => ⟨env1, F1, _, e1, w1, fun o2 env2 v2 H2 F2 w2 m2 e2 p2 => ?_⟩⟩
  obtain ⟨dx, dy, r, q1, q2, q3, w2⟩ := w2
  have t1 := e2.res (p1.mono m2) q1
  have t2 := e2.res p2 q2
  unfold atD at q3
  split at q3
  · obtain ⟨a1, vs, rfl, h1, r1⟩ := t1.lst e2.sub
    obtain ⟨v, h2, h3⟩ := r1.atI q3
    exact .inl ⟨_, _, _, _, rfl, t2.int, .inl (.inl h1), h2, k _ _ _ H2 F2 w2 (m1.trans m2) (e2.pure h3)⟩
  · have n := t1.now e2.sub
    obtain ⟨a, ws, rfl, hd, rr⟩ := t1.dct e2.sub
    obtain ⟨i, v, b1, b2, b3, b4⟩ := look_at rr hd.1 q3
    exact .inr (.inr (.inr ⟨_, a, _, ws, _, i, v, rfl, t2.str.1, hd, b1, b2, b4, k _ _ _ H2 F2 w2 (m1.trans m2) (e2.pure b3)⟩))
  · obtain ⟨a1, vs, rfl, h1, r1⟩ := t1.tup e2.sub
    obtain ⟨v, h2, h3⟩ := r1.atI q3
    exact .inr (.inl ⟨_, _, _, _, rfl, t2.int, by rw [hK]; exact h1, h2, k _ _ _ H2 F2 w2 (m1.trans m2) (e2.pure h3)⟩)
  · obtain ⟨a1, rfl, h1⟩ := t1.scr e2.sub
    obtain ⟨n, e, rfl⟩ := Option.map_eq_some_iff.mp q3
    · exact .inl ⟨_, _, _, _, rfl, t2.int, by rw [hK]; exact h1, by rw [atI_map, e]; rfl, k _ _ _ H2 F2 w2 (m1.trans m2) (e2.pure rfl)⟩
  · obtain ⟨n, e, rfl⟩ := Option.map_eq_some_iff.mp q3
    · exact .inr (.inr (.inl ⟨_, _, _, t1.str.1, t2.int, by rw [← line_eq]; exact t1.str.2, e, k _ _ _ H2 F2 w2 (m1.trans m2) (e2.pure ⟨rfl, sign_len⟩)⟩))
  · cases q3
end
end G
/-! Y1: slices, f-strings, isinstance, attributes. -/
namespace G
open PySem PySem.Spec L2
section
variable {X : Cx} {P : PP} {Γ : Fns} {Xp : XP} {pos : Pos} {x y z : Expr} {a b c : E}
/-! ### slices -/
def tOo (P : PP) (Γ : Fns) (Xp : XP) (m : O) : TO := fun σ H Q => ∃ env F R, EX P σ H env F ∧ wO Γ m env Xp R ∧ ∀ o env' H' F', R o env' → LeH F F' → EX P σ H' env' F' → Q o H'
theorem po_imp {e : Option Expr} {t t' : TO} (h : PO X e t) (m : ∀ σ H Q, t' σ H Q → t σ H Q) : PO X e t' := ⟨fun pins s σ H Q I q => h.run pins s σ H Q I (m σ H Q q)⟩
theorem o_no : PO X none (tOo P Γ Xp .no) := po_imp po_none fun σ H Q h => by
  obtain ⟨env, F, R, ex, w, k⟩ := h
  simp only [wO] at w
  exact k _ _ H F w (LeH.refl F) ex
theorem o_at (h : PE X x (tO P Γ Xp a)) : PO X (some x) (tOo P Γ Xp (.at a)) := po_imp (po_some h) fun σ H Q h => by
  obtain ⟨env, F, R, ex, w, k⟩ := h
  simp only [wO] at w
  refine ⟨env, F, _, ex, w, fun o1 env1 v1 H1 F1 w1 m1 e1 p1 => ?_⟩
  obtain ⟨i, q, w1⟩ := w1
  exact ⟨i, (e1.res p1 q).int, k _ _ H1 F1 w1 m1 e1⟩
theorem Reps.take {L : Lay} {F : Hp} : ∀ {ds : List D} {vs : List V} (n : Nat), Reps L F ds vs → Reps L F (ds.take n) (vs.take n)
  | _, _, 0, _ => by simp [Reps]
  | [], vs, n + 1, h => by rw [show vs = [] from h]; simp [Reps]
  | d :: ds, vs, n + 1, ⟨v, r, e, h1, h2⟩ => by subst e; exact ⟨v, r.take n, rfl, h1, Reps.take n h2⟩
theorem Reps.drop {L : Lay} {F : Hp} : ∀ {ds : List D} {vs : List V} (n : Nat), Reps L F ds vs → Reps L F (ds.drop n) (vs.drop n)
  | _, _, 0, h => h
  | [], vs, n + 1, h => by rw [show vs = [] from h]; simp [Reps]
  | d :: ds, vs, n + 1, ⟨v, r, e, h1, h2⟩ => by subst e; exact Reps.drop n h2
theorem Reps.cut {L : Lay} {F : Hp} {ds : List D} {vs : List V} (lo hi : Option Int) (r : Reps L F ds vs) : Reps L F (cutD ds lo hi) (cutV vs lo hi) := by
  unfold cutD cutV
  rw [r.length]
  exact (r.drop _).take _
theorem Reps.rev {L : Lay} {F : Hp} : ∀ {ds : List D} {vs : List V}, Reps L F ds vs → Reps L F ds.reverse vs.reverse
  | [], vs, h => by rw [show vs = [] from h]; simp [Reps]
  | d :: ds, vs, ⟨v, r, e, h1, h2⟩ => by
    subst e
    rw [List.reverse_cons, List.reverse_cons]
    exact (Reps.rev h2).append ⟨v, [], rfl, h1, rfl⟩
theorem cutS_len (z : Str) (lo hi : Option Int) : (cutS z lo hi).length ≤ z.length := by
  show (List.toArray _).size ≤ z.cps.size
  rw [List.size_toArray, List.length_take, List.length_drop, Array.length_toList]
  omega
theorem slc_core (hK : X.K = P.L.K) {lo hi : Option Int} {H : Hp} {env : Env} {σ : L2.St} {F : Hp} {o : Op} {v : V} {R : RV → Prop} {Q : VK} (ex : EX P σ H env F) (p : OpR P F σ v o) (w : slcW (res env o) lo hi R)
    (k : ∀ r v H' F', R r → LeH F F' → EXv P σ H' env F' v r → Q v H') : rSlL X.K v lo hi H Q ∨ rSlA X.K v lo hi H Q ∨ rSlS v lo hi H Q := by
  generalize q : res env o = d at w
  unfold slcW at w
  split at w
  · obtain ⟨a, vs, rfl, h1, r1⟩ := (ex.res p q).lst ex.sub
    exact .inl ⟨a, vs, rfl, .inl (.inl h1), fun p hp => lst_post ex k w hp (r1.cut lo hi)⟩
  · have t := (ex.res p q).rtup
    obtain ⟨a, vs, rfl, h1, r1⟩ := id t
    refine .inr (.inl ⟨a, vs, rfl, by rw [hK]; exact sqT_mono ex.sub h1, fun z => ?_, fun _ p hp => tup_post ex k w hp (r1.cut lo hi)⟩)
    have e : ∀ ds : List D, ds.length = vs.length → cutD ds lo hi = ds := by
      intro ds hl
      unfold cutD
      rw [hl, z.1, z.2, List.drop_zero, List.take_of_length_le (by omega)]
    rw [e _ r1.length.symm] at w
    exact k _ _ H F w (LeH.refl F) (ex.pure t)
  · obtain ⟨rfl, hz⟩ := (ex.res p q).str
    exact .inr (.inr ⟨_, rfl, by rw [← line_eq]; exact hz, k _ _ H F w (LeH.refl F) (ex.pure ⟨rfl, Nat.le_trans (cutS_len _ _ _) hz⟩)⟩)
  · exact w.elim
theorem e_slc {lo hi : O} {l h : Option Expr} {p2 : Pos} (hK : X.K = P.L.K) (ha : PE X x (tO P Γ Xp a)) (hl : PO X l (tOo P Γ Xp lo)) (hh : PO X h (tOo P Γ Xp hi)) : PE X (.Subscript x (.Slice l h none p2) pos) (tE P Γ Xp (.slc a lo hi)) :=
  pe_imp (pe_slice (SlR.or sl_list (SlR.or sl_tupA sl_str)) ha hl hh) fun σ H Q hq => by
  obtain ⟨env, F, R, ex, w, k⟩ := hq
  simp only [wE] at w
  refine ⟨env, F, _, ex, w, fun o1 env1 v1 H1 F1 w1 m1 e1 p1 => ⟨env1, F1, _, e1, w1, fun l env2 H2 F2 w2 m2 e2 => ⟨env2, F2, _, e2, w2, fun h env3 H3 F3 w3 m3 e3 => ?_⟩⟩⟩
  exact slc_core hK e3 ((p1.mono m2).mono m3) w3 fun r v H' F' hr m e => k r env3 v H' F' hr (((m1.trans m2).trans m3).trans m) e
theorem e_rev {j : Nat} {p1 p2 p3 : Pos} (hK : X.K = P.L.K) (ha : PE X x (tO P Γ Xp a)) : PE X (.Subscript x (.Slice none none (some (.UnaryOp .USub (.Constant (.int 1) j p1) p2)) p3) pos) (tE P Γ Xp (.rev a)) := pe_imp (pe_revA ha) fun σ H Q hq => by
  obtain ⟨env, F, R, ex, w, k⟩ := hq
  simp only [wE] at w
  refine ⟨env, F, _, ex, w, fun o1 env1 v1 H1 F1 w1 m1 e1 p1 => ?_⟩
  generalize q : res env1 o1 = d at w1
  unfold revW at w1
  have k' : ∀ r v H' F', R r env1 → LeH F1 F' → EXv P σ H' env1 F' v r → Q v H' := fun r v H' F' hr m e => k r env1 v H' F' hr (m1.trans m) e
  split at w1
  · obtain ⟨a, vs, rfl, h1, r1⟩ := (e1.res p1 q).lst e1.sub
    exact .inl ⟨a, vs, rfl, .inl (.inl h1), fun p hp => lst_post e1 k' w1 hp r1.rev⟩
  · obtain ⟨a, vs, rfl, h1, r1⟩ := (e1.res p1 q).tup e1.sub
    have t := (e1.res p1 q).rtup
    obtain ⟨a', vs', ea, h1', r1'⟩ := t
    exact .inr ⟨a', vs', ea, by rw [hK]; exact sqT_mono e1.sub h1', fun p hp => tup_post e1 k' w1 hp r1'.rev⟩
  · exact w1.elim
/-! ### f-strings -/
def tFs (P : PP) (Γ : Fns) (Xp : XP) (ms : List E) (acc : Str) : L2.St → Hp → (Str → Hp → Prop) → Prop := fun σ H Q => ∃ env F R, EX P σ H env F ∧ acc.length ≤ line ∧ wF Γ ms acc env Xp R ∧ ∀ s env' H' F', R s env' → s.length ≤ line → LeH F F' → EX P σ H' env' F' → Q s H'
/-- a part is a text -/
def partE : Expr → Bool
  | .Constant (.str _) _ _ => true
  | _ => false
theorem part_run {t : TE} {es : List Expr} {ts : List TE} {ms : List E} {acc : Str} {σ : L2.St} {H : Hp} {Q : Str → Hp → Prop} (ht : ∀ σ H Q, tO P Γ Xp a σ H (fun x H1 => ∃ y : Str, (x = .str y ∨ ∃ i : Int, x = .int i ∧ i.natAbs.log2 < 1920 ∧ y = toString i) ∧ y.length ≤ line ∧ Q (.str y) H1) → t σ H Q)
    (hr : ∀ acc σ H Q, tFs P Γ Xp ms acc σ H Q → tJs ts acc σ H Q) (h : tFs P Γ Xp (a :: ms) acc σ H Q) : tJs (t :: ts) acc σ H Q := by
  obtain ⟨env, F, R, ex, hz, w, k⟩ := h
  simp only [wF] at w
  refine ht σ H _ ⟨env, F, _, ex, w, fun o env1 v H1 F1 w1 m1 e1 p1 => ?_⟩
  obtain ⟨d, s, q1, q2, q3, w1⟩ := w1
  have hl : s.length ≤ line := Nat.le_trans (by rw [show (acc ++ s).length = acc.length + s.length from Array.size_append]; omega) q3
  refine ⟨s, ?_, hl, s, rfl, by rw [← line_eq]; exact q3, hr _ _ _ _ ⟨env1, F1, R, e1, q3, w1, fun s env' H' F' r z m e => k s env' H' F' r z (m1.trans m) e⟩⟩
  unfold fstD at q2
  split at q2
  · cases q2; exact .inl (e1.res p1 q1).str.1
  · split at q2
    · cases q2; exact .inr ⟨_, (e1.res p1 q1).int, by assumption, rfl⟩
    · cases q2
  · cases q2
/-! ### attributes -/
theorem placeIn_get {f : Nat} : ∀ {l : List Nat} {k : Nat}, placeIn f l = some k → l[k]? = some f
  | [], _, h => by simp [placeIn] at h
  | g :: r, k, h => by
    by_cases z : g = f
    · simp only [placeIn, z, if_true, Option.some.injEq] at h
      subst h; simp [z]
    · simp only [placeIn, z, if_false, Option.map_eq_some_iff] at h
      obtain ⟨j, h, rfl⟩ := h
      simpa using placeIn_get h
theorem attr_inj : ∀ c, ∀ f ∈ clsAt c, ∀ g ∈ clsAt c, attrNm f = attrNm g → f = g := by
  intro c
  match c with
  | 0 => decide
  | 1 => decide
  | 2 => decide
  | 3 => decide
  | _ + 4 => intro f hf; simp [clsAt] at hf
theorem placeIn_mem {f : Nat} {l : List Nat} {k : Nat} (h : placeIn f l = some k) : f ∈ l := List.mem_of_getElem? (placeIn_get h)
theorem lookup_attr {f : Nat} : ∀ {l : List Nat} {k : Nat} {vs : List V}, (∀ g ∈ l, attrNm f = attrNm g → f = g) → placeIn f l = some k → ((l.map attrNm).zip vs).lookup (attrNm f) = vs[k]?
  | [], _, _, _, h => by simp [placeIn] at h
  | g :: r, k, [], _, h => by simp
  | g :: r, k, v :: vs, hi, h => by
    rw [List.map_cons, List.zip_cons_cons, List.lookup_cons]
    by_cases z : g = f
    · simp only [placeIn, z, if_true, Option.some.injEq] at h
      subst h; subst z
      simp
    · simp only [placeIn, z, if_false, Option.map_eq_some_iff] at h
      obtain ⟨j, h, rfl⟩ := h
      have ne : (attrNm f == attrNm g) = false := beq_eq_false_iff_ne.mpr fun q => z (hi g (List.mem_cons_self ..) q).symm
      rw [ne]
      simpa using lookup_attr (fun g hg => hi g (List.mem_cons_of_mem _ hg)) h
/-- what is known of a class -/
structure ClsOk (L : Lay) (c : Nat) : Prop where
  cl : Cls L.K (L.cls c)
  na : ∀ f ∈ clsAt c, NoAttr L.K (L.cls c) (attrNm f)
  ha : PySem.W.findIn L.K (.ref (L.cls c)) "__class__" = some (some (.builtin "object.__class__"))
  hn : PySem.W.specialIn L.K (.builtin "object.__class__") "__get__" = some (some (.builtin "getset_descriptor.__get__"))
  htk : PySem.W.takesIn L.K (.builtin "object.__class__") = some true
  hm : PySem.W.mroIn L.K (L.cls c) (.type "object") = some true
  ci : ((PySem.W.clsIn L.K (L.cls c)).isSome && PySem.W.typeIn L.K (.ref (L.cls c)) == some (.type "type")) = true
/-- an instance, read now -/
theorem Top.ins {P : PP} {F H : Hp} {c : Nat} {ds : List D} {v : V} (t : Top P F H (.ins c ds) v) (m : LeH F H) : ∃ a dx vs, v = .ref a ∧ H a = some (.ins (P.L.cls c) dx ((clsNm c).zip vs)) ∧ P.L.kc c = true ∧ vs.length ≤ (clsNm c).length ∧ Reps P.L F ds vs := by
  rcases t with ⟨a, dx, fvs, vs, e, s, z, l, r⟩ | ⟨p, o, rfl, q, t⟩
  · subst z; exact ⟨a, dx, vs, e, m _ _ s, l.2, l.1, r⟩
  · cases o with
    | lst xs => cases q
    | ins c' fs =>
      cases q
      obtain ⟨_, dx, vs, h, l, r⟩ := t
      exact ⟨p, dx, vs, rfl, h, l.2, l.1, r⟩
theorem e_fld {f : Nat} {g : Str} (hK : X.K = P.L.K) (hC : ∀ c, P.L.kc c = true → ClsOk P.L c) (hg : g = attrNm f) (ha : PE X x (tO P Γ Xp a)) (hb : attributeBase x g X.env (eval x X.env) = eval x X.env) : PE X (.Attribute x g pos) (tE P Γ Xp (.fld a f)) := pe_imp (pe_fld ha hb) fun σ H Q hq => by
  obtain ⟨env, F, R, ex, w, k⟩ := hq
  simp only [wE] at w
  refine ⟨env, F, _, ex, w, fun o1 env1 v1 H1 F1 w1 m1 e1 p1 => ?_⟩
  obtain ⟨c, fs, j, d, q1, q2, q3, w1⟩ := w1
  obtain ⟨p, dx, vs, rfl, h1, h2, h3, h4⟩ := (e1.res p1 q1).ins e1.sub
  obtain ⟨v, b1, b2⟩ := h4.get q3
  have C := hC c h2
  subst hg
  refine ⟨p, _, dx, _, v, rfl, h1, by rw [hK]; exact C.cl, by rw [hK]; exact C.na f (placeIn_mem q2), ?_, k _ _ _ H1 F1 w1 m1 (e1.pure b2)⟩
  rw [← b1]
  exact lookup_attr (fun g hg => attr_inj c f (placeIn_mem q2) g hg) q2
/-! ### isinstance -/
/-- a value's type -/
def tyVal (L : Lay) : D → Value
  | .non => .type "NoneType"
  | .bl _ => .type "bool"
  | .int _ => .type "int"
  | .str _ => .type "str"
  | .tup _ => .type "tuple"
  | .lst _ => .type "list"
  | .dct _ _ _ => .type "dict"
  | .ins c _ => .ref (L.cls c)
  | _ => .none
/-- the type that is asked for -/
def tyAsk (L : Lay) : Ty → Value
  | .int => .type "int"
  | .bool => .type "bool"
  | .str => .type "str"
  | .lst => .type "list"
  | .tup => .type "tuple"
  | .dct => .type "dict"
  | .cls c => .ref (L.cls c)
def tyAskV (L : Lay) : Ty → V
  | .int => .ty "int"
  | .bool => .ty "bool"
  | .str => .ty "str"
  | .lst => .ty "list"
  | .tup => .ty "tuple"
  | .dct => .ty "dict"
  | .cls c => .ref (L.cls c)
theorem ty_top {P : PP} {F H : Hp} {d : D} {v : V} (hC : ∀ c, P.L.kc c = true → ClsOk P.L c) (t : Top P F H d v) (m : LeH F H) (ok : tyOk d = true) : TyX P.L.K H v (tyVal P.L d) := by
  cases d with
  | non => rw [t.non]; exact .base .non
  | bl b => rw [t.bl]; exact .base (.bl b)
  | int i => rw [t.int]; exact .base (.int i)
  | str s => rw [t.str.1]; exact .base (.str s)
  | tup ds =>
    obtain ⟨a, vs, rfl, (h | ⟨o, h⟩) | ⟨o, its, n, h1, h2, _⟩, r⟩ := t.tup m
    · exact .base (.tup h)
    · exact .fTuple h
    · exact .kTuple h1 h2
  | lst ds => obtain ⟨a, vs, rfl, h, r⟩ := t.lst m; exact .base (.lst h)
  | dct w ks ds =>
    obtain ⟨a, ws, rfl, ⟨_, ⟨_, h⟩ | ⟨_, es, n, kd, _⟩⟩, r⟩ := t.dct m
    · exact .base (.dK h)
    · exact .kDict kd.at_ rfl
  | ins c ds =>
    obtain ⟨a, dx, vs, rfl, h1, h2, _⟩ := t.ins m
    have C := hC c h2
    exact .base (.ins h1 C.cl C.ha C.hn C.htk C.hm)
  | fn f => cases ok
  | scr n => cases ok
  | exn n => cases ok
/-- the answers of isinstance about instances -/
structure IsiOk (L : Lay) (t : Ty) : Prop where
  ins : ∀ c fs, L.kc c = true → PySem.W.kitOne L.K (.ref (L.cls c)) (tyAsk L t) = some (tyD t (.ins c fs))
  own : ∀ c, t = .cls c → L.kc c = true
theorem isi_base {L : Lay} {t : Ty} {d : D} (hC : ∀ c, L.kc c = true → ClsOk L c) (I : IsiOk L t) (hd : ∀ c ds, d = .ins c ds → L.kc c = true) (ok : tyOk d = true) : PySem.W.kitOne L.K (tyVal L d) (tyAsk L t) = some (tyD t d) := by
  have own : ∀ (n : String) (c : Nat), L.kc c = true → (PySem.fastBuiltinMro n).map (·.contains (Value.ref (L.cls c))) = some false → PySem.W.kitOne L.K (.type n) (.ref (L.cls c)) = some false := fun n c hc h => by
    have C := hC c hc
    unfold PySem.W.kitOne
    rw [if_neg (by intro z; exact absurd (beq_iff_eq.mp z) (fun q => nomatch q))]
    unfold PySem.W.kitCls
    dsimp only
    rw [if_pos C.ci]
    exact h
  have no : ∀ (n : String) (l : List Value) (a : Addr), PySem.fastBuiltinMro n = some l → (l.all fun v => match v with | .type _ => true | _ => false) = true → (PySem.fastBuiltinMro n).map (·.contains (Value.ref a)) = some false := fun n l a h1 h2 => by
    rw [h1]
    refine congrArg some ?_
    rw [Bool.eq_false_iff]
    intro z
    rw [List.contains_iff_mem] at z
    have := List.all_eq_true.mp h2 _ z
    cases this
  cases d with
  | ins c fs => exact I.ins c fs (hd c fs rfl)
  | fn f => cases ok
  | scr n => cases ok
  | exn n => cases ok
  | _ =>
    cases t with
    | cls c =>
      refine own _ c (I.own c rfl) (no _ _ _ rfl (by decide +kernel))
    | _ =>
      refine kit_ty ?_
      first
        | (show kitB _ _ = some true; decide +kernel)
        | (show kitB _ _ = some false; decide +kernel)
theorem e_isi {t : Ty} {g : Str} {p : Pos} {y : Expr} {uv : Value} (hK : X.K = P.L.K) (hC : ∀ c, P.L.kc c = true → ClsOk P.L c) (I : IsiOk P.L t) (hg : Gl X "isinstance") (hm : X.mg "isinstance" = none) (ha : PE X x (tO P Γ Xp a)) (hy : PE X y (tC (tyAskV P.L t)))
    (he : starEach [x, y] X.env = (false, eval x X.env) :: starEach [y] X.env) (he2 : starEach [y] X.env = (false, eval y X.env) :: starEach [] X.env) :
    PE X (.Call (.Name "isinstance" p) [x, y] [] pos) (tE P Γ Xp (.isi a t)) := pe_imp (pe_callB call_isi hg hm (by decide +kernel) (pa_cons ha (pa_cons hy pa_nil he2) he) (by decide) (by decide) he (by rw [he2]; rfl)) fun σ H Q hq => by
  obtain ⟨env, F, R, ex, w, k⟩ := hq
  simp only [wE] at w
  refine ⟨env, F, _, ex, w, fun o1 env1 v1 H1 F1 w1 m1 e1 p1 => ?_⟩
  obtain ⟨d, q1, q2, w1⟩ := w1
  have T := e1.res p1 q1
  refine ⟨v1, tyAskV P.L t, tyVal P.L d, tyAsk P.L t, tyD t d, rfl, ?_, by rw [hK]; exact ty_top hC T e1.sub q2, ?_, k _ _ _ H1 F1 w1 m1 (e1.pure rfl)⟩
  · cases t <;> first
      | exact .ty _
      | exact .own _
  · rw [hK]
    refine isi_base hC I (fun c ds e => ?_) q2
    subst e
    obtain ⟨_, _, _, _, _, h, _⟩ := T.ins e1.sub
    exact h
end
end G
/-! A3: built-in functions. -/
namespace G
open PySem PySem.Spec L2
section
variable {X : Cx} {P : PP} {Γ : Fns} {Xp : XP} {pos : Pos} {x y z : Expr} {a b c : E}
theorem CallR2.or {f : Value} {r r' : List V → Hp → VK → Prop} (h : CallR X f r) (h' : CallR X f r') : CallR X f (fun xs H Q => r xs H Q ∨ r' xs H Q) := by
  intro pins s σ H xs us Q I rv q
  rcases q with q | q
  · exact h pins s σ H xs us Q I rv q
  · exact h' pins s σ H xs us Q I rv q
/-! ### data, read -/
theorem toPys_len : ∀ ds : List D, (toPys ds).length = ds.length
  | [] => by simp [toPys]
  | d :: ds => by simp [toPys, toPys_len ds]
section
variable {pins : List (Addr × Obj)} {σ : L2.St} {H : Hp} {s : Shared}
theorem not_sys (I : Inv X pins σ H s) (hsm : ∃ o, X.base.get? sysModules = some o) {a : Addr} {u : HO} (h : H a = some u) : sysModules ≠ a := fun e => by
  obtain ⟨o, ho⟩ := hsm
  have := (I.bs sysModules o ho).2
  rw [e, h] at this
  cases this
theorem keys_read {h : Heap} : ∀ {es : List DictEntry} {kvs : List (Key × Value)} {ks : List Key}, Pairs (mixKind X.prog X.w) es kvs → kvs.map (·.1) = ks → ∃ as, ReadsAll h (es.map (·.key)) (ks.map keyPy) as ∧ sysModules ∉ as
  | _, _, ks, .nil, e => by
    subst e
    exact ⟨[], .nil, by simp⟩
  | _, _, ks, .cons (e := e) (kv := kv) h1 h2 t, eq => by
    subst eq
    obtain ⟨as, h3, h4⟩ := keys_read (h := h) t rfl
    have h1 : keyIs kv.1 e.key = true := h1
    rcases keyIs_shape h1 with ⟨i, tk, ek, ev⟩ | ⟨x, tk, ek, ev⟩
    · refine ⟨[] ++ as, ?_, by simpa using h4⟩
      rw [List.map_cons, List.map_cons, List.map_cons, ek, ev]
      exact .cons (.int i tk) h3
    · refine ⟨[] ++ as, ?_, by simpa using h4⟩
      rw [List.map_cons, List.map_cons, List.map_cons, ek, ev]
      exact .cons (.str x tk) h3
theorem pairs_vals {es : List DictEntry} {kvs : List (Key × Value)} (h : Pairs (mixKind X.prog X.w) es kvs) : es.map (·.val) = kvs.map (·.2) := by
  induction h with
  | nil => rfl
  | cons h1 h2 t ih => rw [List.map_cons, List.map_cons, h2, ih]
theorem kv_split {ks : List Key} : ∀ {ws : List V} {kvs : List (Key × Value)}, ks.length = ws.length → KV (ks.zip ws) kvs → kvs.map (·.1) = ks ∧ Vals ws (kvs.map (·.2)) := by
  induction ks with
  | nil =>
    intro ws kvs hl h
    cases ws with
    | nil => cases h; exact ⟨rfl, .nil⟩
    | cons _ _ => simp at hl
  | cons k ks ih =>
    intro ws kvs hl h
    cases ws with
    | nil => simp at hl
    | cons w ws =>
      rw [List.zip_cons_cons] at h
      cases h with
      | cons h1 t =>
        obtain ⟨e1, e2⟩ := ih (ws := ws) (by simpa using hl) t
        refine ⟨by rw [List.map_cons, e1, ← h1.1], ?_⟩
        rw [List.map_cons]
        exact .cons h1.2 e2
mutual
theorem rep_reads (I : Inv X pins σ H s) (hK : X.K = P.L.K) (hsm : ∃ o, X.base.get? sysModules = some o) : ∀ (d : D) (v : V) (u : Value), plainR d = true → Rep P.L H d v → RelV v u → ∃ as, Reads s.heap u (toPy d) as ∧ sysModules ∉ as
  | .non, v, u, _, h, r => by
    rw [show v = V.non from h] at r
    rw [show u = Value.none from r]
    exact ⟨[], by simp only [toPy]; exact .none, by simp⟩
  | .bl b, v, u, _, h, r => by
    rw [show v = V.bl b from h] at r
    rw [show u = Value.bool b from r]
    exact ⟨[], by simp only [toPy]; exact .bool b, by simp⟩
  | .int i, v, u, _, h, r => by
    rw [show v = V.int i from h] at r
    obtain ⟨t, rfl⟩ := r
    exact ⟨[], by simp only [toPy]; exact .int i t, by simp⟩
  | .str x, v, u, _, h, r => by
    rw [show v = V.str x from h.1] at r
    obtain ⟨t, rfl⟩ := r
    exact ⟨[], by simp only [toPy]; exact .str x t, by simp⟩
  | .lst ds, v, u, p, ⟨a, vs, e, h, rp⟩, r => by
    subst e
    cases r
    obtain ⟨z, its, n, rv, hl, e⟩ := I.lstM h
    obtain ⟨as, h1, h2⟩ := reps_reads I hK hsm ds vs its (by simpa [plainR] using p) rp rv
    refine ⟨a :: as, by simp only [toPy]; exact .list e rfl rfl (by simpa using h1), ?_⟩
    rw [List.mem_cons, not_or]
    exact ⟨not_sys I hsm h, h2⟩
  | .tup ds, v, u, p, ⟨a, vs, e, h, rp⟩, r => by
    subst e
    cases r
    obtain ⟨its, rv, ⟨o, e1, e2, n, e3⟩, _⟩ := I.tuple (by rw [hK]; exact h)
    obtain ⟨as, h1, h2⟩ := reps_reads I hK hsm ds vs its (by simpa [plainR] using p) rp rv
    exact ⟨as, by simp only [toPy]; exact .tuple e1 e2 e3 (by simpa using h1), h2⟩
  | .dct w ks ds, v, u, p, ⟨a, ws, e, h, rp⟩, r => by
    subst e
    cases r
    have p' : w = false ∧ ks.length = ds.length ∧ plainRs ds = true := by simpa [plainR] using p
    obtain ⟨rfl, p1, p2⟩ := p'
    rcases h.2 with ⟨_, hd⟩ | ⟨z, _⟩
    · obtain ⟨hz, hs, kvs, rel, o, es, ep, e1, e2, e3, e4, e5, e6⟩ := dk_of I.hok hd
      obtain ⟨k1, k2⟩ := kv_split h.1 rel
      obtain ⟨as, a1, a2⟩ := keys_read (X := X) (h := s.heap) e5 k1
      obtain ⟨bs, b1, b2⟩ := reps_reads I hK hsm ds ws (kvs.map (·.2)) p2 rp k2
      refine ⟨a :: as ++ bs, ?_, ?_⟩
      · simp only [toPy]
        have l : (ks.map keyPy).length = (toPys ds).length := by rw [List.length_map, toPys_len, p1]
        refine .dict e1 e2.1 e3 ?_ ?_
        · rw [List.map_fst_zip (by omega)]
          exact a1
        · rw [List.map_snd_zip (by omega), pairs_vals e5]
          exact b1
      · simp only [List.cons_append, List.mem_cons, List.mem_append, not_or]
        exact ⟨not_sys I hsm hd, a2, b2⟩
    · cases z
  | .ins _ _, _, _, p, _, _ => by simp [plainR] at p
  | .fn _, _, _, p, _, _ => by simp [plainR] at p
  | .scr _, _, _, p, _, _ => by simp [plainR] at p
  | .exn _, _, _, p, _, _ => by simp [plainR] at p
theorem reps_reads (I : Inv X pins σ H s) (hK : X.K = P.L.K) (hsm : ∃ o, X.base.get? sysModules = some o) : ∀ (ds : List D) (vs : List V) (us : List Value), plainRs ds = true → Reps P.L H ds vs → Vals vs us → ∃ as, ReadsAll s.heap us (toPys ds) as ∧ sysModules ∉ as
  | [], vs, us, _, h, r => by
    rw [show vs = ([] : List V) from h] at r
    cases r
    exact ⟨[], by simp only [toPys]; exact .nil, by simp⟩
  | d :: ds, vs, us, p, ⟨v, vr, e, h1, h2⟩, r => by
    subst e
    cases r with
    | cons r1 r2 =>
      have p' : plainR d = true ∧ plainRs ds = true := by simpa [plainRs] using p
      obtain ⟨as, a1, a2⟩ := rep_reads I hK hsm d v _ p'.1 h1 r1
      obtain ⟨bs, b1, b2⟩ := reps_reads I hK hsm ds vr _ p'.2 h2 r2
      refine ⟨as ++ bs, by simp only [toPys]; exact .cons a1 b1, ?_⟩
      simp only [List.mem_append, not_or]
      exact ⟨a2, b2⟩
end
end
/-- repr of data -/
def rRepr (L : Lay) : List V → Hp → VK → Prop := fun xs H Q => ∃ x d, xs = [x] ∧ plainR d = true ∧ Rep L H d x ∧ (toPy d).showable = true ∧ (toPy d).depth ≤ 60 ∧ (showD d).length ≤ sizeLine ∧ Q (.str (showD d)) H
theorem call_reprD (hK : X.K = P.L.K) (hsm : ∃ o, X.base.get? sysModules = some o) (hg : X.A.guards = some []) (hu : X.A.units + 150 < cLine) : CallR X (.builtin "repr") (rRepr P.L) := by
  intro pins s σ H xs us Q I r h
  obtain ⟨x, d, rfl, hp, hd, hs, hdep, hlen, q⟩ := h
  obtain ⟨u, rfl, ru⟩ := vals1 r
  obtain ⟨as, rd, ns⟩ := rep_reads I hK hsm d x u hp hd ru
  have go : ∀ a, u = .ref a → wpAny (model X.prog X.w) X.A (call (.builtin "repr") [u]) (EP X pins σ Q) X.xe s := fun a e => by
    subst e
    exact PySem.repr_of_reads' rd hs (fun _ => ns) hg (by omega) (fun _ _ e => e) (fun h' u tk kp => ⟨.str _, H, I.kept kp, ⟨_, rfl⟩, q⟩) hlen
  cases d with
  | non =>
    rw [show x = V.non from hd] at ru
    rw [show u = Value.none from ru]
    exact PySem.P.repr_of_none ⟨.str _, H, I.tok _, ⟨_, rfl⟩, q⟩
  | bl b =>
    rw [show x = V.bl b from hd] at ru
    rw [show u = Value.bool b from ru]
    exact PySem.P.repr_of_bool ⟨.str _, H, I.tok _, ⟨_, rfl⟩, q⟩
  | int i =>
    rw [show x = V.int i from hd] at ru
    obtain ⟨t, rfl⟩ := ru
    exact PySem.P.repr_of_int (by simpa [toPy, PyData.showable] using hs) ⟨.str _, H, I.tok _, ⟨_, rfl⟩, q⟩
  | str y =>
    rw [show x = V.str y from hd.1] at ru
    obtain ⟨t, rfl⟩ := ru
    exact PySem.P.repr_of_str ⟨.str _, H, I.tok _, ⟨_, rfl⟩, q⟩ hlen
  | lst ds => obtain ⟨a, vs, rfl, _⟩ := hd; exact go a ru
  | tup ds => obtain ⟨a, vs, rfl, _⟩ := hd; exact go a ru
  | dct w ks ds => obtain ⟨a, vs, rfl, _⟩ := hd; exact go a ru
  | _ => simp [plainR] at hp
theorem reps_ints {L : Lay} {F : Hp} : ∀ {ns : List Int} {vs : List V}, Reps L F (ns.map .int) vs → vs = ns.map V.int
  | [], _, h => h
  | n :: ns, _, ⟨v, r, e, h1, h2⟩ => by rw [e, show v = V.int n from h1, reps_ints h2]; rfl
theorem reps_strs {L : Lay} {F : Hp} : ∀ {ns : List Str} {vs : List V}, Reps L F (ns.map .str) vs → vs = ns.map V.str ∧ ∀ x ∈ ns, x.length ≤ line
  | [], _, h => ⟨h, fun _ h => by simp at h⟩
  | n :: ns, _, ⟨v, r, e, h1, h2⟩ => by
    obtain ⟨e2, h3⟩ := reps_strs h2
    refine ⟨by rw [e, show v = V.str n from h1.1, e2]; rfl, fun x hx => ?_⟩
    rcases List.mem_cons.mp hx with rfl | hx
    · exact h1.2
    · exact h3 x hx
theorem ints_reps {L : Lay} {F : Hp} : ∀ {ns : List Int}, Reps L F (ns.map .int) (ns.map V.int)
  | [] => rfl
  | n :: ns => ⟨_, _, rfl, rfl, ints_reps⟩
theorem strs_reps {L : Lay} {F : Hp} : ∀ {ns : List Str}, (∀ x ∈ ns, x.length ≤ line) → Reps L F (ns.map .str) (ns.map V.str)
  | [], _ => rfl
  | n :: ns, h => ⟨_, _, rfl, ⟨rfl, h n (List.mem_cons_self ..)⟩, strs_reps fun x hx => h x (List.mem_cons_of_mem _ hx)⟩
theorem reps_bls {L : Lay} {F : Hp} : ∀ {ns : List Bool} {vs : List V}, Reps L F (ns.map .bl) vs → vs = ns.map V.bl
  | [], _, h => h
  | n :: ns, _, ⟨v, r, e, h1, h2⟩ => by rw [e, show v = V.bl n from h1, reps_bls h2]; rfl
mutual
theorem plain_R : ∀ d : D, plain d = true → plainR d = true
  | .non, _ => rfl
  | .bl _, _ => rfl
  | .int _, _ => rfl
  | .str _, _ => rfl
  | .tup xs, h => by simp only [plainR]; exact plains_R xs (by simpa [plain] using h)
  | .lst xs, h => by simp only [plainR]; exact plains_R xs (by simpa [plain] using h)
  | .dct _ _ _, h => by simp [plain] at h
  | .ins _ _, h => by simp [plain] at h
  | .fn _, h => by simp [plain] at h
  | .scr _, h => by simp [plain] at h
  | .exn _, h => by simp [plain] at h
theorem plains_R : ∀ ds : List D, plains ds = true → plainRs ds = true
  | [], _ => rfl
  | d :: ds, h => by
    simp only [plains, Bool.and_eq_true] at h
    simp only [plainRs, Bool.and_eq_true]
    exact ⟨plain_R d h.1, plains_R ds h.2⟩
end
/-- sorted(xs), data of which every place is of one kind -/
def rSortedD (L : Lay) : List V → Hp → VK → Prop := fun vs H Q => ∃ (l : Addr) (ws : List V) (ds : List D) (F : Hp), vs = [.ref l] ∧ H l = some (.lst ws) ∧ LeH F H ∧ Reps L F ds ws ∧ srtD ds ∧ ∀ (ws' : List V) (p : Addr), Reps L F (sortD ds) ws' → H p = none → Q (.ref p) (upd H p (.lst ws'))
theorem each_srt {L : Lay} {F : Hp} {h : Heap} : ∀ {ds : List D} {ws : List V} {its : List Value} {as : List Addr}, Reps L F ds ws → Vals ws its → ReadsAll h its (toPys ds) as → PySem.W.EachIs (fun v (b : V × D) => (RelV b.1 v ∧ Rep L F b.2 b.1) ∧ ∃ as, Reads h v (toPy b.2) as) its (ws.zip ds)
  | [], ws, its, as, r, rv, _ => by
    obtain rfl : ws = [] := r
    cases rv
    exact .nil
  | d :: ds, ws, its, as, r, rv, rd => by
    obtain ⟨w, ws, rfl, r1, r2⟩ := r
    cases rv with
    | cons v1 v2 =>
      cases rd with
      | cons d1 d2 => exact .cons ⟨⟨v1, r1⟩, _, d1⟩ (each_srt r2 v2 d2)
theorem each_bk {L : Lay} {F : Hp} : ∀ {bs : List (V × D)} {out : List Value}, PySem.W.EachIs (fun v (b : V × D) => RelV b.1 v ∧ Rep L F b.2 b.1) out bs → Vals (bs.map Prod.fst) out ∧ Reps L F (bs.map Prod.snd) (bs.map Prod.fst)
  | [], _, .nil => ⟨.nil, rfl⟩
  | b :: bs, _, .cons h t => ⟨.cons h.1 (each_bk t).1, _, _, rfl, h.2, (each_bk t).2⟩
theorem cr_sortedD (hK : X.K = P.L.K) (hsm : ∃ o, X.base.get? sysModules = some o) (hu : X.A.units + 150 < cLine) : CallR X (.builtin "sorted") (rSortedD P.L) := by
  intro pins s σ H vs us Q I r h
  obtain ⟨l, ws, ds, F, rfl, hl, hF, rp, ⟨fl, aa, sb⟩, q⟩ := h
  rw [Vals.ref1 r]
  obtain ⟨its, ep, rv, ho, hz⟩ := I.lst hl
  have h1 : ds.all (flat 39) = true := by simpa only [flat] using fl
  obtain ⟨pl, dp⟩ := flats_ok (flat_ok 39) ds h1
  obtain ⟨as, rd, _⟩ := reps_reads (P := P) I hK hsm ds ws its (plains_R ds pl) (Reps.mono hF _ _ rp) rv
  have e := each_srt rp rv rd
  have l1 := rv.length
  have l2 := rp.length
  have e1 : (ws.zip ds).map Prod.snd = ds := List.map_snd_zip (by omega)
  have e2 : (ws.zip ds).map (fun b : V × D => toPy b.2) = ds.map toPy := by
    rw [show (fun b : V × D => toPy b.2) = toPy ∘ Prod.snd from rfl, ← List.map_map, e1]
  have lz : (ws.zip ds).length = ws.length := by rw [List.length_zip]; omega
  refine PySem.W.sorted_data (bs := ws.zip ds) (enc := fun b => toPy b.2) (R := fun v b => RelV b.1 v ∧ Rep P.L F b.2 b.1) ⟨_, ho, rfl, _, rfl⟩ (e.mono fun _ _ h => h.1) (e.mono fun _ _ h => h.2) (by rw [e2]; exact aa) (by rw [e2]; exact sb) (by rw [lz]; exact hz) (fun b hb => ?_) fun out ho2 eo => ?_
  · have hd := (List.all_eq_true.mp h1) b.2 (List.of_mem_zip hb).2
    have := (flat_ok 39 b.2 hd).2
    show X.A.units + 2 + (toPy b.2).depth < cLine
    omega
  · obtain ⟨v1, r1⟩ := each_bk eo
    have es : ((ws.zip ds).mergeSort (PySem.W.dataLe false fun b : V × D => toPy b.2)).map Prod.snd = sortD ds := by
      unfold sortD
      conv => rhs; rw [← e1]
      exact PySem.W.sort_maps Prod.snd fun _ _ _ _ => rfl
    rw [es] at r1
    obtain ⟨ep2, he'⟩ := PyProof.Rows.sortedAll_at s.heap its out.toArray
    have hlen : (((ws.zip ds).mergeSort (PySem.W.dataLe false fun b : V × D => toPy b.2)).map Prod.fst).length ≤ sizeLine := by
      rw [List.length_map, List.length_mergeSort, lz]
      exact hz
    exact ⟨.ref _, upd H (s.heap.objs.size + 1) (.lst _), I.laid (t' := s.toks) (fun _ _ => PyProof.Rows.sortedAll_old) (Nat.le_succ _) ⟨hlen, out, ep2, v1, he'⟩, rfl, q _ _ r1 (I.hok.fresh (Nat.le_succ _))⟩
/-- what a built-in function asks -/
def rBI (L : Lay) (K : PySem.W.Frag) : BI → List V → Hp → VK → Prop
  | .len => fun xs H Q => ∃ x n, xs = [x] ∧ LenV K x H n ∧ Q (.int n) H
  | .max2 => fun xs H Q => ∃ i j, xs = [.int i, .int j] ∧ Q (.int (if j > i then j else i)) H
  | .min2 => fun xs H Q => ∃ i j, xs = [.int i, .int j] ∧ Q (.int (if j < i then j else i)) H
  | .repr => rRepr L
  | .max1 => rMax K
  | .min1 => rMin K
  | .sum => rSum K
  | .all => rAll K
  | .any => rAny K
  | .lst => fun xs H Q => ∃ p ys, xs = [.ref p] ∧ (SqL K H p ys ∨ SqT K H p ys) ∧ ∀ l, H l = none → Q (.ref l) (upd H l (.lst ys))
  | .tup => fun xs H Q => ∃ p ys, xs = [.ref p] ∧ ((SqL K H p ys ∧ ∀ l, H l = none → Q (.ref l) (upd H l (.tup ys))) ∨ (SqT K H p ys ∧ Q (.ref p) H))
  | .str => fun xs H Q => ∃ i, xs = [.int i] ∧ i.natAbs.log2 < 1920 ∧ Q (.str (toString i)) H
  | .int => fun xs H Q => (∃ i, xs = [.int i] ∧ Q (.int i) H) ∨ ∃ k, xs = [.bl k] ∧ Q (.int (if k then 1 else 0)) H
  | .sorted => fun xs H Q => rSortedI K xs H Q ∨ rSortedS K xs H Q ∨ rSortedD L xs H Q
/-- the value that a built-in name has -/
def biV : BI → Option Value
  | .len => some (.builtin "len")
  | .max2 => some (.builtin "max")
  | .min2 => some (.builtin "min")
  | .max1 => some (.builtin "max")
  | .min1 => some (.builtin "min")
  | .sum => some (.builtin "sum")
  | .all => some (.builtin "all")
  | .any => some (.builtin "any")
  | .repr => some (.builtin "repr")
  | .lst => some (.type "list")
  | .tup => some (.type "tuple")
  | .str => some (.type "str")
  | .int => some (.type "int")
  | .sorted => some (.builtin "sorted")
theorem call_bi (hK : X.K = P.L.K) (hsm : ∃ o, X.base.get? sysModules = some o) (hc : X.calm = true) (hg : X.A.guards = some []) (hu : X.A.units + 150 < cLine) : ∀ (b : BI) (u : Value), biV b = some u → CallR X u (rBI P.L X.K b) := by
  intro b u e
  cases b <;> first
    | (cases e; first
      | exact call_len
      | exact call_max2 hc
      | exact call_min2 hc
      | exact cr_max hc
      | exact cr_min hc
      | exact cr_sum hc
      | exact cr_all hc
      | exact cr_any hc
      | exact call_reprD hK hsm hg hu
      | exact call_list_of
      | exact call_tuple_of
      | exact call_str_int
      | exact call_int1
      | exact CallR.or cr_sortedI (CallR.or cr_sortedS (cr_sortedD hK hsm hu)))
    | cases e
theorem opRs_one {σ : L2.St} {F : Hp} {vs : List V} {os : List Op} {env : Env} {o : Option D} (p : OpRs P F σ vs os) (q : os.map (res env) = [o]) : ∃ v p', vs = [v] ∧ os = [p'] ∧ OpR P F σ v p' ∧ res env p' = o := by
  cases p with
  | nil => cases q
  | cons h t => cases t with
    | nil => simp at q; exact ⟨_, _, rfl, rfl, h, q⟩
    | cons _ _ => simp at q
theorem opRs_two {σ : L2.St} {F : Hp} {vs : List V} {os : List Op} {env : Env} {o o' : Option D} (p : OpRs P F σ vs os) (q : os.map (res env) = [o, o']) : ∃ v v' p' p'', vs = [v, v'] ∧ OpR P F σ v p' ∧ res env p' = o ∧ OpR P F σ v' p'' ∧ res env p'' = o' := by
  cases p with
  | nil => cases q
  | cons h t => cases t with
    | nil => simp at q
    | cons h' t => cases t with
      | nil => simp at q; exact ⟨_, _, _, _, rfl, h, q.1, h', q.2⟩
      | cons _ _ => simp at q
theorem bi_core (hK : X.K = P.L.K) {b : BI} {σ : L2.St} {H : Hp} {env : Env} {F : Hp} {os : List Op} {vs : List V} {R : RV → Prop} {Q : VK} (ex : EX P σ H env F) (p : OpRs P F σ vs os) (w : biW b (os.map (res env)) R)
    (k : ∀ r v H' F', R r → LeH F F' → EXv P σ H' env F' v r → Q v H') : rBI P.L X.K b vs H Q := by
  generalize q : os.map (res env) = ds at w
  unfold biW at w
  split at w
  case h_1 =>
    obtain ⟨v, o, rfl, rfl, h, e⟩ := opRs_one p q
    obtain ⟨a, vs, rfl, h1, r1⟩ := (ex.res h e).lst ex.sub
    exact ⟨_, _, rfl, .inl ⟨vs, .inl (.inl h1), rfl⟩, by rw [r1.length]; exact int_post ex k w⟩
  case h_2 =>
    obtain ⟨v, o, rfl, rfl, h, e⟩ := opRs_one p q
    obtain ⟨a, vs, rfl, h1, r1⟩ := (ex.res h e).tup ex.sub
    exact ⟨_, _, rfl, .inr ⟨vs, by rw [hK]; exact h1, rfl⟩, by rw [r1.length]; exact int_post ex k w⟩
  case h_3 =>
    obtain ⟨v, o, rfl, rfl, h, e⟩ := opRs_one p q
    obtain ⟨rfl, h1⟩ := (ex.res h e).str
    exact ⟨_, _, rfl, ⟨by rw [← line_eq]; exact h1, rfl⟩, int_post ex k w⟩
  case h_4 =>
    obtain ⟨v, o, rfl, rfl, h, e⟩ := opRs_one p q
    obtain ⟨a, rfl, h1⟩ := (ex.res h e).scr ex.sub
    exact ⟨_, _, rfl, .inl ⟨_, by rw [hK]; exact h1, rfl⟩, by rw [List.length_map]; exact int_post ex k w⟩
  case h_5 =>
    obtain ⟨v, v', o, o', rfl, h, e, h', e'⟩ := opRs_two p q
    exact ⟨_, _, by rw [(ex.res h e).int, (ex.res h' e').int], int_post ex k w⟩
  case h_6 =>
    obtain ⟨v, v', o, o', rfl, h, e, h', e'⟩ := opRs_two p q
    exact ⟨_, _, by rw [(ex.res h e).int, (ex.res h' e').int], int_post ex k w⟩
  case h_7 =>
    obtain ⟨v, o, rfl, rfl, h, e⟩ := opRs_one p q
    obtain ⟨w1, w2, w3, w4, w5⟩ := w
    exact ⟨_, _, rfl, w1, (ex.res h e).now ex.sub, w2, w3, by rw [← line_eq]; exact w4, k _ _ H F w5 (LeH.refl F) (ex.pure ⟨rfl, w4⟩)⟩
  case h_8 =>
    obtain ⟨v, o, rfl, rfl, h, e⟩ := opRs_one p q
    obtain ⟨ns, rfl, hne, w⟩ := w
    obtain ⟨a, vs, rfl, h1, r1⟩ := (ex.res h e).lst ex.sub
    rw [reps_ints r1] at h1
    exact ⟨_, ns, rfl, .inl (.inl h1), by cases ns <;> simp at hne ⊢, fun m h1 h2 => int_post ex k (w m h1 h2)⟩
  case h_9 =>
    obtain ⟨v, o, rfl, rfl, h, e⟩ := opRs_one p q
    obtain ⟨ns, rfl, hne, w⟩ := w
    obtain ⟨a, vs, rfl, h1, r1⟩ := (ex.res h e).lst ex.sub
    rw [reps_ints r1] at h1
    exact ⟨_, ns, rfl, .inl (.inl h1), by cases ns <;> simp at hne ⊢, fun m h1 h2 => int_post ex k (w m h1 h2)⟩
  case h_10 =>
    obtain ⟨v, o, rfl, rfl, h, e⟩ := opRs_one p q
    obtain ⟨ns, rfl, w⟩ := w
    obtain ⟨a, vs, rfl, h1, r1⟩ := (ex.res h e).lst ex.sub
    rw [reps_ints r1] at h1
    exact ⟨_, ns, rfl, .inl (.inl h1), int_post ex k w⟩
  case h_11 =>
    obtain ⟨v, o, rfl, rfl, h, e⟩ := opRs_one p q
    obtain ⟨ns, rfl, w⟩ := w
    obtain ⟨a, vs, rfl, h1, r1⟩ := (ex.res h e).lst ex.sub
    rw [reps_bls r1] at h1
    exact ⟨_, ns, rfl, .inl (.inl h1), bl_post ex k w⟩
  case h_12 =>
    obtain ⟨v, o, rfl, rfl, h, e⟩ := opRs_one p q
    obtain ⟨ns, rfl, w⟩ := w
    obtain ⟨a, vs, rfl, h1, r1⟩ := (ex.res h e).lst ex.sub
    rw [reps_bls r1] at h1
    exact ⟨_, ns, rfl, .inl (.inl h1), bl_post ex k w⟩
  case h_13 =>
    obtain ⟨v, o, rfl, rfl, h, e⟩ := opRs_one p q
    obtain ⟨a, vs, rfl, h1, r1⟩ := (ex.res h e).lst ex.sub
    exact ⟨_, vs, rfl, .inl (.inl (.inl h1)), fun l hl => lst_post ex k w hl r1⟩
  case h_14 =>
    obtain ⟨v, o, rfl, rfl, h, e⟩ := opRs_one p q
    obtain ⟨a, vs, rfl, h1, r1⟩ := (ex.res h e).tup ex.sub
    exact ⟨_, vs, rfl, .inr (by rw [hK]; exact h1), fun l hl => lst_post ex k w hl r1⟩
  case h_15 =>
    obtain ⟨v, o, rfl, rfl, h, e⟩ := opRs_one p q
    obtain ⟨a, vs, rfl, h1, r1⟩ := (ex.res h e).lst ex.sub
    exact ⟨_, vs, rfl, .inl ⟨.inl (.inl h1), fun l hl => tup_post ex k w hl r1⟩⟩
  case h_16 =>
    obtain ⟨v, o, rfl, rfl, h, e⟩ := opRs_one p q
    have t := (ex.res h e).rtup
    obtain ⟨a, vs, rfl, h1, r1⟩ := id t
    exact ⟨_, vs, rfl, .inr ⟨by rw [hK]; exact sqT_mono ex.sub h1, k _ _ H F w (LeH.refl F) (ex.pure t)⟩⟩
  case h_17 =>
    obtain ⟨v, o, rfl, rfl, h, e⟩ := opRs_one p q
    obtain ⟨w1, w2, w3⟩ := w
    exact ⟨_, by rw [(ex.res h e).int], w1, k _ _ H F w3 (LeH.refl F) (ex.pure ⟨rfl, w2⟩)⟩
  case h_18 =>
    obtain ⟨v, o, rfl, rfl, h, e⟩ := opRs_one p q
    obtain ⟨a, vs, rfl, h1, r1⟩ := (ex.res h e).lst ex.sub
    rcases w with ⟨ns, rfl, w⟩ | ⟨ns, rfl, hn, w⟩ | ⟨od, w⟩
    · rw [reps_ints r1] at h1
      exact .inl ⟨a, ns, rfl, .inl (.inl h1), fun ms l h2 h3 hl => lst_post ex k (w ms h2 h3) hl ints_reps⟩
    · obtain ⟨e2, h2⟩ := reps_strs r1
      rw [e2] at h1
      exact .inr (.inl ⟨a, ns, rfl, .inl (.inl h1), hn, fun ms l h3 h4 hl => lst_post ex k (w ms h3 h4) hl (strs_reps fun x hx => h2 x (h3.mem_iff.mp hx))⟩)
    · refine .inr (.inr ⟨a, vs, _, F, rfl, h1, ex.sub, r1, od, fun ws' p r' hp => ?_⟩)
      exact lst_post ex k w hp r'
  case h_19 =>
    obtain ⟨v, o, rfl, rfl, h, e⟩ := opRs_one p q
    exact .inl ⟨_, by rw [(ex.res h e).int], int_post ex k w⟩
  case h_20 =>
    obtain ⟨v, o, rfl, rfl, h, e⟩ := opRs_one p q
    exact .inr ⟨_, by rw [(ex.res h e).bl], int_post ex k w⟩
  case h_21 => exact w.elim
/-- f(..), f a built-in function or type -/
theorem e_bi {b : BI} {u : Value} {n : Str} {es : List Expr} {ms : List E} {p : Pos} (hK : X.K = P.L.K) (hsm : ∃ o, X.base.get? sysModules = some o) (hc : X.calm = true) (hgd : X.A.guards = some []) (hu : X.A.units + 150 < cLine) (hb : biV b = some u) (hv : bootBuiltins n = some u) (hg : Gl X n) (hm : X.mg n = none)
    (ha : PA X (x :: es) (tOs P Γ Xp ms)) (hn : n ≠ "__name__") (hdb : (n == ("__debug__" : Str)) = false) (he : starEach (x :: es) X.env = (false, eval x X.env) :: starEach es X.env) (hpl : (backTo pos (starEach es X.env)).any (·.1) = false) :
    PE X (.Call (.Name n p) (x :: es) [] pos) (tE P Γ Xp (.bi b ms)) := by
  have cr := call_bi hK hsm hc hgd hu b u hb
  have imp : ∀ σ H Q, tE P Γ Xp (.bi b ms) σ H Q → tCB (rBI P.L X.K b) (tOs P Γ Xp ms) σ H Q := fun σ H Q h => by
    obtain ⟨env, F, R, ex, w, k⟩ := h
    simp only [wE] at w
    refine ⟨env, F, _, ex, w, fun os env1 vs H1 F1 w1 m1 e1 p1 l1 => ?_⟩
    exact bi_core hK e1 p1 w1 fun r v H' F' hr m e => k r env1 v H' F' hr (m1.trans m) e
  cases b <;> first
    | (cases hb; exact pe_imp (pe_callB cr hg hm hv ha hn hdb he hpl) imp)
    | (cases hb; exact pe_imp (pe_callTy cr hg hm hv ha hn hdb he hpl) imp)
    | cases hb
end
end G
/-! A4: what a def keeps, and its call. -/
namespace G
open PySem PySem.Spec L2

/-- how an exception lies (classes without fields; with fields in a dict of its own) -/
def ExR (L : Lay) (F H : Hp) (cls : Value) (d : Option Addr) (x : Exn) : Prop :=
  cls = .ref (L.xc x.c) ∧ ((x.fs = [] ∧ d = none) ∨ ∃ dx fvs vs, d = some dx ∧ x.fs ≠ [] ∧ H dx = some (.xd fvs) ∧ F dx = none ∧ fvs = (excNm x.c).zip vs ∧ vs.length = (excNm x.c).length ∧ Reps L F x.fs vs)
def ArgR (L : Lay) (F H : Hp) (v : V) : EV → Prop
  | .val d => Rep L F d v
  | .bor o => ∃ p, v = .ref p ∧ OwnAt L F H p o
  | .own _ => False
def ArgsR (L : Lay) (F H : Hp) : List V → List EV → Prop := Paired (ArgR L F H)
def adr : V → Addr
  | .ref p => p
  | _ => 0
def borA : List V → List EV → List Addr
  | v :: vs, .bor _ :: as => adr v :: borA vs as
  | _ :: vs, _ :: as => borA vs as
  | _, _ => []
def Outs (L : Lay) (F H : Hp) : List Addr → List OV → Prop := Paired (OwnAt L F H)
def RetR (L : Lay) (H F' H' : Hp) (v : V) : RV → Prop
  | .val d => Rep L F' d v
  | .fr o => ∃ p, v = .ref p ∧ OwnAt L F' H' p o ∧ ∀ u, H p = some u → ∃ ps, u = .tbl ps
def Kept (F H F' H' : Hp) (bs : List Addr) : Prop := ∀ a o, H a = some o → F a = none → a ∉ bs → (∀ ps, o ≠ .tbl ps) → H' a = some o ∧ F' a = none
/-- the tables stand -/
structure TabF (L : Lay) (F H : Hp) : Prop where
  tabs : LamX.Tabs L.T H
  nf : ∀ a ps, F a ≠ some (.tbl ps)
/-- a def's promise, from its meaning -/
def lift (L : Lay) (m : Spec) : Sp := fun vs H Q E => ∃ (F : Hp) (as : List EV) (R : RV → List OV → Prop) (Rx : Exn → List OV → Prop), LeH F H ∧ TabF L F H ∧ ArgsR L F H vs as ∧ (borA vs as).Nodup ∧ m as R Rx ∧
  (∀ r outs v F' H', R r outs → LeH F F' → LeH F' H' → Kept F H F' H' (borA vs as) → Outs L F' H' (borA vs as) outs → TabF L F' H' → RetR L H F' H' v r → Q v H') ∧
  ∀ x outs cls d F' H', Rx x outs → LeH F F' → LeH F' H' → Kept F H F' H' (borA vs as) → Outs L F' H' (borA vs as) outs → TabF L F' H' → ExR L F' H' cls d x → E cls d H'
structure DefOkG (gs : Option (List Code) → Prop) (p : Program) (w : World) (K : PySem.W.Frag) (mg : Str → Option Value) (base : Heap) (n : Nat) (f : Addr) (fd : FuncData) (ps : List Str) (sp : Sp) : Prop where
  len : ∀ vs H Q E, sp vs H Q E → vs.length = ps.length
  run : ∀ (A : Around) (outer : List PySem.Env) (s : Shared) (H : Hp) (args : Args) (us : List Value) (vs : List V) (Q : VK) (E : XK), gs A.guards → Room n A → Env0 p w K mg base A outer s H → BindsTo s fd args (ps.zip us) → Vals vs us → sp vs H Q E →
    codeAny (model p w) A (.call (.ref f) args) (CR (L2.CX p w) outer p w H s Q E) s
abbrev DefOk (p : Program) (w : World) (K : PySem.W.Frag) (mg : Str → Option Value) (base : Heap) (n : Nat) (f : Addr) (fd : FuncData) (ps : List Str) (sp : Sp) : Prop := DefOkG (fun g => g = some []) p w K mg base n f fd ps sp
/-- where the parameters' values come from: a handed one, a default -/
def SrcR (args : List Value) : List (Sum Nat D) → List Value → Prop := Paired fun s z => match s with
  | .inl k => args[k]? = some z
  | .inr d => ∃ v, RelV v z ∧ ∀ L F, Rep L F d v
def BindOk (K : PySem.W.Frag) (fd : FuncData) (ps : List Str) (np : Nat) (kws : List Str) (src : List (Sum Nat D)) : Prop :=
  ∀ (s : Shared) (us ws : List Value), K.In s.heap → us.length = np → ws.length = kws.length → ∃ zs, BindsTo s fd ⟨us, kws.zip ws⟩ (ps.zip zs) ∧ SrcR (us ++ ws) src zs ∧ zs.length = ps.length

/-- a wish for exceptions, as the layer has it -/
def WXo (P : PP) (Xp : XP) : WX := fun cls d σ H => ∃ env F x, EX P σ H env F ∧ ExR P.L F H cls d x ∧ Xp x env

section
variable {X : Cx} {P : PP} {Γ : Fns} {Xp : XP} {pos : Pos} {x y z : Expr} {a b c : E}
/-- the callee runs -/
theorem run_defA {gs : Option (List Code) → Prop} {A : Around} {pins : List (Addr × Obj)} {σ : L2.St} {H : Hp} {s : Shared} {n : Nat} {f : Addr} {fd : FuncData} {ps : List Str} {sp : Sp} {args : Args} {us : List Value} {vs : List V} {Q : VK} {E : XK} (Dk : DefOkG gs X.prog X.w X.K X.mg X.base n f fd ps sp) (hg : gs A.guards) (hr : Room n A)
    (e0 : Env0 X.prog X.w X.K X.mg X.base A X.stack s H)
    (hx : PassesAt (L2.CX X.prog X.w) X σ E) (I : Inv X pins σ H s) (bt : BindsTo s fd args (ps.zip us)) (r : Vals vs us) (h : sp vs H Q E) : wpAny (model X.prog X.w) A (call (.ref f) args.pos args.kw) (EP X pins σ Q) X.xe s := by
  apply wpAny_call
  refine codeAny_mono (Dk.run A X.stack s H args us vs Q E hg hr e0 bt r h) ?_
  intro res st hq
  match res, hq with
  | .error e, hq => exact hx pins H s e st I hq
  | .ok (.ret u), hq => exact I.after hq
  | .ok .next, hq => exact hq.elim
  | .ok .brk, hq => exact hq.elim
  | .ok .cont, hq => exact hq.elim
theorem run_def {pins : List (Addr × Obj)} {σ : L2.St} {H : Hp} {s : Shared} {n : Nat} {f : Addr} {fd : FuncData} {ps : List Str} {sp : Sp} {args : Args} {us : List Value} {vs : List V} {Q : VK} {E : XK} (Dk : DefOk X.prog X.w X.K X.mg X.base n f fd ps sp) (hg : X.A.guards = some []) (hr : Room n X.A)
    (hx : PassesAt (L2.CX X.prog X.w) X σ E) (I : Inv X pins σ H s) (bt : BindsTo s fd args (ps.zip us)) (r : Vals vs us) (h : sp vs H Q E) : wpAny (model X.prog X.w) X.A (call (.ref f) args.pos args.kw) (EP X pins σ Q) X.xe s := run_defA Dk hg hr I.env0 hx I bt r h

/-! ### the arguments, bound -/
theorem OpRs.get {F : Hp} {σ : L2.St} : ∀ {vs : List V} {os : List Op} {k : Nat} {o : Op}, OpRs P F σ vs os → os[k]? = some o → ∃ v, vs[k]? = some v ∧ OpR P F σ v o
  | _, _, _, _, .nil, h => by simp at h
  | _, _, 0, _, .cons h t, e => by simp at e; subst e; exact ⟨_, rfl, h⟩
  | _, _, k + 1, _, .cons h t, e => by
    obtain ⟨v, h1, h2⟩ := OpRs.get (k := k) t (by simpa using e)
    exact ⟨v, by simpa using h1, h2⟩
theorem bind_args {A : Nat → Addr} {σ : L2.St} {H : Hp} {env : Env} {F : Hp} (e : ER P A σ H env F) {vs : List V} {os : List Op} {args : List Value} (p : OpRs P F σ vs os) (rv : Vals vs args) : ∀ {src : List (Sum Nat D)} {zs : List Value} {evs : List EV},
    SrcR args src zs → bindS (os.map (handed env)) src = some evs → ∃ ys, Vals ys zs ∧ ArgsR P.L F H ys evs ∧ borA ys evs = (lent env os src).map A
  | _, _, evs, .nil, h => by
    simp [bindS] at h
    subst h
    exact ⟨[], .nil, .nil, rfl⟩
  | _, _, evs, .cons (a := sc) (b := z) (l₁ := src) (l₂ := zs) q t, h => by
    cases sc with
    | inr d =>
      simp only [bindS, Option.map_eq_some_iff] at h
      obtain ⟨es, h, rfl⟩ := h
      obtain ⟨ys, h1, h2, h3⟩ := bind_args e p rv t h
      obtain ⟨v, q1, q2⟩ := q
      exact ⟨v :: ys, .cons q1 h1, .cons (q2 _ _) h2, h3⟩
    | inl k =>
      simp only [bindS] at h
      cases ek : (os.map (handed env))[k]? with
      | none => rw [ek] at h; cases h
      | some ev' =>
        rw [ek] at h
        cases ev' with
        | none => cases h
        | some ev =>
          simp only [Option.map_eq_some_iff] at h
          obtain ⟨es, h, rfl⟩ := h
          obtain ⟨ys, h1, h2, h3⟩ := bind_args e p rv t h
          rw [List.getElem?_map, Option.map_eq_some_iff] at ek
          obtain ⟨o, ho, hev⟩ := ek
          obtain ⟨v, hv, hp⟩ := p.get ho
          obtain ⟨u, hu, ru⟩ := rv.get hv
          have q : args[k]? = some z := q
          rw [hu] at q
          cases q
          cases o with
          | d d' =>
            cases hev
            refine ⟨v :: ys, .cons ru h1, .cons hp h2, ?_⟩
            simp only [lent, ho, borA]
            exact h3
          | slot i =>
            have hp : σ[i]? = some (some v) := hp
            unfold handed at hev
            cases hx : env[i]? with
            | none => simp only [hx] at hev; cases hev
            | some yy => cases yy with
              | none => simp only [hx] at hev; cases hev
              | some zz =>
                simp only [hx] at hev
                cases zz with
                | val d' =>
                  cases hev
                  obtain ⟨v', e1, e2⟩ := e.val i d' hx
                  rw [hp] at e1
                  cases e1
                  refine ⟨v :: ys, .cons ru h1, .cons e2 h2, ?_⟩
                  simp only [lent, ho, hx, borA]
                  exact h3
                | own o' =>
                  cases hev
                  obtain ⟨e1, e2, _⟩ := e.own i o' (by rw [hx]; rfl)
                  rw [hp] at e1
                  cases e1
                  refine ⟨.ref (A i) :: ys, .cons ru h1, .cons ⟨_, rfl, e2⟩ h2, ?_⟩
                  simp only [lent, ho, hx, borA, adr, List.map_cons]
                  rw [h3]
                | bor o' =>
                  cases hev
                  obtain ⟨e1, e2, _⟩ := e.own i o' (by rw [hx]; rfl)
                  rw [hp] at e1
                  cases e1
                  refine ⟨.ref (A i) :: ys, .cons ru h1, .cons ⟨_, rfl, e2⟩ h2, ?_⟩
                  simp only [lent, ho, hx, borA, adr, List.map_cons]
                  rw [h3]
theorem lent_own {env : Env} {os : List Op} : ∀ {src : List (Sum Nat D)} {i : Nat}, i ∈ lent env os src → ∃ o, ownish env[i]? = some o
  | [], _, h => by simp [lent] at h
  | .inr _ :: src, i, h => by
    simp only [lent] at h
    exact lent_own h
  | .inl k :: src, i, h => by
    simp only [lent] at h
    split at h
    · split at h
      · rcases List.mem_cons.mp h with rfl | h
        · rename_i q
          exact ⟨_, by rw [q]; rfl⟩
        · exact lent_own h
      · rcases List.mem_cons.mp h with rfl | h
        · rename_i q
          exact ⟨_, by rw [q]; rfl⟩
        · exact lent_own h
      · exact lent_own h
    · exact lent_own h

/-! ### the lent objects are back -/
theorem back_len : ∀ (is : List Nat) (env : Env) (os : List OV), (back env is os).length = env.length
  | [], _, _ => by simp [back]
  | _ :: _, _, [] => by simp [back]
  | i :: is, env, o :: os => by
    simp only [back]
    rw [back_len is _ os, List.length_set]
theorem back_out : ∀ (is : List Nat) (env : Env) (os : List OV) (j : Nat), j ∉ is → (back env is os)[j]? = env[j]?
  | [], _, _, _, _ => by simp [back]
  | _ :: _, _, [], _, _ => by simp [back]
  | i :: is, env, o :: os, j, h => by
    simp only [back]
    have ne : i ≠ j := fun z => h (by rw [z]; exact List.mem_cons_self)
    rw [back_out is _ os j (fun z => h (List.mem_cons_of_mem _ z)), get_set_ne ne]
theorem back_in : ∀ (is : List Nat) (env : Env) (os : List OV) (j : Nat) (u : OV), is.Nodup → is.length = os.length → j ∈ is → ownish env[j]? = some u → ∃ o, (j, o) ∈ is.zip os ∧ (back env is os)[j]? = (env[j]?).map fun v => v.map fun w => w.put o
  | [], _, _, _, _, _, _, h, _ => by simp at h
  | _ :: _, _, [], _, _, _, l, _, _ => by simp at l
  | i :: is, env, o :: os, j, u, nd, l, h, q => by
    simp only [back]
    by_cases ij : j = i
    · subst ij
      have nj : j ∉ is := (List.nodup_cons.mp nd).1
      refine ⟨o, List.mem_cons_self, ?_⟩
      rw [back_out is _ os j nj]
      rcases ownish_some q with q | q
      · rw [get_set_self q, q]; rfl
      · rw [get_set_self q, q]; rfl
    · have hj : j ∈ is := by
        rcases List.mem_cons.mp h with e | e
        · exact absurd e ij
        · exact e
      obtain ⟨o', h1, h2⟩ := back_in is (env.set i ((env[i]?.getD none).map fun v => v.put o)) os j u (List.nodup_cons.mp nd).2 (by simpa using l) hj (by rw [get_set_ne (Ne.symm ij)]; exact q)
      refine ⟨o', List.mem_cons_of_mem _ h1, ?_⟩
      rw [h2, get_set_ne (Ne.symm ij)]
theorem outs_mem {L : Lay} {F H : Hp} {A : Nat → Addr} : ∀ {is : List Nat} {os : List OV} {j : Nat} {o : OV}, Outs L F H (is.map A) os → (j, o) ∈ is.zip os → OwnAt L F H (A j) o
  | [], _, _, _, _, h => by simp at h
  | _ :: _, [], _, _, _, h => by simp at h
  | i :: is, o :: os, j, o', .cons h t, m => by
    rcases List.mem_cons.mp m with e | m
    · cases e; exact h
    · exact outs_mem t m
theorem ownish_put {x : Option (Option EV)} {u o w : OV} (h : ownish x = some u) (q : ownish (x.map fun v => v.map fun z => z.put o) = some w) : w = o := by
  rcases ownish_some h with rfl | rfl
  · cases q; rfl
  · cases q; rfl
theorem paired_len {α β : Type} {R : α → β → Prop} : ∀ {xs : List α} {ys : List β}, Paired R xs ys → xs.length = ys.length
  | _, _, .nil => rfl
  | _, _, .cons _ t => by rw [List.length_cons, List.length_cons, paired_len t]
theorem ER.back {A : Nat → Addr} {σ : L2.St} {H : Hp} {env : Env} {F : Hp} (e : ER P A σ H env F) {is : List Nat} {outs : List OV} {F' H' : Hp} (nd : is.Nodup) (hi : ∀ i ∈ is, ∃ o, ownish env[i]? = some o)
    (m : LeH F F') (s : LeH F' H') (kp : Kept F H F' H' (is.map A)) (os : Outs P.L F' H' (is.map A) outs) (tf : TabF P.L F' H') : ER P A σ H' (G.back env is outs) F' := by
  have hl : is.length = outs.length := by
    have := paired_len os
    rwa [List.length_map] at this
  have val : ∀ (i : Nat) (d : D), (G.back env is outs)[i]? = some (some (.val d)) → env[i]? = some (some (.val d)) := fun i d q => by
    by_cases hm : i ∈ is
    · obtain ⟨u, hu⟩ := hi i hm
      obtain ⟨o, _, h2⟩ := back_in is env outs i u nd hl hm hu
      rw [h2] at q
      rcases ownish_some hu with z | z
      · rw [z] at q; cases q
      · rw [z] at q; cases q
    · rw [back_out is env outs i hm] at q
      exact q
  have own : ∀ (i : Nat) (o : OV), ownish (G.back env is outs)[i]? = some o → (∃ u, ownish env[i]? = some u) ∧ σ[i]? = some (some (.ref (A i))) ∧ OwnAt P.L F' H' (A i) o ∧ P.O (A i) = none := fun i o q => by
    by_cases hm : i ∈ is
    · obtain ⟨u, hu⟩ := hi i hm
      obtain ⟨o', h1, h2⟩ := back_in is env outs i u nd hl hm hu
      rw [h2] at q
      obtain ⟨e1, _, e3⟩ := e.own i u hu
      rw [ownish_put hu q]
      exact ⟨⟨u, hu⟩, e1, outs_mem os h1, e3⟩
    · rw [back_out is env outs i hm] at q
      obtain ⟨e1, e2, e3⟩ := e.own i o q
      refine ⟨⟨o, q⟩, e1, ?_, e3⟩
      have na : A i ∉ is.map A := fun z => by
        obtain ⟨j, hj, ej⟩ := List.mem_map.mp z
        obtain ⟨u, hu⟩ := hi j hj
        exact e.ne j i u o hu q (fun z => hm (z ▸ hj)) ej
      obtain ⟨w, hw⟩ := e2.there
      have k := kp (A i) w hw e2.none na (e2.plain hw).1
      exact e2.step m k.2 fun u z => by rw [hw] at z; cases z; exact k.1
  refine ⟨s, e.le0.trans m, fun a o q => ?_, by rw [back_len]; exact e.len, fun i d q => ?_, fun i o q => (own i o q).2, fun i j o u q1 q2 n => ?_, fun i o q => ?_, fun i => ?_, ⟨tf.tabs, tf.nf, e.tb.no⟩⟩
  · obtain ⟨h1, h2⟩ := e.fr a o q
    refine kp a o h1 h2 (fun z => ?_) fun ps z => e.tb.no a ps (by rw [q, z])
    obtain ⟨j, hj, ej⟩ := List.mem_map.mp z
    obtain ⟨u, hu⟩ := hi j hj
    have := (e.own j u hu).2.2
    rw [ej, q] at this
    cases this
  · obtain ⟨v, h1, h2⟩ := e.val i d (val i d q)
    exact ⟨v, h1, Rep.mono m _ _ h2⟩
  · obtain ⟨⟨o', h1⟩, _⟩ := own i o q1
    obtain ⟨⟨u', h2⟩, _⟩ := own j u q2
    exact e.ne i j o' u' h1 h2 n
  · by_cases hm : i ∈ is
    · obtain ⟨u, hu⟩ := hi i hm
      obtain ⟨o', _, h2⟩ := back_in is env outs i u nd hl hm hu
      rw [h2] at q
      rcases ownish_some hu with z | z
      · rw [z] at q; cases q
      · exact e.bor i u z
    · rw [back_out is env outs i hm] at q
      exact e.bor i o q
  · rw [e.isb i]
    by_cases hm : i ∈ is
    · obtain ⟨u, hu⟩ := hi i hm
      obtain ⟨o', _, h2⟩ := back_in is env outs i u nd hl hm hu
      rw [h2]
      rcases ownish_some hu with z | z
      · rw [z]
        constructor
        · rintro ⟨w, q⟩; cases q
        · rintro ⟨w, q⟩; cases q
      · rw [z]
        constructor
        · rintro ⟨w, q⟩; exact ⟨o', rfl⟩
        · rintro ⟨w, q⟩; exact ⟨u, rfl⟩
    · rw [back_out is env outs i hm]
theorem ownish_back {env : Env} {is : List Nat} {outs : List OV} (hi : ∀ i ∈ is, ∃ o, ownish env[i]? = some o) {i : Nat} {u : OV} (h : ownish (G.back env is outs)[i]? = some u) : ∃ o, ownish env[i]? = some o := by
  by_cases hm : i ∈ is
  · exact hi i hm
  · rw [back_out is env outs i hm] at h
    exact ⟨u, h⟩
theorem nodup_mapA {A : Nat → Addr} : ∀ {is : List Nat}, is.Nodup → (∀ i ∈ is, ∀ j ∈ is, i ≠ j → A i ≠ A j) → (is.map A).Nodup
  | [], _, _ => by simp
  | i :: is, nd, h => by
    rw [List.map_cons, List.nodup_cons]
    refine ⟨fun z => ?_, nodup_mapA (List.nodup_cons.mp nd).2 fun a ha b hb => h a (List.mem_cons_of_mem _ ha) b (List.mem_cons_of_mem _ hb)⟩
    obtain ⟨j, hj, e⟩ := List.mem_map.mp z
    exact h j (List.mem_cons_of_mem _ hj) i List.mem_cons_self (fun q => (List.nodup_cons.mp nd).1 (q ▸ hj)) e
/-- the meaning of a call, behind its arguments -/
def callW (Γ : Fns) (f : Nat) (src : List (Sum Nat D)) (Xp : XP) (R : PostE) (os : List Op) (env1 : Env) : Prop :=
  ∃ vs, bindS (os.map (handed env1)) src = some vs ∧ (lent env1 os src).Nodup ∧ Γ.f f vs (fun r outs => R r (G.back env1 (lent env1 os src) outs)) (fun x outs => Xp x (G.back env1 (lent env1 os src) outs))
theorem call_coreA {gs : Option (List Code) → Prop} {A : Around} {pins : List (Addr × Obj)} {σ : L2.St} {H : Hp} {s : Shared} {n f : Nat} {fd : FuncData} {ps : List Str} {np : Nat} {kws : List Str} {src : List (Sum Nat D)} {env : Env} {F : Hp} {us ws : List Value} {vs : List V} {os : List Op} {R : PostE} {Q : VK}
    (Dk : DefOkG gs X.prog X.w X.K X.mg X.base n (P.L.fn f) fd ps (lift P.L (Γ.f f))) (hg : gs A.guards) (hr : Room n A) (e0 : Env0 X.prog X.w X.K X.mg X.base A X.stack s H) (tk : Takes X (WXo P Xp)) (hb : BindOk X.K fd ps np kws src) (I : Inv X pins σ H s) (ex : EX P σ H env F) (rv : Vals vs (us ++ ws)) (hu : us.length = np) (hw : ws.length = kws.length)
    (p : OpRs P F σ vs os) (w : callW Γ f src Xp R os env) (k : ∀ r env' v H' F', R r env' → LeH F F' → EXv P σ H' env' F' v r → Q v H') : wpAny (model X.prog X.w) A (call (.ref (P.L.fn f)) us (kws.zip ws)) (EP X pins σ Q) X.xe s := by
  obtain ⟨AA, e⟩ := ex
  obtain ⟨evs, w1, w2, w3⟩ := w
  obtain ⟨zs, bt, sr, hl⟩ := hb s us ws I.kIn hu hw
  obtain ⟨ys, r1, r2, r3⟩ := bind_args e p rv sr w1
  have hi : ∀ i ∈ lent env os src, ∃ o, ownish env[i]? = some o := fun i h => lent_own h
  refine run_defA (args := ⟨us, kws.zip ws⟩) Dk hg hr e0 (passAt tk σ) I bt r1 ⟨F, evs, _, _, e.sub, ⟨e.tb.tabs, e.tb.nf⟩, r2, ?_, w3, fun r outs v F' H' q m s kp os' tf rr => ?_, fun x outs cls d F' H' q m s kp os' tf rr => ?_⟩
  · rw [r3]
    refine nodup_mapA w2 fun i h1 j h2 n => ?_
    obtain ⟨u, hu⟩ := hi i h1
    obtain ⟨w, hw⟩ := hi j h2
    exact e.ne i j u w hu hw n
  · rw [r3] at kp os'
    refine k r _ v H' F' q m ⟨AA, e.back w2 hi m s kp os' tf, ?_⟩
    cases r with
    | val d => exact rr
    | fr o =>
      obtain ⟨q1, rfl, q2, q3⟩ := rr
      refine ⟨q1, rfl, q2, ?_, fun i u hu => ?_⟩
      · cases z : P.O q1 with
        | none => rfl
        | some w =>
          obtain ⟨ps, rfl⟩ := q3 w (e.fr q1 w z).1
          exact absurd z (e.tb.no q1 ps)
      · obtain ⟨o', ho'⟩ := ownish_back hi hu
        obtain ⟨w, hw⟩ := (e.own i o' ho').2.1.there
        intro z
        obtain ⟨ps, rfl⟩ := q3 w (z ▸ hw)
        exact (((e.own i o' ho').2.1.plain hw).1 ps) rfl
  · rw [r3] at kp os'
    exact ⟨_, F', x, ⟨AA, e.back w2 hi m s kp os' tf⟩, rr, q⟩
theorem call_core {pins : List (Addr × Obj)} {σ : L2.St} {H : Hp} {s : Shared} {n f : Nat} {fd : FuncData} {ps : List Str} {np : Nat} {kws : List Str} {src : List (Sum Nat D)} {env : Env} {F : Hp} {us ws : List Value} {vs : List V} {os : List Op} {R : PostE} {Q : VK}
    (Dk : DefOk X.prog X.w X.K X.mg X.base n (P.L.fn f) fd ps (lift P.L (Γ.f f))) (hg : X.A.guards = some []) (hr : Room n X.A) (tk : Takes X (WXo P Xp)) (hb : BindOk X.K fd ps np kws src) (I : Inv X pins σ H s) (ex : EX P σ H env F) (rv : Vals vs (us ++ ws)) (hu : us.length = np) (hw : ws.length = kws.length)
    (p : OpRs P F σ vs os) (w : callW Γ f src Xp R os env) (k : ∀ r env' v H' F', R r env' → LeH F F' → EXv P σ H' env' F' v r → Q v H') : wpAny (model X.prog X.w) X.A (call (.ref (P.L.fn f)) us (kws.zip ws)) (EP X pins σ Q) X.xe s := call_coreA Dk hg hr I.env0 tk hb I ex rv hu hw p w k
theorem wOs_app : ∀ (ms ns : List E) (env : Env) (R : PostOs), wOs Γ (ms ++ ns) env Xp R = wOs Γ ms env Xp fun os env1 => wOs Γ ns env1 Xp fun os' env2 => R (os ++ os') env2
  | [], _, _, _ => by simp only [List.nil_append, wOs]
  | m :: ms, ns, env, R => by
    simp only [List.cons_append, wOs]
    congr 1
    funext o env1
    exact wOs_app ms ns env1 _
theorem paired_app {α β : Type} {R : α → β → Prop} : ∀ {xs xs' : List α} {ys ys' : List β}, Paired R xs ys → Paired R xs' ys' → Paired R (xs ++ xs') (ys ++ ys')
  | _, _, _, _, .nil, h => h
  | _, _, _, _, .cons q t, h => .cons q (paired_app t h)
/-- the keywords' values -/
theorem k_nil : PK X [] (tOs P Γ Xp []) := ⟨fun pos pins s σ H Q I h => pk_nil.run pos pins s σ H Q I (by
  obtain ⟨env, F, R, ex, w, k⟩ := h
  simp only [wOs] at w
  exact k _ _ _ H F w (LeH.refl F) ex .nil rfl)⟩
theorem k_cons {nm : Option Str} {kpos : Pos} {kws : List Keyword} {ms : List E} (ha : PE X x (tO P Γ Xp a)) (hr : PK X kws (tOs P Γ Xp ms)) : PK X (⟨nm, x, kpos⟩ :: kws) (tOs P Γ Xp (a :: ms)) := ⟨fun pos pins s σ H Q I h => (pk_cons ha hr).run pos pins s σ H Q I (by
  obtain ⟨env, F, R, ex, w, k⟩ := h
  simp only [wOs] at w
  refine ⟨env, F, _, ex, w, fun o env1 v1 H1 F1 w1 m1 e1 p1 => ⟨env1, F1, _, e1, w1, fun os env2 vs H2 F2 w2 m2 e2 p2 l2 => ?_⟩⟩
  exact k _ _ _ H2 F2 w2 (m1.trans m2) e2 (.cons (p1.mono m2) p2) (by rw [List.length_cons, List.length_cons, l2]))⟩
variable {n f : Nat} {fd : FuncData} {ps : List Str} {np : Nat} {kws : List Keyword} {ks : List Str} {src : List (Sum Nat D)} {g : Str} {p : Pos} {es : List Expr} {ms ns : List E}
theorem vals_len {xs : List V} {us : List Value} (r : Vals xs us) : us.length = xs.length := r.length.symm
/-- f(e, ..) -/
theorem e_call (Dk : DefOk X.prog X.w X.K X.mg X.base n (P.L.fn f) fd ps (lift P.L (Γ.f f))) (hg : X.A.guards = some []) (hr : Room n X.A) (tk : Takes X (WXo P Xp)) (hb : BindOk X.K fd ps ms.length [] src) (hgl : Gl X g) (hm : X.mg g = some (.ref (P.L.fn f)))
    (hk : PySem.W.keepIn X.K (.ref (P.L.fn f)) = true) (ha : PA X (x :: es) (tOs P Γ Xp ms)) (hdb : (g == ("__debug__" : Str)) = false) (he : starEach (x :: es) X.env = (false, eval x X.env) :: starEach es X.env) (hpl : (backTo pos (starEach es X.env)).any (·.1) = false) :
    PE X (.Call (.Name g p) (x :: es) [] pos) (tE P Γ Xp (.call f ms src)) := ⟨fun pins s σ H Q I h => by
  obtain ⟨env, F, R, ex, w, k⟩ := h
  simp only [wE] at w
  refine wpAny_Call_Name_kw (ld_glob I hgl hm ?_ hdb)
  refine PySem.W.callWith_K (h₀ := X.base) I.ok.mod.kin hk (thn (ha.run pos pins s σ H (fun vs H1 => ∀ us s1, Inv X pins σ H1 s1 → Vals vs us → wpAny (model X.prog X.w) X.A (call (.ref (P.L.fn f)) us) (EP X pins σ Q) X.xe s1) I
    ⟨env, F, _, ex, w, fun os env' vs H' F' q m e p l us s1 I1 rv => ?_⟩) fun us s1 ⟨vs, H1, I1, rv, q⟩ => ⟨I1.kIn, q us s1 I1 rv⟩) he hpl
  exact call_core (ws := []) (kws := []) Dk hg hr tk hb I1 e (by rw [List.append_nil]; exact rv) (by rw [vals_len rv, l]) rfl p q fun r env2 v H2 F2 hr m2 e2 => k r env2 v H2 F2 hr (m.trans m2) e2⟩
/-- f() -/
theorem e_call0 (Dk : DefOk X.prog X.w X.K X.mg X.base n (P.L.fn f) fd ps (lift P.L (Γ.f f))) (hg : X.A.guards = some []) (hr : Room n X.A) (tk : Takes X (WXo P Xp)) (hb : BindOk X.K fd ps 0 [] src) (hgl : Gl X g) (hm : X.mg g = some (.ref (P.L.fn f)))
    (hk : PySem.W.keepIn X.K (.ref (P.L.fn f)) = true) (hdb : (g == ("__debug__" : Str)) = false) : PE X (.Call (.Name g p) [] [] pos) (tE P Γ Xp (.call f [] src)) := ⟨fun pins s σ H Q I h => by
  obtain ⟨env, F, R, ex, w, k⟩ := h
  simp only [wE, wOs] at w
  refine wpAny_Call_Name_kw (ld_glob I hgl hm ?_ hdb)
  refine PySem.W.callWith_K0 I.kIn hk ?_
  exact call_core (us := []) (ws := []) (kws := []) Dk hg hr tk hb I ex .nil rfl rfl .nil w k⟩
/-- f(e, .., k = v, ..) -/
theorem e_callk (Dk : DefOk X.prog X.w X.K X.mg X.base n (P.L.fn f) fd ps (lift P.L (Γ.f f))) (hg : X.A.guards = some []) (hr : Room n X.A) (tk : Takes X (WXo P Xp)) (hb : BindOk X.K fd ps ms.length ks src) (hgl : Gl X g) (hm : X.mg g = some (.ref (P.L.fn f)))
    (hk : PySem.W.keepIn X.K (.ref (P.L.fn f)) = true) (ha : PA X (x :: es) (tOs P Γ Xp ms)) (hkw : PK X kws (tOs P Γ Xp ns)) (hkl : ns.length = ks.length) (hdb : (g == ("__debug__" : Str)) = false) (he : starEach (x :: es) X.env = (false, eval x X.env) :: starEach es X.env)
    (hall : (backToKw pos (keywordEach kws X.env)).all (·.1.isSome) = true) (hks : (backToKw pos (keywordEach kws X.env)).filterMap (·.1) = ks)
    (hpl : ((backTo pos (starEach (x :: es) X.env)).any (·.1) || (backToKw pos (keywordEach kws X.env)).any (·.1.isNone)) = false) :
    PE X (.Call (.Name g p) (x :: es) kws pos) (tE P Γ Xp (.call f (ms ++ ns) src)) := ⟨fun pins s σ H Q I h => by
  obtain ⟨env, F, R, ex, w, k⟩ := h
  simp only [wE] at w
  rw [wOs_app] at w
  refine wpAny_Call_Name_kw (ld_glob I hgl hm ?_ hdb)
  rw [← hks] at hb hkl
  refine PySem.W.callWith_KW (h₀ := X.base) I.ok.mod.kin hk hall (thn (ha.run pos pins s σ H (fun vs H1 => ∀ us s1, Inv X pins σ H1 s1 → Vals vs us → wpAny (model X.prog X.w) X.A (evalAll ((backToKw pos (keywordEach kws X.env)).map (·.2)))
    (fun ws s2 => X.K.In s2.heap ∧ wpAny (model X.prog X.w) X.A (call (.ref (P.L.fn f)) us (((backToKw pos (keywordEach kws X.env)).filterMap (·.1)).zip ws)) (EP X pins σ Q) X.xe s2) X.xe s1) I ⟨env, F, _, ex, w, fun os env1 vs H1 F1 q1 m1 e1 p1 l1 us s1 I1 rv => ?_⟩) fun us s1 ⟨vs, H1, I1, rv, q⟩ => q us s1 I1 rv) hpl he
  refine thn (hkw.run pos pins s1 σ H1 (fun zs H2 => ∀ ws s2, Inv X pins σ H2 s2 → Vals zs ws → wpAny (model X.prog X.w) X.A (call (.ref (P.L.fn f)) us (((backToKw pos (keywordEach kws X.env)).filterMap (·.1)).zip ws)) (EP X pins σ Q) X.xe s2) I1
    ⟨env1, F1, _, e1, q1, fun os2 env2 zs H2 F2 q2 m2 e2 p2 l2 ws s2 I2 rz => ?_⟩) fun ws s2 ⟨zs, H2, I2, rz, q⟩ => ⟨I2.kIn, q ws s2 I2 rz⟩
  exact call_core Dk hg hr tk hb I2 e2 (rv.append rz) (by rw [vals_len rv, l1]) (by rw [vals_len rz, l2, hkl]) (paired_app (OpRs.mono m2 p1) p2) q2 fun r env3 v H3 F3 hr m3 e3 => k r env3 v H3 F3 hr ((m1.trans m2).trans m3) e3⟩
/-- f(k = v, ..) -/
theorem e_callk0 (Dk : DefOk X.prog X.w X.K X.mg X.base n (P.L.fn f) fd ps (lift P.L (Γ.f f))) (hg : X.A.guards = some []) (hr : Room n X.A) (tk : Takes X (WXo P Xp)) (hb : BindOk X.K fd ps 0 ks src) (hgl : Gl X g) (hm : X.mg g = some (.ref (P.L.fn f)))
    (hk : PySem.W.keepIn X.K (.ref (P.L.fn f)) = true) (hkw : PK X kws (tOs P Γ Xp ns)) (hkl : ns.length = ks.length) (hdb : (g == ("__debug__" : Str)) = false)
    (hall : (backToKw pos (keywordEach kws X.env)).all (·.1.isSome) = true) (hks : (backToKw pos (keywordEach kws X.env)).filterMap (·.1) = ks)
    (hpl : ((backTo pos (starEach [] X.env)).any (·.1) || (backToKw pos (keywordEach kws X.env)).any (·.1.isNone)) = false) :
    PE X (.Call (.Name g p) [] kws pos) (tE P Γ Xp (.call f ns src)) := ⟨fun pins s σ H Q I h => by
  obtain ⟨env, F, R, ex, w, k⟩ := h
  simp only [wE] at w
  refine wpAny_Call_Name_kw (ld_glob I hgl hm ?_ hdb)
  rw [← hks] at hb hkl
  refine PySem.W.callWith_KW0 (h₀ := X.base) I.ok.mod.kin hk hall (thn (hkw.run pos pins s σ H (fun zs H2 => ∀ ws s2, Inv X pins σ H2 s2 → Vals zs ws → wpAny (model X.prog X.w) X.A (call (.ref (P.L.fn f)) ([] ++ []) (((backToKw pos (keywordEach kws X.env)).filterMap (·.1)).zip ws)) (EP X pins σ Q) X.xe s2) I
    ⟨env, F, _, ex, w, fun os2 env2 zs H2 F2 q2 m2 e2 p2 l2 ws s2 I2 rz => ?_⟩) fun ws s2 ⟨zs, H2, I2, rz, q⟩ => ⟨I2.kIn, q ws s2 I2 rz⟩) hpl
  exact call_core (us := []) Dk hg hr tk hb I2 e2 (by rw [List.nil_append]; exact rz) rfl (by rw [vals_len rz, l2, hkl]) p2 q2 fun r env3 v H3 F3 hr m3 e3 => k r env3 v H3 F3 hr (m2.trans m3) e3⟩
/-! ### methods, new instances, defs that a name holds -/
theorem lookup_no {m : Str} : ∀ {l : List Str} {vs : List V}, m ∉ l → (l.zip vs).lookup m = none
  | [], _, _ => by simp
  | x :: l, [], _ => by simp
  | x :: l, v :: vs, h => by
    rw [List.zip_cons_cons, List.lookup_cons]
    have : (m == x) = false := beq_eq_false_iff_ne.mpr fun z => h (by rw [z]; exact List.mem_cons_self ..)
    rw [this]
    exact lookup_no fun z => h (List.mem_cons_of_mem _ z)
variable {c : Nat} {m : Str} {apos : Pos}
/-- o.m(e, ..) -/
theorem e_meth {pl : Sem Bool} (Dk : DefOk X.prog X.w X.K X.mg X.base n (P.L.fn f) fd ps (lift P.L (Γ.f f))) (hg : X.A.guards = some []) (hr : Room n X.A) (tk : Takes X (WXo P Xp)) (hb : BindOk X.K fd ps (ms.length + 1) [] src) (hK : X.K = P.L.K) (hC : ∀ c, P.L.kc c = true → ClsOk P.L c)
    (hM : Meth X.K (P.L.cls c) m (P.L.fn f)) (hm : m ∉ clsNm c) (ho : PE X z (tO P Γ Xp a)) (ha : PA X (x :: es) (tOs P Γ Xp ms)) (hst : starEach (x :: es) X.env = (false, eval x X.env) :: starEach es X.env) (hpl : (backTo pos (starEach es X.env)).any (·.1) = false)
    (ht : eval (.Call (.Attribute z m apos) (x :: es) [] pos) X.env = (do
      let ov ← eval z X.env
      standAt apos.atName
      let (f, first) ← holding [ov] (getMethod ov m pl)
      callWith pos f first (backTo pos (starEach (x :: es) X.env)) (backToKw pos (keywordEach [] X.env)))) :
    PE X (.Call (.Attribute z m apos) (x :: es) [] pos) (tE P Γ Xp (.meth c f a ms src)) := ⟨fun pins s σ H Q I h => by
  obtain ⟨env, F, R, ex, w, k⟩ := h
  simp only [wE] at w
  refine PySem.W.methodCall_KW (pl := pl) (thn (ho.run pins s σ H (fun v H1 => ∃ a dx fs, v = .ref a ∧ H1 a = some (.ins (P.L.cls c) dx fs) ∧ Cls X.K (P.L.cls c) ∧ fs.lookup m = none ∧ ∀ s1, Inv X pins σ H1 s1 → wpAny (model X.prog X.w) X.A (callWith pos (.ref (P.L.fn f)) [.ref a] (backTo pos (starEach (x :: es) X.env)) (backToKw pos (keywordEach [] X.env))) (EP X pins σ Q) X.xe s1) I
    ⟨env, F, _, ex, w, fun o env0 v H0 F0 q m0 e0 p0 => ?_⟩) fun u s1 ⟨v, H1, I1, rx, a, dx, fs, ev, ea, cl, l, q⟩ => ?_) ht
  · obtain ⟨fs, q1, q⟩ := q
    obtain ⟨p, dx, vs, rfl, h1, h2, h3, h4⟩ := (e0.res p0 q1).ins e0.sub
    refine ⟨p, dx, _, rfl, h1, by rw [hK]; exact (hC c h2).cl, lookup_no hm, fun s1 I1 => ?_⟩
    refine PySem.W.callWith_K (first := [.ref p]) (h₀ := X.base) I1.ok.mod.kin hM.kp (thn (ha.run pos pins s1 σ H0 (fun vs H1 => ∀ us s1, Inv X pins σ H1 s1 → Vals vs us → wpAny (model X.prog X.w) X.A (call (.ref (P.L.fn f)) (.ref p :: us)) (EP X pins σ Q) X.xe s1) I1
      ⟨env0, F0, _, e0, q, fun os env1 vs H1 F1 q' m1 e1 p1 l1 us s2 I2 rv => ?_⟩) fun us s2 ⟨vs, H2, I2, rv, q⟩ => ⟨I2.kIn, q us s2 I2 rv⟩) hst hpl
    exact call_core (us := .ref p :: us) (ws := []) (kws := []) Dk hg hr tk hb I2 e1 (by rw [List.append_nil]; exact .cons (show RelV (.ref p) (.ref p) from rfl) rv) (by rw [List.length_cons, vals_len rv, l1]) rfl (.cons (p0.mono m1) p1) q' fun r env2 v H2 F2 hr m2 e2 => k r env2 v H2 F2 hr ((m0.trans m1).trans m2) e2
  · subst ev
    obtain rfl : u = Value.ref a := rx
    exact getmeth_ok I1 ea cl hM l (q s1 I1)⟩
/-- o.m() -/
theorem e_meth0 {pl : Sem Bool} (Dk : DefOk X.prog X.w X.K X.mg X.base n (P.L.fn f) fd ps (lift P.L (Γ.f f))) (hg : X.A.guards = some []) (hr : Room n X.A) (tk : Takes X (WXo P Xp)) (hb : BindOk X.K fd ps 1 [] src) (hK : X.K = P.L.K) (hC : ∀ c, P.L.kc c = true → ClsOk P.L c)
    (hM : Meth X.K (P.L.cls c) m (P.L.fn f)) (hm : m ∉ clsNm c) (ho : PE X z (tO P Γ Xp a))
    (ht : eval (.Call (.Attribute z m apos) [] [] pos) X.env = (do
      let ov ← eval z X.env
      standAt apos.atName
      let (f, first) ← holding [ov] (getMethod ov m pl)
      callWith pos f first (backTo pos (starEach [] X.env)) (backToKw pos (keywordEach [] X.env)))) :
    PE X (.Call (.Attribute z m apos) [] [] pos) (tE P Γ Xp (.meth c f a [] src)) := ⟨fun pins s σ H Q I h => by
  obtain ⟨env, F, R, ex, w, k⟩ := h
  simp only [wE, wOs] at w
  refine PySem.W.methodCall_KW (pl := pl) (thn (ho.run pins s σ H (fun v H1 => ∃ a dx fs, v = .ref a ∧ H1 a = some (.ins (P.L.cls c) dx fs) ∧ Cls X.K (P.L.cls c) ∧ fs.lookup m = none ∧ ∀ s1, Inv X pins σ H1 s1 → wpAny (model X.prog X.w) X.A (callWith pos (.ref (P.L.fn f)) [.ref a] (backTo pos (starEach [] X.env)) (backToKw pos (keywordEach [] X.env))) (EP X pins σ Q) X.xe s1) I
    ⟨env, F, _, ex, w, fun o env0 v H0 F0 q m0 e0 p0 => ?_⟩) fun u s1 ⟨v, H1, I1, rx, a, dx, fs, ev, ea, cl, l, q⟩ => ?_) ht
  · obtain ⟨fs, q1, q⟩ := q
    obtain ⟨p, dx, vs, rfl, h1, h2, h3, h4⟩ := (e0.res p0 q1).ins e0.sub
    refine ⟨p, dx, _, rfl, h1, by rw [hK]; exact (hC c h2).cl, lookup_no hm, fun s1 I1 => ?_⟩
    refine PySem.W.callWith_K0 (first := [.ref p]) I1.kIn hM.kp ?_
    exact call_core (us := [.ref p]) (ws := []) (kws := []) Dk hg hr tk hb I1 e0 (by exact .cons (show RelV (.ref p) (.ref p) from rfl) .nil) rfl rfl (.cons p0 .nil) q fun r env2 v H2 F2 hr m2 e2 => k r env2 v H2 F2 hr (m0.trans m2) e2
  · subst ev
    obtain rfl : u = Value.ref a := rx
    exact getmeth_ok I1 ea cl hM l (q s1 I1)⟩
theorem srcR_tail {u : Value} {args : List Value} : ∀ {src : List (Sum Nat D)} {zs : List Value}, SrcR (u :: args) (shSrc src) zs → SrcR args src zs
  | [], _, h => by cases h; exact .nil
  | .inl k :: src, _, h => by
    cases h with
    | cons q t =>
      refine .cons ?_ (srcR_tail t)
      have q : (u :: args)[k + 1]? = some _ := q
      simpa using q
  | .inr d :: src, _, h => by
    cases h with
    | cons q t => exact .cons q (srcR_tail t)
/-- the making of an instance, behind its arguments -/
def makeW (Γ : Fns) (c f : Nat) (src : List (Sum Nat D)) (Xp : XP) (R : PostE) (os : List Op) (env1 : Env) : Prop :=
  ∃ vs, bindS (os.map (handed env1)) src = some vs ∧ (lent env1 os src).Nodup ∧
      Γ.f f (.bor (.ins c []) :: vs) (fun r outs => r = .val .non ∧ ∃ ds rest, outs = .ins c ds :: rest ∧ R (.fr (.ins c ds)) (G.back env1 (lent env1 os src) rest)) (fun x outs => Xp x (G.back env1 (lent env1 os src) outs.tail))
theorem make_core {pins : List (Addr × Obj)} {σ : L2.St} {H : Hp} {s : Shared} {kws : List Str} {env : Env} {F : Hp} {us ws : List Value} {vs : List V} {os : List Op} {R : PostE} {Q : VK} (M : Mk X.K (P.L.cls c) (P.L.fn f)) (hkc : P.L.kc c = true)
    (Dk : DefOk X.prog X.w X.K X.mg X.base n (P.L.fn f) fd ps (lift P.L (Γ.f f))) (hg : X.A.guards = some []) (hr : Room (n + 1) X.A) (tk : Takes X (WXo P Xp)) (hb : BindOk X.K fd ps (np + 1) kws (.inl 0 :: shSrc src)) (I : Inv X pins σ H s) (ex : EX P σ H env F) (rv : Vals vs (us ++ ws)) (hu : us.length = np) (hw : ws.length = kws.length)
    (p : OpRs P F σ vs os) (w : makeW Γ c f src Xp R os env) (k : ∀ r env' v H' F', R r env' → LeH F F' → EXv P σ H' env' F' v r → Q v H') : wpAny (model X.prog X.w) X.A (call (.ref (P.L.cls c)) us (kws.zip ws)) (EP X pins σ Q) X.xe s := by
  obtain ⟨A, e⟩ := ex
  obtain ⟨evs, w1, w2, w3⟩ := w
  have hx : H (s.heap.objs.size + 1) = none := I.hok.fresh (Nat.le_succ _)
  have hdx : H s.heap.objs.size = none := I.hok.fresh (Nat.le_refl _)
  have ne : s.heap.objs.size ≠ s.heap.objs.size + 1 := Nat.ne_of_lt (Nat.lt_succ_self _)
  have I2 := Inv.made (C := P.L.cls c) I
  generalize hp : s.heap.objs.size + 1 = q at *
  generalize hd : s.heap.objs.size = dx at *
  obtain ⟨zs, bt, sr, hl⟩ := hb _ (.ref q :: us) ws I2.kIn (by rw [List.length_cons, hu]) hw
  cases sr with
  | @cons _ z0 _ zs0 q0 sr =>
  have q0 : (Value.ref q :: us ++ ws)[0]? = some z0 := q0
  obtain rfl : Value.ref q = z0 := by simpa using q0
  have sr := srcR_tail (u := .ref q) (args := us ++ ws) sr
  have gw : ∀ a o, H a = some o → upd (upd H dx (.own q)) q (.ins (P.L.cls c) dx []) a = some o := fun a o h => by
    rw [upd_ne (ne_of_none h hx), upd_ne (ne_of_none h hdx)]
    exact h
  have e2 := e.grow gw
  have hF : F q = none := by
    cases z : F q with
    | none => rfl
    | some u => rw [e.sub q u z] at hx; cases hx
  obtain ⟨ys, r1, r2, r3⟩ := bind_args e2 p rv sr w1
  have hi : ∀ i ∈ lent env os src, ∃ o, ownish env[i]? = some o := fun i h => lent_own h
  have nq : q ∉ (lent env os src).map A := fun z => by
    obtain ⟨i, hm, ei⟩ := List.mem_map.mp z
    obtain ⟨o, ho⟩ := hi i hm
    obtain ⟨u, hu⟩ := (e.own i o ho).2.1.there
    rw [ei, hx] at hu
    cases hu
  have kp' : ∀ {F' H' : Hp} , Kept F (upd (upd H dx (.own q)) q (.ins (P.L.cls c) dx [])) F' H' (q :: (lent env os src).map A) → Kept F H F' H' ((lent env os src).map A) := fun {F' H'} kp a o h1 h2 h3 h4 => kp a o (gw a o h1) h2 (by
    rw [List.mem_cons, not_or]
    exact ⟨ne_of_none h1 hx, h3⟩) h4
  have hsp : ∀ (Q' : VK) (E' : XK), (∀ r env' v H' F', R r env' → LeH F F' → EXv P σ H' env' F' v r → v = .ref q → Q' .non H') → (∀ cls d H', WXo P Xp cls d σ H' → E' cls d H') → lift P.L (Γ.f f) (.ref q :: ys) (upd (upd H dx (.own q)) q (.ins (P.L.cls c) dx [])) Q' E' := fun Q' E' hQ hE => by
    refine ⟨F, .bor (.ins c []) :: evs, _, _, e2.sub, ⟨e2.tb.tabs, e2.tb.nf⟩, .cons ⟨q, rfl, hF, dx, [], by rw [upd_same]; simp, ⟨Nat.zero_le _, hkc⟩, rfl⟩ r2, ?_, w3, fun r outs v F' H' hq m sb kp os' tf rr => ?_, fun x outs cls d F' H' hq m sb kp os' tf rr => ?_⟩
    · show (q :: borA ys evs).Nodup
      rw [r3, List.nodup_cons]
      refine ⟨nq, nodup_mapA w2 fun i h1 j h2 n => ?_⟩
      obtain ⟨u, hu⟩ := hi i h1
      obtain ⟨w, hw⟩ := hi j h2
      exact e.ne i j u w hu hw n
    · have kp : Kept F _ F' H' (q :: borA ys evs) := kp
      have os' : Outs P.L F' H' (q :: borA ys evs) outs := os'
      rw [r3] at kp os'
      obtain ⟨rfl, ds, rest, rfl, hq⟩ := hq
      cases os' with
      | cons o1 os2 =>
      have eb := e.back w2 hi m sb (kp' kp) os2 ⟨tf.tabs, tf.nf⟩
      have rr : Rep P.L F' .non v := rr
      rw [show v = V.non from rr]
      refine hQ _ _ (.ref q) H' F' hq m ⟨A, eb, q, rfl, o1, ?_, fun i u hu => ?_⟩ rfl
      · cases z : P.O q with
        | none => rfl
        | some w => rw [(e.fr q w z).1] at hx; cases hx
      · obtain ⟨o', ho'⟩ := ownish_back hi hu
        obtain ⟨w, hw⟩ := (e.own i o' ho').2.1.there
        exact ne_of_none hw hx
    · have kp : Kept F _ F' H' (q :: borA ys evs) := kp
      have os' : Outs P.L F' H' (q :: borA ys evs) outs := os'
      rw [r3] at kp os'
      cases os' with
      | cons o1 os2 =>
      exact hE _ _ _ ⟨_, F', x, ⟨A, e.back w2 hi m sb (kp' kp) os2 ⟨tf.tabs, tf.nf⟩⟩, rr, hq⟩
  have run := hsp (fun v H2 => v = .non ∧ Q (.ref q) H2) (fun cls d H' => WXo P Xp cls d σ H') (fun r env' v H' F' h1 h2 h3 h4 => ⟨rfl, by subst h4; exact k r env' _ H' F' h1 h2 h3⟩) (fun cls d H' h => h)
  subst hp hd
  refine wpAny_call (make_map (f := P.L.fn f) I.kIn M.makes M.init (beq_iff_eq.mp M.fn) (codeAny_mono (Dk.run _ X.stack _ _ ⟨.ref (s.heap.objs.size + 1) :: us, kws.zip ws⟩ _ _ _ _ hg (hr.make (P.L.cls c) us (kws.zip ws)) (I2.env0.make (P.L.cls c) us (kws.zip ws)) bt (.cons (show RelV (V.ref (s.heap.objs.size + 1)) (Value.ref (s.heap.objs.size + 1)) from rfl) r1) run) fun res s' hq' => ?_))
  cases res with
  | error e => exact passAt tk σ _ _ _ e s' I2 hq'
  | ok fl =>
    cases fl with
    | ret u =>
      obtain ⟨v, H', I3, rv, ev, q3⟩ := I2.after hq'
      subst ev
      exact ⟨rv, ⟨V.ref (s.heap.objs.size + 1), H', I3, rfl, q3⟩⟩
    | next => exact False.elim hq'
    | brk => exact False.elim hq'
    | cont => exact False.elim hq'
/-- C(e, ..) -/
theorem e_make (M : Mk X.K (P.L.cls c) (P.L.fn f)) (hkc : P.L.kc c = true) (Dk : DefOk X.prog X.w X.K X.mg X.base n (P.L.fn f) fd ps (lift P.L (Γ.f f))) (hg : X.A.guards = some []) (hr : Room (n + 1) X.A) (tk : Takes X (WXo P Xp)) (hb : BindOk X.K fd ps (ms.length + 1) [] (.inl 0 :: shSrc src)) (hgl : Gl X g) (hm : X.mg g = some (.ref (P.L.cls c)))
    (ha : PA X (x :: es) (tOs P Γ Xp ms)) (hdb : (g == ("__debug__" : Str)) = false) (he : starEach (x :: es) X.env = (false, eval x X.env) :: starEach es X.env) (hpl : (backTo pos (starEach es X.env)).any (·.1) = false) :
    PE X (.Call (.Name g p) (x :: es) [] pos) (tE P Γ Xp (.make c f ms src)) := ⟨fun pins s σ H Q I h => by
  obtain ⟨env, F, R, ex, w, k⟩ := h
  simp only [wE] at w
  refine wpAny_Call_Name_kw (ld_glob I hgl hm ?_ hdb)
  refine PySem.W.callWith_K (h₀ := X.base) I.ok.mod.kin M.kp (thn (ha.run pos pins s σ H (fun vs H1 => ∀ us s1, Inv X pins σ H1 s1 → Vals vs us → wpAny (model X.prog X.w) X.A (call (.ref (P.L.cls c)) us) (EP X pins σ Q) X.xe s1) I
    ⟨env, F, _, ex, w, fun os env' vs H' F' q m e p l us s1 I1 rv => ?_⟩) fun us s1 ⟨vs, H1, I1, rv, q⟩ => ⟨I1.kIn, q us s1 I1 rv⟩) he hpl
  exact make_core (ws := []) (kws := []) M hkc Dk hg hr tk hb I1 e (by rw [List.append_nil]; exact rv) (by rw [vals_len rv, l]) rfl p q fun r env2 v H2 F2 hr m2 e2 => k r env2 v H2 F2 hr (m.trans m2) e2⟩
/-- C() -/
theorem e_make0 (M : Mk X.K (P.L.cls c) (P.L.fn f)) (hkc : P.L.kc c = true) (Dk : DefOk X.prog X.w X.K X.mg X.base n (P.L.fn f) fd ps (lift P.L (Γ.f f))) (hg : X.A.guards = some []) (hr : Room (n + 1) X.A) (tk : Takes X (WXo P Xp)) (hb : BindOk X.K fd ps 1 [] (.inl 0 :: shSrc src)) (hgl : Gl X g) (hm : X.mg g = some (.ref (P.L.cls c)))
    (hdb : (g == ("__debug__" : Str)) = false) : PE X (.Call (.Name g p) [] [] pos) (tE P Γ Xp (.make c f [] src)) := ⟨fun pins s σ H Q I h => by
  obtain ⟨env, F, R, ex, w, k⟩ := h
  simp only [wE, wOs] at w
  refine wpAny_Call_Name_kw (ld_glob I hgl hm ?_ hdb)
  refine PySem.W.callWith_K0 I.kIn M.kp ?_
  exact make_core (us := []) (ws := []) (kws := []) M hkc Dk hg hr tk hb I ex .nil rfl rfl .nil w k⟩
/-- C(e, .., k = v, ..) -/
theorem e_makek (M : Mk X.K (P.L.cls c) (P.L.fn f)) (hkc : P.L.kc c = true) (Dk : DefOk X.prog X.w X.K X.mg X.base n (P.L.fn f) fd ps (lift P.L (Γ.f f))) (hg : X.A.guards = some []) (hr : Room (n + 1) X.A) (tk : Takes X (WXo P Xp)) (hb : BindOk X.K fd ps (ms.length + 1) ks (.inl 0 :: shSrc src)) (hgl : Gl X g) (hm : X.mg g = some (.ref (P.L.cls c)))
    (ha : PA X (x :: es) (tOs P Γ Xp ms)) (hkw : PK X kws (tOs P Γ Xp ns)) (hkl : ns.length = ks.length) (hdb : (g == ("__debug__" : Str)) = false) (he : starEach (x :: es) X.env = (false, eval x X.env) :: starEach es X.env)
    (hall : (backToKw pos (keywordEach kws X.env)).all (·.1.isSome) = true) (hks : (backToKw pos (keywordEach kws X.env)).filterMap (·.1) = ks)
    (hpl : ((backTo pos (starEach (x :: es) X.env)).any (·.1) || (backToKw pos (keywordEach kws X.env)).any (·.1.isNone)) = false) :
    PE X (.Call (.Name g p) (x :: es) kws pos) (tE P Γ Xp (.make c f (ms ++ ns) src)) := ⟨fun pins s σ H Q I h => by
  obtain ⟨env, F, R, ex, w, k⟩ := h
  simp only [wE] at w
  rw [wOs_app] at w
  refine wpAny_Call_Name_kw (ld_glob I hgl hm ?_ hdb)
  rw [← hks] at hb hkl
  refine PySem.W.callWith_KW (h₀ := X.base) I.ok.mod.kin M.kp hall (thn (ha.run pos pins s σ H (fun vs H1 => ∀ us s1, Inv X pins σ H1 s1 → Vals vs us → wpAny (model X.prog X.w) X.A (evalAll ((backToKw pos (keywordEach kws X.env)).map (·.2)))
    (fun ws s2 => X.K.In s2.heap ∧ wpAny (model X.prog X.w) X.A (call (.ref (P.L.cls c)) us (((backToKw pos (keywordEach kws X.env)).filterMap (·.1)).zip ws)) (EP X pins σ Q) X.xe s2) X.xe s1) I ⟨env, F, _, ex, w, fun os env1 vs H1 F1 q1 m1 e1 p1 l1 us s1 I1 rv => ?_⟩) fun us s1 ⟨vs, H1, I1, rv, q⟩ => q us s1 I1 rv) hpl he
  refine thn (hkw.run pos pins s1 σ H1 (fun zs H2 => ∀ ws s2, Inv X pins σ H2 s2 → Vals zs ws → wpAny (model X.prog X.w) X.A (call (.ref (P.L.cls c)) us (((backToKw pos (keywordEach kws X.env)).filterMap (·.1)).zip ws)) (EP X pins σ Q) X.xe s2) I1
    ⟨env1, F1, _, e1, q1, fun os2 env2 zs H2 F2 q2 m2 e2 p2 l2 ws s2 I2 rz => ?_⟩) fun ws s2 ⟨zs, H2, I2, rz, q⟩ => ⟨I2.kIn, q ws s2 I2 rz⟩
  exact make_core M hkc Dk hg hr tk hb I2 e2 (rv.append rz) (by rw [vals_len rv, l1]) (by rw [vals_len rz, l2, hkl]) (paired_app (OpRs.mono m2 p1) p2) q2 fun r env3 v H3 F3 hr m3 e3 => k r env3 v H3 F3 hr ((m1.trans m2).trans m3) e3⟩
/-- C(k = v, ..) -/
theorem e_makek0 (M : Mk X.K (P.L.cls c) (P.L.fn f)) (hkc : P.L.kc c = true) (Dk : DefOk X.prog X.w X.K X.mg X.base n (P.L.fn f) fd ps (lift P.L (Γ.f f))) (hg : X.A.guards = some []) (hr : Room (n + 1) X.A) (tk : Takes X (WXo P Xp)) (hb : BindOk X.K fd ps 1 ks (.inl 0 :: shSrc src)) (hgl : Gl X g) (hm : X.mg g = some (.ref (P.L.cls c)))
    (hkw : PK X kws (tOs P Γ Xp ns)) (hkl : ns.length = ks.length) (hdb : (g == ("__debug__" : Str)) = false)
    (hall : (backToKw pos (keywordEach kws X.env)).all (·.1.isSome) = true) (hks : (backToKw pos (keywordEach kws X.env)).filterMap (·.1) = ks)
    (hpl : ((backTo pos (starEach [] X.env)).any (·.1) || (backToKw pos (keywordEach kws X.env)).any (·.1.isNone)) = false) :
    PE X (.Call (.Name g p) [] kws pos) (tE P Γ Xp (.make c f ns src)) := ⟨fun pins s σ H Q I h => by
  obtain ⟨env, F, R, ex, w, k⟩ := h
  simp only [wE] at w
  refine wpAny_Call_Name_kw (ld_glob I hgl hm ?_ hdb)
  rw [← hks] at hb hkl
  refine PySem.W.callWith_KW0 (h₀ := X.base) I.ok.mod.kin M.kp hall (thn (hkw.run pos pins s σ H (fun zs H2 => ∀ ws s2, Inv X pins σ H2 s2 → Vals zs ws → wpAny (model X.prog X.w) X.A (call (.ref (P.L.cls c)) ([] ++ []) (((backToKw pos (keywordEach kws X.env)).filterMap (·.1)).zip ws)) (EP X pins σ Q) X.xe s2) I
    ⟨env, F, _, ex, w, fun os2 env2 zs H2 F2 q2 m2 e2 p2 l2 ws s2 I2 rz => ?_⟩) fun ws s2 ⟨zs, H2, I2, rz, q⟩ => ⟨I2.kIn, q ws s2 I2 rz⟩) hpl
  exact make_core (us := []) M hkc Dk hg hr tk hb I2 e2 (by rw [List.nil_append]; exact rz) rfl (by rw [vals_len rz, l2, hkl]) p2 q2 fun r env3 v H3 F3 hr m3 e3 => k r env3 v H3 F3 hr (m2.trans m3) e3⟩
/-- name(e, ..), the name holds one of these defs -/
theorem e_cv {i : Nat} {fs : List Nat} (Dk : ∀ f ∈ fs, PySem.W.keepIn X.K (.ref (P.L.fn f)) = true ∧ ∃ fd ps, DefOk X.prog X.w X.K X.mg X.base n (P.L.fn f) fd ps (lift P.L (Γ.f f)) ∧ BindOk X.K fd ps ms.length [] (idSrc ms.length)) (hg : ∀ f ∈ fs, X.A.guards = some []) (hr : Room n X.A) (tk : Takes X (WXo P Xp))
    (hv : PE X (.Name g p) (tVar i)) (ha : PA X (x :: es) (tOs P Γ Xp ms)) (he : starEach (x :: es) X.env = (false, eval x X.env) :: starEach es X.env) (hpl : (backTo pos (starEach es X.env)).any (·.1) = false) :
    PE X (.Call (.Name g p) (x :: es) [] pos) (tE P Γ Xp (.cv i fs ms)) := ⟨fun pins s σ H Q I h => by
  obtain ⟨env, F, R, ex, w, k⟩ := h
  simp only [wE] at w
  obtain ⟨f, hf, hm, w⟩ := w
  obtain ⟨hk, fd, ps, dk, hb⟩ := Dk f hm
  have hs : σ[i]? = some (some (.ref (P.L.fn f))) := by
    obtain ⟨A, e⟩ := ex
    obtain ⟨v, h1, h2⟩ := e.val i _ hf
    rw [h1, show v = V.ref (P.L.fn f) from h2]
  refine wpAny_Call_Name_kw (thn (hv.run pins s σ H (fun v H1 => v = .ref (P.L.fn f) ∧ H1 = H) I ⟨_, hs, rfl, rfl⟩) fun u s1 ⟨v, H1, I1, r1, q1⟩ => ?_)
  obtain ⟨e1, e2⟩ := q1
  subst e1 e2
  obtain rfl : u = Value.ref (P.L.fn f) := r1
  refine PySem.W.callWith_K (h₀ := X.base) I.ok.mod.kin hk (thn (ha.run pos pins s1 σ _ (fun vs H1 => ∀ us s1, Inv X pins σ H1 s1 → Vals vs us → wpAny (model X.prog X.w) X.A (call (.ref (P.L.fn f)) us) (EP X pins σ Q) X.xe s1) I1
    ⟨env, F, _, ex, w, fun os env' vs H' F' q m e p l us s1 I1 rv => ?_⟩) fun us s1 ⟨vs, H1, I1, rv, q⟩ => ⟨I1.kIn, q us s1 I1 rv⟩) he hpl
  exact call_core (ws := []) (kws := []) dk (hg f hm) hr tk hb I1 e (by rw [List.append_nil]; exact rv) (by rw [vals_len rv, l]) rfl p q fun r env2 v H2 F2 hr m2 e2 => k r env2 v H2 F2 hr (m.trans m2) e2⟩
end
end G
/-! A5: what is walked, comprehensions, isinstance. -/
namespace G
open PySem PySem.Spec L2

theorem line_pos : 0 < line := by decide
section
variable {X : Cx} {P : PP} {Γ : Fns} {Xp : XP} {pos : Pos} {x y z tg : Expr} {a b c : E}
theorem itOk_list {L : Lay} {F : Hp} {p : Addr} {vs : List V} {ds : List D} (h : F p = some (.lst vs)) (r : Reps L F ds vs) : ItOk L (Itl L.K p) F ds := by
  refine ⟨fun H m => ⟨vs, .inl (.inl (m _ _ h)), by rw [r.length]; exact Nat.le_refl _⟩, fun i d q F1 H m1 m2 => ?_⟩
  obtain ⟨v, h1, h2⟩ := r.get q
  have s : SqL L.K H p vs := .inl (.inl (m2 _ _ (m1 _ _ h)))
  refine ⟨⟨vs, v, s, h1⟩, fun x H' y => ?_⟩
  obtain ⟨e, y⟩ := y
  subst e
  have e := y vs s
  rw [h1] at e
  cases e
  exact ⟨F1, LeH.refl _, m2, fun a o q => ⟨q, rfl⟩, fun _ _ z => z, Rep.mono m1 _ _ h2⟩
theorem itOk_tup {L : Lay} {F : Hp} {p : Addr} {vs : List V} {ds : List D} (h : SqT L.K F p vs) (r : Reps L F ds vs) : ItOk L (Itt L.K p) F ds := by
  refine ⟨fun H m => ⟨vs, sqT_mono m h, by rw [r.length]; exact Nat.le_refl _⟩, fun i d q F1 H m1 m2 => ?_⟩
  obtain ⟨v, h1, h2⟩ := r.get q
  have s : SqT L.K H p vs := sqT_mono m2 (sqT_mono m1 h)
  refine ⟨⟨vs, v, s, h1⟩, fun x H' y => ?_⟩
  obtain ⟨e, y⟩ := y
  subst e
  have e := y vs s
  rw [h1] at e
  cases e
  exact ⟨F1, LeH.refl _, m2, fun a o q => ⟨q, rfl⟩, fun _ _ z => z, Rep.mono m1 _ _ h2⟩
theorem itOk_str {L : Lay} {F : Hp} {s : Str} : ItOk L (Its s) F (s.cps.toList.map fun c => .str ⟨#[c]⟩) := by
  refine ⟨fun H m => by show s.cps.size ≤ _; simp, fun i d q F1 H m1 m2 => ?_⟩
  have hi : i < s.cps.size := by
    have := (List.getElem?_eq_some_iff.mp q).1
    simpa using this
  refine ⟨hi, fun x H' y => ?_⟩
  obtain ⟨e, c, hc, e'⟩ := y
  subst e
  subst e'
  refine ⟨F1, LeH.refl _, m2, fun a o q => ⟨q, rfl⟩, fun _ _ z => z, ?_⟩
  rw [List.getElem?_map, Array.getElem?_toList, hc] at q
  cases q
  exact ⟨rfl, sign_len⟩
theorem itOk_rng {L : Lay} {F : Hp} {lo hi : Int} : ItOk L (Itr lo (hi - lo).toNat) F (rngD lo hi) := by
  have hl : (rngD lo hi).length = (hi - lo).toNat := by simp [rngD]
  refine ⟨fun H m => by rw [hl]; exact Nat.le_refl _, fun i d q F1 H m1 m2 => ?_⟩
  have h1 := (List.getElem?_eq_some_iff.mp q).1
  rw [hl] at h1
  refine ⟨h1, fun x H' y => ?_⟩
  obtain ⟨e, e'⟩ := y
  subst e
  subst e'
  refine ⟨F1, LeH.refl _, m2, fun a o q => ⟨q, rfl⟩, fun _ _ z => z, ?_⟩
  unfold rngD at q
  rw [List.getElem?_map, List.getElem?_range h1] at q
  cases q
  exact rfl
/-- any list, tuple, text -/
def iAny (K : PySem.W.Frag) (t : TE) : TI := fun σ H R => t σ H fun x H1 => (∃ a xs, x = .ref a ∧ SqL K H1 a xs ∧ (xs.length ≤ sizeLine → R (Itl K a) H1)) ∨ (∃ a xs, x = .ref a ∧ SqT K H1 a xs ∧ (xs.length ≤ sizeLine → R (Itt K a) H1)) ∨ ∃ s, x = .str s ∧ R (Its s) H1
theorem i_any {t : TE} (h : PE X x t) : PI X tg x (iAny X.K t) := by
  refine ⟨fun pins s σ H R I q => ?_⟩
  refine thn (h.run pins s σ H _ I q) fun v s1 ⟨u, H1, I1, r1, q1⟩ => ?_
  rcases q1 with ⟨a, xs, e, hq, q⟩ | ⟨a, xs, e, hq, q⟩ | ⟨t', e, q⟩
  · subst e
    cases r1
    obtain ⟨its, rv, p, hz⟩ := I1.list hq
    refine wpAny_pyIter_list p.isList ?_
    refine ⟨s1.heap.objs.size, [s1.heap.objs.size], _, _, H1, rfl, I1.kept (t' := s1.toks) fun b o e => Heap.get?_push_of_some _ e, turn_list a _, ⟨_, Heap.get?_push_size _ rfl, rfl, rfl⟩, fun b hb => ?_, q hz⟩
    obtain rfl := List.mem_singleton.mp hb
    exact I1.fpOk (Nat.le_refl _) (I1.hok.fresh (Nat.le_refl _))
  · subst e
    cases r1
    obtain ⟨its, rv, p, hz⟩ := I1.tuple hq
    refine wpAny_pyIter_tuple (show s1.heap.IsTuple a its.toArray from p) ?_
    refine ⟨s1.heap.objs.size, [s1.heap.objs.size], _, _, H1, rfl, I1.kept (t' := s1.toks) fun b o e => Heap.get?_push_of_some _ e, turn_tuple a _, ⟨_, Heap.get?_push_size _ rfl, rfl, rfl⟩, fun b hb => ?_, q hz⟩
    obtain rfl := List.mem_singleton.mp hb
    exact I1.fpOk (Nat.le_refl _) (I1.hok.fresh (Nat.le_refl _))
  · subst e
    obtain ⟨t, rfl⟩ := r1
    cases ha : t'.cps.all (· < 128)
    · exact wpAny_pyIter_wide ha (pi_one (tk := s1.toks) I1 _ (turn_str _ t' t "str_iterator" (.inr rfl)) ⟨_, Heap.get?_push_size _ rfl, rfl, rfl⟩ q)
    · exact wpAny_pyIter_ascii ha (pi_one (tk := s1.toks) I1 _ (turn_str _ t' t "str_ascii_iterator" (.inl rfl)) ⟨_, Heap.get?_push_size _ rfl, rfl, rfl⟩ q)
theorem i_it (hK : X.K = P.L.K) (h : PE X x (tE P Γ Xp a)) : PI X tg x (tI P Γ Xp (.it a)) := pi_imp (i_any h) fun σ H R h => by
  obtain ⟨env, F, Rd, ex, w, k⟩ := h
  simp only [wI] at w
  refine ⟨env, F, _, ex, w, fun r env1 v H1 F1 q m e => ?_⟩
  obtain ⟨ds, hd, q⟩ := q
  obtain ⟨F2, m2, rp, e2⟩ := e.freeze
  cases hr : r.toD with
  | lst xs =>
    rw [hr] at hd rp
    cases hd
    obtain ⟨p, vs, rfl, h1, h2⟩ := rp
    have s : H1 p = some (.lst vs) := e2.sub _ _ h1
    exact .inl ⟨_, _, rfl, .inl (.inl s), fun hz => by rw [hK]; exact k ds env1 H1 F2 _ q (m.trans m2) e2 (by rw [line_eq, ← h2.length]; exact hz) (itOk_list h1 h2)⟩
  | tup xs =>
    rw [hr] at hd rp
    cases hd
    obtain ⟨p, vs, rfl, h1, h2⟩ := rp
    exact .inr (.inl ⟨_, _, rfl, by rw [hK]; exact sqT_mono e2.sub h1, fun hz => by rw [hK]; exact k ds env1 H1 F2 _ q (m.trans m2) e2 (by rw [line_eq, ← h2.length]; exact hz) (itOk_tup h1 h2)⟩)
  | str s =>
    rw [hr] at hd rp
    cases hd
    exact .inr (.inr ⟨s, rp.1, k _ env1 H1 F2 _ q (m.trans m2) e2 (by rw [List.length_map, Array.length_toList]; exact rp.2) itOk_str⟩)
  | non => rw [hr] at hd; cases hd
  | bl _ => rw [hr] at hd; cases hd
  | int _ => rw [hr] at hd; cases hd
  | dct _ _ _ => rw [hr] at hd; cases hd
  | ins _ _ => rw [hr] at hd; cases hd
  | fn _ => rw [hr] at hd; cases hd
  | scr _ => rw [hr] at hd; cases hd
  | exn _ => rw [hr] at hd; cases hd
theorem rng_len {i j : Int} (h : -1000000 ≤ i ∧ i ≤ 1000000 ∧ -1000000 ≤ j ∧ j ≤ 1000000) : (rngD i j).length ≤ line := by
  simp only [rngD, List.length_map, List.length_range, line]
  omega
/-- range(b), range(a, b) -/
theorem i_rng1 {p : Pos} (hg : Gl X "range") (hm : X.mg "range" = none) (ha : PA X [x] (tOs P Γ Xp [a])) (hs : starEach [x] X.env = [(false, eval x X.env)]) :
    PI X tg (.Call (.Name "range" p) [x] [] pos) (tI P Γ Xp (.rng [a])) := pi_imp (pi_range1 hg hm ha hs) fun σ H R h => by
  obtain ⟨env, F, Rd, ex, w, k⟩ := h
  simp only [wI] at w
  refine ⟨env, F, _, ex, w, fun os env1 vs H1 F1 q m e p l => ?_⟩
  generalize hq : os.map (res env1) = qs at q
  unfold rngW at q
  split at q
  · obtain ⟨v, o, rfl, rfl, h1, h2⟩ := opRs_one p hq
    refine ⟨_, by rw [(e.res h1 h2).int], by omega, by omega, k _ _ H1 F1 _ q.2 m e (rng_len (by omega)) ?_⟩
    have := @itOk_rng P.L F1 0 (by assumption)
    simpa using this
  · have := congrArg List.length hq
    rw [List.length_map, ← paired_len p, l] at this
    simp at this
  · exact q.elim
theorem i_rng2 {p : Pos} (hg : Gl X "range") (hm : X.mg "range" = none) (ha : PA X [x, y] (tOs P Γ Xp [a, b])) (hs : starEach [x, y] X.env = [(false, eval x X.env), (false, eval y X.env)]) (hs2 : starEach [y] X.env = [(false, eval y X.env)]) :
    PI X tg (.Call (.Name "range" p) [x, y] [] pos) (tI P Γ Xp (.rng [a, b])) := pi_imp (pi_range2 hg hm ha hs hs2) fun σ H R h => by
  obtain ⟨env, F, Rd, ex, w, k⟩ := h
  simp only [wI] at w
  refine ⟨env, F, _, ex, w, fun os env1 vs H1 F1 q m e p l => ?_⟩
  generalize hq : os.map (res env1) = qs at q
  unfold rngW at q
  split at q
  · have := congrArg List.length hq
    rw [List.length_map, ← paired_len p, l] at this
    simp at this
  · obtain ⟨v, v', o, o', rfl, h1, h2, h3, h4⟩ := opRs_two p hq
    exact ⟨_, _, by rw [(e.res h1 h2).int, (e.res h3 h4).int], by omega, k _ _ H1 F1 _ q.2 m e (rng_len q.1) itOk_rng⟩
  · exact q.elim

/-! ### enumerate, zip, reversed -/
theorem numbered_get : ∀ {ds : List D} {n i : Nat} {d : D}, (numbered n ds)[i]? = some d → ∃ x, ds[i]? = some x ∧ d = .tup [.int ((n + i : Nat) : Int), x]
  | [], n, i, d, h => by simp [numbered] at h
  | x :: ds, n, 0, d, h => by simp [numbered] at h; subst h; exact ⟨x, rfl, rfl⟩
  | x :: ds, n, i + 1, d, h => by
    obtain ⟨y, h1, h2⟩ := numbered_get (ds := ds) (n := n + 1) (i := i) (by simpa [numbered] using h)
    exact ⟨y, by simpa using h1, by rw [h2]; congr 3; congr 1; omega⟩
theorem numbered_len : ∀ {ds : List D} {n : Nat}, (numbered n ds).length = ds.length
  | [], n => rfl
  | x :: ds, n => by simp only [numbered, List.length_cons]; rw [numbered_len]
theorem zip_get : ∀ {ds es : List D} {i : Nat} {d : D}, (zipD ds es)[i]? = some d → ∃ x y, ds[i]? = some x ∧ es[i]? = some y ∧ d = .tup [x, y]
  | [], _, i, d, h => by simp [zipD] at h
  | _ :: _, [], i, d, h => by simp [zipD] at h
  | x :: ds, y :: es, 0, d, h => by simp [zipD] at h; subst h; exact ⟨x, y, rfl, rfl, rfl⟩
  | x :: ds, y :: es, i + 1, d, h => by
    obtain ⟨a, b, h1, h2, h3⟩ := zip_get (ds := ds) (es := es) (i := i) (by simpa [zipD] using h)
    exact ⟨a, b, by simpa using h1, by simpa using h2, h3⟩
theorem zip_len : ∀ {ds es : List D}, ds.length ≤ (zipD ds es).length ∨ es.length ≤ (zipD ds es).length
  | [], _ => .inl (by simp)
  | _ :: _, [] => .inr (by simp)
  | x :: ds, y :: es => by
    simp only [zipD, List.length_cons]
    rcases zip_len (ds := ds) (es := es) with h | h
    · exact .inl (by omega)
    · exact .inr (by omega)
theorem zip_len2 : ∀ {ds es : List D}, (zipD ds es).length ≤ ds.length
  | [], _ => by simp [zipD]
  | _ :: _, [] => by simp [zipD]
  | x :: ds, y :: es => by simp only [zipD, List.length_cons]; have := zip_len2 (ds := ds) (es := es); omega
/-- a new tuple is laid while the walk goes on -/
theorem new_pair {L : Lay} {F1 H : Hp} {T : Addr} {vs : List V} {ds : List D} (m : LeH F1 H) (hT : H T = none) (r : Reps L F1 ds vs) : ∃ F2, LeH F1 F2 ∧ LeH F2 (upd H T (.tup vs)) ∧ (∀ a o, H a = some o → upd H T (.tup vs) a = some o ∧ F2 a = F1 a) ∧ (∀ a ps, F2 a = some (.tbl ps) → F1 a = some (.tbl ps)) ∧ Rep L F2 (.tup ds) (.ref T) := by
  have hF : F1 T = none := by
    cases q : F1 T with
    | none => rfl
    | some u => rw [m T u q] at hT; cases hT
  have m2 : LeH F1 (upd F1 T (.tup vs)) := LeH.upd hF
  refine ⟨upd F1 T (.tup vs), m2, fun a o q => ?_, fun a o q => ?_, fun a ps q => ?_, T, vs, rfl, .inl (.inl upd_same), Reps.mono m2 _ _ r⟩
  · by_cases e : a = T
    · subst e; rw [upd_same] at q ⊢; exact q
    · rw [upd_ne e] at q ⊢; exact m a o q
  · have e : a ≠ T := ne_of_none q hT
    rw [upd_ne e, upd_ne e]
    exact ⟨q, rfl⟩
  · by_cases e : a = T
    · subst e; rw [upd_same] at q; cases q
    · rw [upd_ne e] at q; exact q
theorem itOk_enum {L : Lay} {F : Hp} {p : Addr} {vs : List V} {ds : List D} (h : F p = some (.lst vs)) (r : Reps L F ds vs) : ItOk L (Ite L.K p) F (numbered 0 ds) := by
  refine ⟨fun H m => ⟨vs, .inl (.inl (m _ _ h)), by rw [r.length, numbered_len]; exact Nat.le_refl _⟩, fun i d q F1 H m1 m2 => ?_⟩
  obtain ⟨x, h0, rfl⟩ := numbered_get q
  obtain ⟨v, h1, h2⟩ := r.get h0
  have s : SqL L.K H p vs := .inl (.inl (m2 _ _ (m1 _ _ h)))
  refine ⟨⟨vs, v, s, h1⟩, fun z H' y => ?_⟩
  obtain ⟨T, w, rfl, hT, rfl, hy⟩ := y
  have e := hy vs s
  rw [h1] at e
  cases e
  refine new_pair m2 hT ⟨.int (i : Nat), [v], rfl, ?_, v, [], rfl, Rep.mono m1 _ _ h2, rfl⟩
  show V.int (i : Nat) = V.int ((0 + i : Nat) : Int)
  rw [Nat.zero_add]
theorem itOk_zipL {L : Lay} {F : Hp} {p q : Addr} {vs ws : List V} {ds es : List D} (h : F p = some (.lst vs)) (r : Reps L F ds vs) (h' : F q = some (.lst ws)) (r' : Reps L F es ws) : ItOk L (Itz L.K p q) F (zipD ds es) := by
  refine ⟨fun H m => ⟨vs, ws, .inl (.inl (m _ _ h)), .inl (.inl (m _ _ h')), by rw [r.length, r'.length]; exact zip_len⟩, fun i d z F1 H m1 m2 => ?_⟩
  obtain ⟨x, y, h0, h0', rfl⟩ := zip_get z
  obtain ⟨v, h1, h2⟩ := r.get h0
  obtain ⟨w, k1, k2⟩ := r'.get h0'
  have s : SqL L.K H p vs := .inl (.inl (m2 _ _ (m1 _ _ h)))
  have s' : SqL L.K H q ws := .inl (.inl (m2 _ _ (m1 _ _ h')))
  refine ⟨⟨vs, ws, v, w, s, s', h1, k1⟩, fun z H' y => ?_⟩
  obtain ⟨T, a, b, rfl, hT, rfl, hy, hy'⟩ := y
  have e := hy vs s
  rw [h1] at e
  cases e
  have e := hy' ws s'
  rw [k1] at e
  cases e
  exact new_pair m2 hT ⟨v, [w], rfl, Rep.mono m1 _ _ h2, w, [], rfl, Rep.mono m1 _ _ k2, rfl⟩
theorem itOk_zipT {L : Lay} {F : Hp} {p q : Addr} {vs ws : List V} {ds es : List D} (h : SqT L.K F p vs) (r : Reps L F ds vs) (h' : SqT L.K F q ws) (r' : Reps L F es ws) : ItOk L (RZ.ItzT L.K p q) F (zipD ds es) := by
  refine ⟨fun H m => ⟨vs, ws, sqT_mono m h, sqT_mono m h', by rw [r.length, r'.length]; exact zip_len⟩, fun i d z F1 H m1 m2 => ?_⟩
  obtain ⟨x, y, h0, h0', rfl⟩ := zip_get z
  obtain ⟨v, h1, h2⟩ := r.get h0
  obtain ⟨w, k1, k2⟩ := r'.get h0'
  have s : SqT L.K H p vs := sqT_mono m2 (sqT_mono m1 h)
  have s' : SqT L.K H q ws := sqT_mono m2 (sqT_mono m1 h')
  refine ⟨⟨vs, ws, v, w, s, s', h1, k1⟩, fun z H' y => ?_⟩
  obtain ⟨T, a, b, rfl, hT, rfl, hy, hy'⟩ := y
  have e := hy vs s
  rw [h1] at e
  cases e
  have e := hy' ws s'
  rw [k1] at e
  cases e
  exact new_pair m2 hT ⟨v, [w], rfl, Rep.mono m1 _ _ h2, w, [], rfl, Rep.mono m1 _ _ k2, rfl⟩
theorem itOk_rev {L : Lay} {F : Hp} {p : Addr} {vs : List V} {ds : List D} (h : F p = some (.lst vs)) (r : Reps L F ds vs) : ItOk L (Itv L.K p vs.length) F ds.reverse := by
  have rev : ∀ (i : Nat) (d : D), ds.reverse[i]? = some d → i < vs.length ∧ ds[vs.length - 1 - i]? = some d := fun i d q => by
    have hi := (List.getElem?_eq_some_iff.mp q).1
    rw [List.length_reverse] at hi
    rw [List.getElem?_reverse hi] at q
    rw [r.length]
    exact ⟨hi, q⟩
  refine ⟨fun H m => by show vs.length ≤ _; rw [List.length_reverse, r.length]; exact Nat.le_refl _, fun i d q F1 H m1 m2 => ?_⟩
  obtain ⟨hi, q⟩ := rev i d q
  obtain ⟨v, h1, h2⟩ := r.get q
  have s : SqL L.K H p vs := .inl (.inl (m2 _ _ (m1 _ _ h)))
  refine ⟨⟨hi, vs, v, s, h1⟩, fun x H' y => ?_⟩
  obtain ⟨e, y⟩ := y
  subst e
  have e := y vs s
  rw [h1] at e
  cases e
  exact ⟨F1, LeH.refl _, m2, fun a o q => ⟨q, rfl⟩, fun _ _ z => z, Rep.mono m1 _ _ h2⟩
theorem itOk_enumT {L : Lay} {F : Hp} {p : Addr} {vs : List V} {ds : List D} (h : SqT L.K F p vs) (r : Reps L F ds vs) : ItOk L (IteT L.K p) F (numbered 0 ds) := by
  refine ⟨fun H m => ⟨vs, sqT_mono m h, by rw [r.length, numbered_len]; exact Nat.le_refl _⟩, fun i d q F1 H m1 m2 => ?_⟩
  obtain ⟨x, h0, rfl⟩ := numbered_get q
  obtain ⟨v, h1, h2⟩ := r.get h0
  have s : SqT L.K H p vs := sqT_mono m2 (sqT_mono m1 h)
  refine ⟨⟨vs, v, s, h1⟩, fun z H' y => ?_⟩
  obtain ⟨T, w, rfl, hT, rfl, hy⟩ := y
  have e := hy vs s
  rw [h1] at e
  cases e
  refine new_pair m2 hT ⟨.int (i : Nat), [v], rfl, ?_, v, [], rfl, Rep.mono m1 _ _ h2, rfl⟩
  show V.int (i : Nat) = V.int ((0 + i : Nat) : Int)
  rw [Nat.zero_add]
/-- operands that are data -/
theorem i_enm {p tpos : Pos} {elts : List Expr} {kk : Nat} (hK : X.K = P.L.K) (hg : Gl X "enumerate") (hm : X.mg "enumerate" = none) (ha : PA X [x] (tOs P Γ Xp [a])) (hs : starEach [x] X.env = [(false, eval x X.env)]) :
    PI X (.Tuple elts kk tpos) (.Call (.Name "enumerate" p) [x] [] pos) (tI P Γ Xp (.enm [a])) := pi_imp (pi_enumT hg hm ha hs) fun σ H R h => by
  obtain ⟨env, F, Rd, ex, w, k⟩ := h
  simp only [wI] at w
  refine ⟨env, F, _, ex, w, fun os env1 vs H1 F1 q m e p l => ?_⟩
  generalize hq : datas os = qs at q
  unfold enmW at q
  split at q
  · rename_i ds
    have rr := datas_reps p hq
    obtain ⟨v, r, rfl, ⟨b, ws, rfl, h1, h2⟩, r2⟩ := rr
    rw [show r = [] from r2]
    refine ⟨b, rfl, .inl ⟨ws, .inl (.inl (e.sub _ _ h1)), ?_⟩⟩
    rw [hK]
    exact k _ _ H1 F1 _ q.2 m e q.1 (itOk_enum h1 h2)
  · rename_i ds
    have rr := datas_reps p hq
    obtain ⟨v, r, rfl, ⟨b, ws, rfl, h1, h2⟩, r2⟩ := rr
    rw [show r = [] from r2]
    refine ⟨b, rfl, .inr ⟨ws, by rw [hK]; exact sqT_mono e.sub h1, ?_⟩⟩
    rw [hK]
    exact k _ _ H1 F1 _ q.2 m e q.1 (itOk_enumT h1 h2)
  · exact q.elim
theorem zip3_get : ∀ {ds es fs : List D} {i : Nat} {d : D}, (zipD3 ds es fs)[i]? = some d → ∃ x y z, ds[i]? = some x ∧ es[i]? = some y ∧ fs[i]? = some z ∧ d = .tup [x, y, z]
  | [], _, _, i, d, h => by simp [zipD3] at h
  | _ :: _, [], _, i, d, h => by simp [zipD3] at h
  | _ :: _, _ :: _, [], i, d, h => by simp [zipD3] at h
  | x :: ds, y :: es, z :: fs, 0, d, h => by simp [zipD3] at h; subst h; exact ⟨x, y, z, rfl, rfl, rfl, rfl⟩
  | x :: ds, y :: es, z :: fs, i + 1, d, h => by
    obtain ⟨a, b, c, h1, h2, h3, h4⟩ := zip3_get (ds := ds) (es := es) (fs := fs) (i := i) (by simpa [zipD3] using h)
    exact ⟨a, b, c, by simpa using h1, by simpa using h2, by simpa using h3, h4⟩
theorem zip3_len : ∀ {ds es fs : List D}, (zipD3 ds es fs).length = min (min ds.length es.length) fs.length
  | [], _, _ => by simp [zipD3]
  | _ :: _, [], _ => by simp [zipD3]
  | _ :: _, _ :: _, [] => by simp [zipD3]
  | x :: ds, y :: es, z :: fs => by
    simp only [zipD3, List.length_cons]
    have := zip3_len (ds := ds) (es := es) (fs := fs)
    omega
theorem itOk_zip3 {t : Bool} {L : Lay} {F : Hp} {p q r : Addr} {vs ws us : List V} {ds es fs : List D} (h : ∀ H, LeH F H → SqB t L.K H p vs) (rp : Reps L F ds vs) (h' : ∀ H, LeH F H → SqB t L.K H q ws) (rp' : Reps L F es ws) (h'' : ∀ H, LeH F H → SqB t L.K H r us) (rp'' : Reps L F fs us) : ItOk L (Itz3 t L.K p q r) F (zipD3 ds es fs) := by
  refine ⟨fun H m => ⟨vs, ws, us, h H m, h' H m, h'' H m, by rw [rp.length, rp'.length, rp''.length]; exact zip3_len⟩, fun i d z F1 H m1 m2 => ?_⟩
  obtain ⟨x, y, u, h0, h0', h0'', rfl⟩ := zip3_get z
  obtain ⟨v, h1, h2⟩ := rp.get h0
  obtain ⟨w, k1, k2⟩ := rp'.get h0'
  obtain ⟨o, j1, j2⟩ := rp''.get h0''
  have s := h H (m1.trans m2)
  have s' := h' H (m1.trans m2)
  have s'' := h'' H (m1.trans m2)
  refine ⟨⟨vs, ws, us, v, w, o, s, s', s'', h1, k1, j1⟩, fun z H' y => ?_⟩
  obtain ⟨T, a, b, c, rfl, hT, rfl, hy, hy', hy''⟩ := y
  have e := hy vs s
  rw [h1] at e
  cases e
  have e := hy' ws s'
  rw [k1] at e
  cases e
  have e := hy'' us s''
  rw [j1] at e
  cases e
  exact new_pair m2 hT ⟨v, [w, o], rfl, Rep.mono m1 _ _ h2, w, [o], rfl, Rep.mono m1 _ _ k2, o, [], rfl, Rep.mono m1 _ _ j2, rfl⟩
theorem i_zip {p tpos : Pos} {elts : List Expr} {kk : Nat} (hK : X.K = P.L.K) (hg : Gl X "zip") (hm : X.mg "zip" = none) (ha : PA X [x, y] (tOs P Γ Xp [a, b])) (hs : starEach [x, y] X.env = (false, eval x X.env) :: starEach [y] X.env) (hpl : (backTo pos (starEach [y] X.env)).any (·.1) = false) :
    PI X (.Tuple elts kk tpos) (.Call (.Name "zip" p) [x, y] [] pos) (tI P Γ Xp (.zip [a, b])) := pi_imp (RZ.pi_zipA hg hm ha hs hpl) fun σ H R h => by
  obtain ⟨env, F, Rd, ex, w, k⟩ := h
  simp only [wI] at w
  refine ⟨env, F, _, ex, w, fun os env1 vs H1 F1 q m e p l => ?_⟩
  generalize hq : datas os = qs at q
  unfold zipW at q
  split at q
  · have rr := datas_reps p hq
    obtain ⟨v, r, rfl, ⟨b, ws, rfl, h1, h2⟩, v', r', rfl, ⟨b', ws', rfl, h1', h2'⟩, r2⟩ := rr
    rw [show r' = [] from r2]
    refine ⟨b, b', ws, ws', rfl, .inl ⟨.inl (.inl (e.sub _ _ h1)), .inl (.inl (e.sub _ _ h1')), ?_⟩⟩
    rw [hK]
    exact k _ _ H1 F1 _ q.2 m e q.1 (itOk_zipL h1 h2 h1' h2')
  · have rr := datas_reps p hq
    obtain ⟨v, r, rfl, ⟨b, ws, rfl, h1, h2⟩, v', r', rfl, ⟨b', ws', rfl, h1', h2'⟩, r2⟩ := rr
    rw [show r' = [] from r2]
    refine ⟨b, b', ws, ws', rfl, .inr ⟨by rw [hK]; exact sqT_mono e.sub h1, by rw [hK]; exact sqT_mono e.sub h1', ?_⟩⟩
    rw [hK]
    exact k _ _ H1 F1 _ q.2 m e q.1 (itOk_zipT h1 h2 h1' h2')
  · have rr := datas_reps p hq
    exact absurd (rr.length.symm.trans l) (by simp)
  · have rr := datas_reps p hq
    exact absurd (rr.length.symm.trans l) (by simp)
  · exact q.elim
theorem i_zip3 {p tpos : Pos} {elts : List Expr} {kk : Nat} {u : Expr} {c : E} (hK : X.K = P.L.K) (hg : Gl X "zip") (hm : X.mg "zip" = none) (ha : PA X [x, y, u] (tOs P Γ Xp [a, b, c])) (hs : starEach [x, y, u] X.env = (false, eval x X.env) :: starEach [y, u] X.env) (hpl : (backTo pos (starEach [y, u] X.env)).any (·.1) = false) :
    PI X (.Tuple elts kk tpos) (.Call (.Name "zip" p) [x, y, u] [] pos) (tI P Γ Xp (.zip [a, b, c])) := pi_imp (pi_zip3 hg hm ha hs hpl) fun σ H R h => by
  obtain ⟨env, F, Rd, ex, w, k⟩ := h
  simp only [wI] at w
  refine ⟨env, F, _, ex, w, fun os env1 vs H1 F1 q m e p l => ?_⟩
  generalize hq : datas os = qs at q
  unfold zipW at q
  split at q
  · have rr := datas_reps p hq
    exact absurd (rr.length.symm.trans l) (by simp)
  · have rr := datas_reps p hq
    exact absurd (rr.length.symm.trans l) (by simp)
  · have rr := datas_reps p hq
    obtain ⟨v, r, rfl, ⟨b1, ws, rfl, h1, h2⟩, v', r', rfl, ⟨b2, ws', rfl, h1', h2'⟩, v'', r'', rfl, ⟨b3, ws'', rfl, h1'', h2''⟩, r2⟩ := rr
    rw [show r'' = [] from r2]
    refine ⟨false, b1, b2, b3, ws, ws', ws'', rfl, .inl (.inl (e.sub _ _ h1)), .inl (.inl (e.sub _ _ h1')), .inl (.inl (e.sub _ _ h1'')), ?_⟩
    rw [hK]
    exact k _ _ H1 F1 _ q.2 m e q.1 (itOk_zip3 (fun H m => .inl (.inl (m _ _ h1))) h2 (fun H m => .inl (.inl (m _ _ h1'))) h2' (fun H m => .inl (.inl (m _ _ h1''))) h2'')
  · have rr := datas_reps p hq
    obtain ⟨v, r, rfl, ⟨b1, ws, rfl, h1, h2⟩, v', r', rfl, ⟨b2, ws', rfl, h1', h2'⟩, v'', r'', rfl, ⟨b3, ws'', rfl, h1'', h2''⟩, r2⟩ := rr
    rw [show r'' = [] from r2]
    refine ⟨true, b1, b2, b3, ws, ws', ws'', rfl, by rw [hK]; exact sqT_mono e.sub h1, by rw [hK]; exact sqT_mono e.sub h1', by rw [hK]; exact sqT_mono e.sub h1'', ?_⟩
    rw [hK]
    exact k _ _ H1 F1 _ q.2 m e q.1 (itOk_zip3 (t := true) (fun H m => sqT_mono m h1) h2 (fun H m => sqT_mono m h1') h2' (fun H m => sqT_mono m h1'') h2'')
  · exact q.elim
theorem i_rvd {p : Pos} (hK : X.K = P.L.K) (hg : Gl X "reversed") (hm : X.mg "reversed" = none) (ha : PA X [x] (tOs P Γ Xp [a])) (hs : starEach [x] X.env = [(false, eval x X.env)]) :
    PI X tg (.Call (.Name "reversed" p) [x] [] pos) (tI P Γ Xp (.rvd [a])) := pi_imp (pi_reversed hg hm ha hs) fun σ H R h => by
  obtain ⟨env, F, Rd, ex, w, k⟩ := h
  simp only [wI] at w
  refine ⟨env, F, _, ex, w, fun os env1 vs H1 F1 q m e p l => ?_⟩
  generalize hq : datas os = qs at q
  unfold rvdW at q
  split at q
  · have rr := datas_reps p hq
    obtain ⟨v, r, rfl, ⟨b, ws, rfl, h1, h2⟩, r2⟩ := rr
    rw [show r = [] from r2]
    refine ⟨b, ws, rfl, .inl (.inl (e.sub _ _ h1)), ?_⟩
    rw [hK]
    exact k _ _ H1 F1 _ q.2 m e q.1 (itOk_rev h1 h2)
  · exact q.elim

/-! ### targets -/
mutual
def slots : Tg → List Nat
  | .nm i => [i]
  | .tp ts => slotss ts
def slotss : List Tg → List Nat
  | [] => []
  | t :: ts => slots t ++ slotss ts
end
def SameOut (vs : List Nat) (σ σ' : L2.St) : Prop := σ'.length = σ.length ∧ ∀ i : Nat, i ∉ vs → σ'[i]? = σ[i]?
theorem SameOut.refl {vs : List Nat} (σ : L2.St) : SameOut vs σ σ := ⟨rfl, fun _ _ => rfl⟩
theorem SameOut.trans {vs ws : List Nat} {σ σ1 σ2 : L2.St} (a : SameOut vs σ σ1) (b : SameOut ws σ1 σ2) : SameOut (vs ++ ws) σ σ2 :=
  ⟨b.1.trans a.1, fun i h => (b.2 i fun z => h (List.mem_append_right _ z)).trans (a.2 i fun z => h (List.mem_append_left _ z))⟩
def gT (P : PP) (t : Tg) : TG := fun v σ H Q => ∃ env F d R, EX P σ H env F ∧ Rep P.L F d v ∧ asg t d env R ∧ ∀ σ' env', R env' → EX P σ' H env' F → SameOut (slots t) σ σ' → Q σ' H
def gTs (P : PP) (ts : List Tg) : TGs := fun vs σ H Q => ∃ env F ds R, EX P σ H env F ∧ Reps P.L F ds vs ∧ asgs ts ds env R ∧ ∀ σ' env', R env' → EX P σ' H env' F → SameOut (slotss ts) σ σ' → Q σ' H
theorem pg_imp {e : Expr} {t t' : TG} (h : PG X e t) (m : ∀ v σ H Q, t' v σ H Q → t v σ H Q) : PG X e t' := ⟨fun pins s σ H v u Q I r q => h.run pins s σ H v u Q I r (m v σ H Q q)⟩
theorem pgs_imp {e : List Expr} {t t' : TGs} (h : PGs X e t) (m : ∀ v σ H Q, t' v σ H Q → t v σ H Q) : PGs X e t' := ⟨fun pins s σ H v u Q I r q => h.run pins s σ H v u Q I r (m v σ H Q q)⟩
theorem set_self {σ : L2.St} {i : Nat} {v : Option V} (h : i < σ.length) : (σ.set i v)[i]? = some v := List.getElem?_set_self h
/-- a slot is given data -/
theorem ER.setVal {A : Nat → Addr} {σ : L2.St} {H : Hp} {env : Env} {F : Hp} (e : ER P A σ H env F) {i : Nat} {y : Option EV} (hy : env[i]? = some y) (nb : ∀ o, y ≠ some (.bor o)) {d : D} {v : V} (r : Rep P.L F d v) :
    ER P A (σ.set i (some v)) H (env.set i (some (.val d))) F := by
  have hi : i < env.length := (List.getElem?_eq_some_iff.mp hy).1
  have hs : i < σ.length := by rw [← e.len]; exact hi
  have own : ∀ (j : Nat) (o : OV), ownish (env.set i (some (.val d)))[j]? = some o → i ≠ j ∧ ownish env[j]? = some o := fun j o q => by
    by_cases ij : i = j
    · subst ij; rw [get_set_self hy] at q; cases q
    · rw [get_set_ne ij] at q; exact ⟨ij, q⟩
  refine ⟨e.sub, e.le0, e.fr, by rw [List.length_set, List.length_set]; exact e.len, fun j d' q => ?_, fun j o q => ?_, fun j k o u q1 q2 => e.ne j k o u (own j o q1).2 (own k u q2).2, fun j o q => ?_, fun j => ?_, e.tb⟩
  · by_cases ij : i = j
    · subst ij
      rw [get_set_self hy] at q
      cases q
      exact ⟨v, set_self hs, r⟩
    · rw [get_set_ne ij] at q
      obtain ⟨w, h1, h2⟩ := e.val j d' q
      exact ⟨w, by rw [List.getElem?_set_ne ij]; exact h1, h2⟩
  · obtain ⟨ij, q⟩ := own j o q
    obtain ⟨h1, h2⟩ := e.own j o q
    exact ⟨by rw [List.getElem?_set_ne ij]; exact h1, h2⟩
  · have ij : i ≠ j := fun z => by subst z; rw [get_set_self hy] at q; cases q
    rw [get_set_ne ij] at q
    exact e.bor j o q
  · rw [e.isb j]
    by_cases ij : i = j
    · subst ij
      rw [get_set_self hy, hy]
      constructor
      · rintro ⟨o, q⟩; exact absurd (Option.some.inj q) (nb o)
      · rintro ⟨o, q⟩; cases q
    · rw [get_set_ne ij]
theorem setS_cases {env : Env} {i : Nat} {v : EV} {R : Env → Prop} (h : setS env i v R) : ∃ y, env[i]? = some y ∧ (∀ o, y ≠ some (.bor o)) ∧ R (env.set i (some v)) := by
  unfold setS at h
  cases e : env[i]? with
  | none => rw [e] at h; exact h.elim
  | some y =>
    rw [e] at h
    cases y with
    | none => exact ⟨_, rfl, (fun o z => by cases z), h⟩
    | some z =>
      cases z with
      | val d => exact ⟨_, rfl, (fun o z => by cases z), h⟩
      | own o => exact ⟨_, rfl, (fun o z => by cases z), h⟩
      | bor o => exact h.elim
theorem g_nm {g : Str} {i : Nat} (h : PG X (.Name g pos) (gName i)) : PG X (.Name g pos) (gT P (.nm i)) := pg_imp h fun v σ H Q h => by
  obtain ⟨env, F, d, R, ⟨A, e⟩, r, w, k⟩ := h
  obtain ⟨y, hy, nb, w⟩ := setS_cases (by simpa only [asg] using w)
  refine k _ _ w ⟨A, e.setVal hy nb r⟩ ⟨by rw [List.length_set], fun j hj => ?_⟩
  exact List.getElem?_set_ne fun z => hj (by rw [z]; simp [slots])
theorem gs_nil : PGs X [] (gTs P []) := pgs_imp pgs_nil fun vs σ H Q h => by
  obtain ⟨env, F, ds, R, e, r, w, k⟩ := h
  cases ds with
  | nil =>
    simp only [asgs] at w
    exact ⟨r, k σ env w e (SameOut.refl σ)⟩
  | cons d ds => simp only [asgs] at w
theorem gs_cons {es : List Expr} {t : Tg} {ts : List Tg} (h1 : PG X x (gT P t)) (h2 : PGs X es (gTs P ts)) (hs : (assignEach (x :: es) X.env).map (·.2) = assign x X.env :: (assignEach es X.env).map (·.2)) : PGs X (x :: es) (gTs P (t :: ts)) := pgs_imp (pgs_cons h1 h2 hs) fun vs σ H Q h => by
  obtain ⟨env, F, ds, R, e, r, w, k⟩ := h
  cases ds with
  | nil => simp only [asgs] at w
  | cons d ds =>
    simp only [asgs] at w
    obtain ⟨v, vr, rfl, r1, r2⟩ := r
    exact ⟨v, vr, rfl, env, F, d, _, e, r1, w, fun σ1 env1 q1 e1 s1 => ⟨env1, F, ds, R, e1, r2, q1, fun σ2 env2 q2 e2 s2 => k σ2 env2 q2 e2 (s1.trans s2)⟩⟩
theorem g_tp {es : List Expr} {ts : List Tg} {kk : Nat} (hK : X.K = P.L.K) (hc : X.calm = true) (h : PGs X es (gTs P ts)) (hl : es.length = ts.length) (hn : (assignEach es X.env).length = es.length) (hst : (assignEach es X.env).findIdx? (·.1) = none) : PG X (.Tuple es kk pos) (gT P (.tp ts)) :=
  pg_imp (pg_tup (n := es.length) hc h hn hst) fun v σ H Q h => by
  obtain ⟨env, F, d, R, e, r, w, k⟩ := h
  cases d with
  | tup ds =>
    simp only [asg] at w
    obtain ⟨a, vs, rfl, h1, h2⟩ := r
    exact ⟨a, vs, rfl, by rw [hK]; exact sqT_mono e.sub h1, by rw [h2.length, w.1, hl], env, F, ds, R, e, h2, w.2, k⟩
  | _ => simp only [asg] at w

/-! ### a comprehension -/
theorem wipe_at {σ : L2.St} {i : Nat} : ∀ {vs : List Nat}, (wipe σ vs)[i]? = if i ∈ vs ∧ i < σ.length then some none else σ[i]?
  | [] => by simp [wipe]
  | v :: vs => by
    show ((wipe σ vs).set v none)[i]? = _
    by_cases iv : v = i
    · subst iv
      by_cases hl : v < σ.length
      · rw [List.getElem?_set_self (by rw [wipe_length]; exact hl), if_pos ⟨List.mem_cons_self, hl⟩]
      · rw [if_neg fun z => hl z.2, List.getElem?_eq_none (by rw [List.length_set, wipe_length]; omega), List.getElem?_eq_none (by omega)]
    · rw [List.getElem?_set_ne iv, wipe_at]
      simp only [List.mem_cons, show (i = v) = False from eq_false fun z => iv z.symm, false_or]
theorem wipeE_len {env : Env} : ∀ {vs : List Nat}, (wipeE env vs).length = env.length
  | [] => rfl
  | v :: vs => by simp only [wipeE, List.length_set]; exact wipeE_len
theorem wipeE_at {env : Env} {i : Nat} : ∀ {vs : List Nat}, (wipeE env vs)[i]? = if i ∈ vs ∧ i < env.length then some none else env[i]?
  | [] => by simp [wipeE]
  | v :: vs => by
    simp only [wipeE]
    by_cases iv : v = i
    · subst iv
      by_cases hl : v < env.length
      · rw [List.getElem?_set_self (by rw [wipeE_len]; exact hl), if_pos ⟨List.mem_cons_self, hl⟩]
      · rw [if_neg fun z => hl z.2, List.getElem?_eq_none (by rw [List.length_set, wipeE_len]; omega), List.getElem?_eq_none (by omega)]
    · rw [List.getElem?_set_ne iv, wipeE_at]
      simp only [List.mem_cons, show (i = v) = False from eq_false fun z => iv z.symm, false_or]
theorem unwipe_len {env0 env : Env} : ∀ {vs : List Nat}, (unwipe env0 env vs).length = env.length
  | [] => rfl
  | v :: vs => by simp only [unwipe, List.length_set]; exact unwipe_len
theorem unwipe_at {env0 env : Env} {i : Nat} : ∀ {vs : List Nat}, (unwipe env0 env vs)[i]? = if i ∈ vs ∧ i < env.length then some (env0[i]?.getD none) else env[i]?
  | [] => by simp [unwipe]
  | v :: vs => by
    simp only [unwipe]
    by_cases iv : v = i
    · subst iv
      by_cases hl : v < env.length
      · rw [List.getElem?_set_self (by rw [unwipe_len]; exact hl), if_pos ⟨List.mem_cons_self, hl⟩]
      · rw [if_neg fun z => hl z.2, List.getElem?_eq_none (by rw [List.length_set, unwipe_len]; omega), List.getElem?_eq_none (by omega)]
    · rw [List.getElem?_set_ne iv, unwipe_at]
      simp only [List.mem_cons, show (i = v) = False from eq_false fun z => iv z.symm, false_or]
theorem wipe_same {σ σ' : L2.St} {vs ws : List Nat} (h : SameOut ws (wipe σ vs) σ') (s : ∀ i ∈ ws, i ∈ vs) : wipe σ' vs = wipe σ vs := by
  refine List.ext_getElem? fun i => ?_
  have hl : σ'.length = σ.length := h.1.trans (wipe_length σ vs)
  rw [wipe_at, wipe_at, hl]
  by_cases c : i ∈ vs ∧ i < σ.length
  · rw [if_pos c, if_pos c]
  · rw [if_neg c, if_neg c]
    by_cases hi : i ∈ vs
    · have : σ.length ≤ i := Nat.le_of_not_lt fun z => c ⟨hi, z⟩
      rw [List.getElem?_eq_none (by omega), List.getElem?_eq_none this]
    · rw [h.2 i fun z => hi (s i z), wipe_at, if_neg c]
theorem noOwn_at {env : Env} : ∀ {vs : List Nat} {i : Nat}, noOwn env vs = true → i ∈ vs → ownish env[i]? = none
  | v :: vs, i, h, hi => by
    simp only [noOwn, Bool.and_eq_true] at h
    rcases List.mem_cons.mp hi with rfl | hi
    · cases e : env[i]? with
      | none => rfl
      | some y => cases y with
        | none => rfl
        | some z => cases z with
          | val d => rfl
          | own o => rw [e] at h; exact absurd h.1 (by simp)
          | bor o => rw [e] at h; exact absurd h.1 (by simp)
    · exact noOwn_at h.2 hi
/-- no lent slot among these -/
def NoB (P : PP) (vs : List Nat) : Prop := ∀ i ∈ vs, P.isB i = false
theorem ER.noB {A : Nat → Addr} {σ : L2.St} {H : Hp} {env : Env} {F : Hp} (e : ER P A σ H env F) {vs : List Nat} (h : noOwn env vs = true) : NoB P vs := fun i hi => by
  cases q : P.isB i with
  | false => rfl
  | true =>
    obtain ⟨o, ho⟩ := (e.isb i).mp q
    have := noOwn_at h hi
    rw [ho] at this
    cases this
theorem ER.wipe {A : Nat → Addr} {σ : L2.St} {H : Hp} {env : Env} {F : Hp} (e : ER P A σ H env F) {vs : List Nat} (h : NoB P vs) : ER P A (L2.wipe σ vs) H (wipeE env vs) F := by
  have get : ∀ (i : Nat) (z : EV), (wipeE env vs)[i]? = some (some z) → env[i]? = some (some z) ∧ (L2.wipe σ vs)[i]? = σ[i]? := fun i z q => by
    rw [wipeE_at] at q
    by_cases c : i ∈ vs ∧ i < env.length
    · rw [if_pos c] at q; cases q
    · rw [if_neg c] at q
      exact ⟨q, by rw [wipe_at, if_neg (by rw [← e.len]; exact c)]⟩
  have own : ∀ (i : Nat) (o : OV), ownish (wipeE env vs)[i]? = some o → ownish env[i]? = some o ∧ (L2.wipe σ vs)[i]? = σ[i]? := fun i o q => by
    rcases ownish_some q with z | z
    · obtain ⟨h1, h2⟩ := get i _ z; exact ⟨by rw [h1]; rfl, h2⟩
    · obtain ⟨h1, h2⟩ := get i _ z; exact ⟨by rw [h1]; rfl, h2⟩
  refine ⟨e.sub, e.le0, e.fr, by rw [wipeE_len, wipe_length]; exact e.len, fun i d q => ?_, fun i o q => ?_, fun i j o u q1 q2 => e.ne i j o u (own i o q1).1 (own j u q2).1, fun i o q => e.bor i o (get i _ q).1, fun i => ?_, e.tb⟩
  · obtain ⟨h1, h2⟩ := get i _ q
    rw [h2]
    exact e.val i d h1
  · obtain ⟨h1, h2⟩ := own i o q
    rw [h2]
    exact e.own i o h1
  · constructor
    · intro q
      have ni : i ∉ vs := fun z => by rw [h i z] at q; cases q
      obtain ⟨o, ho⟩ := (e.isb i).mp q
      exact ⟨o, by rw [wipeE_at, if_neg fun z => ni z.1]; exact ho⟩
    · rintro ⟨o, q⟩
      exact (e.isb i).mpr ⟨o, (get i _ q).1⟩
theorem ER.unwipe {A0 A : Nat → Addr} {σ : L2.St} {H0 H : Hp} {env0 env : Env} {F0 F : Hp} (e0 : ER P A0 σ H0 env0 F0) (m : LeH F0 F) {vs : List Nat} (h : noOwn env0 vs = true) (e : ER P A (L2.wipe σ vs) H env F) : ER P A σ H (G.unwipe env0 env vs) F := by
  have hl : env.length = σ.length := e.len.trans (wipe_length σ vs)
  have out : ∀ i : Nat, i ∉ vs → (G.unwipe env0 env vs)[i]? = env[i]? ∧ (L2.wipe σ vs)[i]? = σ[i]? := fun i hi => ⟨by rw [unwipe_at, if_neg fun z => hi z.1], by rw [wipe_at, if_neg fun z => hi z.1]⟩
  have inn : ∀ (i : Nat) (z : EV), i ∈ vs → (G.unwipe env0 env vs)[i]? = some (some z) → env0[i]? = some (some z) := fun i z hi q => by
    rw [unwipe_at] at q
    by_cases c : i ∈ vs ∧ i < env.length
    · rw [if_pos c] at q
      cases w : env0[i]? with
      | none => rw [w] at q; cases q
      | some y => rw [w] at q; cases q; rfl
    · rw [if_neg c] at q
      have hb := (List.getElem?_eq_some_iff.mp q).1
      exact absurd ⟨hi, hb⟩ c
  have own : ∀ (i : Nat) (o : OV), ownish (G.unwipe env0 env vs)[i]? = some o → i ∉ vs ∧ ownish env[i]? = some o := fun i o q => by
    by_cases hi : i ∈ vs
    · have n := noOwn_at h hi
      rcases ownish_some q with z | z
      · rw [inn i _ hi z] at n; cases n
      · rw [inn i _ hi z] at n; cases n
    · rw [(out i hi).1] at q; exact ⟨hi, q⟩
  refine ⟨e.sub, e.le0, e.fr, by rw [unwipe_len]; exact hl, fun i d q => ?_, fun i o q => ?_, fun i j o u q1 q2 => e.ne i j o u (own i o q1).2 (own j u q2).2, fun i o q => ?_, fun i => ?_, e.tb⟩
  · by_cases hi : i ∈ vs
    · obtain ⟨v, h1, h2⟩ := e0.val i d (inn i _ hi q)
      exact ⟨v, h1, Rep.mono m _ _ h2⟩
    · rw [(out i hi).1] at q
      rw [← (out i hi).2]
      exact e.val i d q
  · obtain ⟨hi, q⟩ := own i o q
    rw [← (out i hi).2]
    exact e.own i o q
  · by_cases hi : i ∈ vs
    · have n := noOwn_at h hi
      rw [inn i _ hi q] at n; cases n
    · rw [(out i hi).1] at q; exact e.bor i o q
  · by_cases hi : i ∈ vs
    · rw [e0.noB h i hi]
      constructor
      · intro z; cases z
      · rintro ⟨o, q⟩
        have n := noOwn_at h hi
        rw [inn i _ hi q] at n; cases n
    · rw [(out i hi).1]
      exact e.isb i
end
end G
/-! A6: comprehensions. -/
namespace G
open PySem PySem.Spec L2
theorem pe_ex {X : Cx} {e : Expr} {C : PP → Prop} {t : PP → TE} (h : ∀ P, C P → PE X e (t P)) : PE X e (fun σ H Q => ∃ P, C P ∧ t P σ H Q) := ⟨fun pins s σ H Q I ⟨P, c, q⟩ => (h P c).run pins s σ H Q I q⟩
theorem pts_ex {X : Cx} {e : List Expr} {C : PP → Prop} {t : PP → TT} (h : ∀ P, C P → PTs X e (t P)) : PTs X e (fun σ H Q => ∃ P, C P ∧ t P σ H Q) := ⟨fun pins s σ H Q I ⟨P, c, q⟩ => (h P c).run pins s σ H Q I q⟩
theorem pg_ex {X : Cx} {e : Expr} {C : PP → Prop} {t : PP → TG} (h : ∀ P, C P → PG X e (t P)) : PG X e (fun v σ H Q => ∃ P, C P ∧ t P v σ H Q) := ⟨fun pins s σ H v u Q I r ⟨P, c, q⟩ => (h P c).run pins s σ H v u Q I r q⟩
/-- one more object is someone else's -/
def PP.plus (P : PP) (D : Addr) (o : HO) : PP := { P with O := upd P.O D o }
section
variable {P : PP} {σ : L2.St} {H H' : Hp} {env : Env} {F F' : Hp}
theorem lent_out {p : Addr} {ds : List D} (e : EXv P σ H env F (.ref p) (.fr (.lst ds))) : ∃ vs, H p = some (.lst vs) ∧ Reps P.L F ds vs ∧ P.O p = none ∧ EX (P.plus p (.lst vs)) σ H env F := by
  obtain ⟨A, e, q, hq, ⟨hF, vs, hH, r⟩, hO, hn⟩ := e
  cases hq
  refine ⟨vs, hH, r, hO, A, ⟨e.sub, e.le0, fun a o z => ?_, e.len, e.val, fun i o z => ?_, e.ne, e.bor, e.isb, e.tb.lend (by intro _ z; cases z)⟩⟩
  · have z : upd P.O p (.lst vs) a = some o := z
    by_cases ha : a = p
    · subst ha
      rw [upd_same] at z
      cases z
      exact ⟨hH, hF⟩
    · rw [upd_ne ha] at z
      exact e.fr a o z
  · obtain ⟨h1, h2, h3⟩ := e.own i o z
    exact ⟨h1, h2, by show upd P.O p (.lst vs) (A i) = none; rw [upd_ne (hn i o z)]; exact h3⟩
theorem lent_in {p : Addr} {ds : List D} {vs ws : List V} (hO : P.O p = none) (e : EX (P.plus p (.lst vs)) σ H env F) (r : Reps P.L F ds ws) : H p = some (.lst vs) ∧ EXv P σ (upd H p (.lst ws)) env F (.ref p) (.fr (.lst ds)) := by
  obtain ⟨A, e⟩ := e
  obtain ⟨hH, hF⟩ := e.fr p (.lst vs) upd_same
  have na : ∀ (i : Nat) (o : OV), ownish env[i]? = some o → A i ≠ p := fun i o q z => by
    have := (e.own i o q).2.2
    rw [z] at this
    rw [show (P.plus p (.lst vs)).O p = some (.lst vs) from upd_same] at this
    cases this
  have nO : ∀ a o, P.O a = some o → a ≠ p := fun a o q z => by rw [z, hO] at q; cases q
  refine ⟨hH, A, ⟨fun a o q => ?_, e.le0, fun a o q => ?_, e.len, e.val, fun i o q => ?_, e.ne, e.bor, e.isb, TabOk.own (TabOk.unlend (o := .lst vs) e.tb hO) hH plain_lst⟩, p, rfl, ⟨hF, ws, upd_same, r⟩, hO, na⟩
  · rw [upd_ne (fun z => by rw [z, hF] at q; cases q)]
    exact e.sub a o q
  · rw [upd_ne (nO a o q)]
    exact e.fr a o (by show upd P.O p (.lst vs) a = some o; rw [upd_ne (nO a o q)]; exact q)
  · obtain ⟨h1, h2, h3⟩ := e.own i o q
    refine ⟨h1, h2.step (LeH.refl F) h2.none (fun u z => by rw [upd_ne (na i o q)]; exact z), ?_⟩
    have h3 : upd P.O p (.lst vs) (A i) = none := h3
    rw [upd_ne (na i o q)] at h3
    exact h3
theorem EXv.wipe {v : V} {r : RV} {vs : List Nat} (e : EXv P σ H env F v r) (h : NoB P vs) : EXv P (L2.wipe σ vs) H (wipeE env vs) F v r := by
  obtain ⟨A, e, q⟩ := e
  refine ⟨A, e.wipe h, ?_⟩
  cases r with
  | val d => exact q
  | fr o =>
    obtain ⟨p, rfl, h1, h2, h3⟩ := q
    refine ⟨p, rfl, h1, h2, fun i u hu => ?_⟩
    have : ownish env[i]? = some u := by
      rw [wipeE_at] at hu
      by_cases c : i ∈ vs ∧ i < env.length
      · rw [if_pos c] at hu; cases hu
      · rw [if_neg c] at hu; exact hu
    exact h3 i u this
theorem EXv.unwipe {v : V} {r : RV} {vs : List Nat} {env0 : Env} {H0 F0 : Hp} (e0 : EX P σ H0 env0 F0) (m : LeH F0 F) (h : noOwn env0 vs = true) (e : EXv P (L2.wipe σ vs) H env F v r) : EXv P σ H (G.unwipe env0 env vs) F v r := by
  obtain ⟨A, e, q⟩ := e
  obtain ⟨A0, e0⟩ := e0
  refine ⟨A, e0.unwipe m h e, ?_⟩
  cases r with
  | val d => exact q
  | fr o =>
    obtain ⟨p, rfl, h1, h2, h3⟩ := q
    refine ⟨p, rfl, h1, h2, fun i u hu => ?_⟩
    by_cases hi : i ∈ vs
    · have n := noOwn_at h hi
      rw [unwipe_at] at hu
      by_cases c : i ∈ vs ∧ i < env.length
      · rw [if_pos c] at hu
        cases w : env0[i]? with
        | none => rw [w] at hu; cases hu
        | some y => rw [w] at hu n; rw [show ownish (some y) = some u from hu] at n; cases n
      · rw [if_neg c] at hu
        exact h3 i u hu
    · rw [unwipe_at, if_neg fun z => hi z.1] at hu
      exact h3 i u hu
end
section
variable {X : Cx} {P : PP} {Γ : Fns} {Xp : XP} {pos : Pos}
def XF : XP := fun _ _ => False
def tEx (Γ : Fns) (L : Lay) (m : E) : TE := fun σ H Q => ∃ P, P.L = L ∧ tE P Γ XF m σ H Q
def tTx (Γ : Fns) (L : Lay) (m : T) : TT := fun σ H Q => ∃ P, P.L = L ∧ tT P Γ XF m σ H Q
def gTx (L : Lay) (t : Tg) : TG := fun v σ H Q => ∃ P, P.L = L ∧ gT P t v σ H Q
theorem lc_imp {elt : E} {t : Tg} {it : I} {cond : T} {own : List Nat} (hs : ∀ i ∈ slots t, i ∈ own) {σ : L2.St} {H : Hp} {Q : VK} (h : tE P Γ Xp (.lc elt t it cond own) σ H Q) :
    tLc (tI P Γ Xp it) (gTx P.L t) (tTx Γ P.L cond) (tEx Γ P.L elt) own σ H Q := by
  obtain ⟨env, F, R, ex, w, k⟩ := h
  simp only [wE] at w
  refine ⟨env, F, _, ex, w, fun ds env1 H1 F1 J q m e hl hJ => ?_⟩
  obtain ⟨hno, q⟩ := q
  have nb : NoB P own := by obtain ⟨A, e⟩ := e; exact e.noB hno
  intro da hD
  generalize ht : (fun (d : D) (env2 : Env) (R : Option D → Env → Prop) => asg t d env2 fun env3 => wT Γ cond env3 (fun _ _ => False) fun b env4 =>
          if b = true then wE Γ elt env4 (fun _ _ => False) fun r env5 => R (some r.toD) (wipeE env5 own) else R none (wipeE env4 own)) = turn at q
  refine ⟨fun i m H => ∃ env' F' acc, m = ds.length - i ∧ i ≤ ds.length ∧ acc.length ≤ i ∧ LeH F1 F' ∧ EXv P (wipe σ own) H env' F' (.ref da) (.fr (.lst acc)) ∧
    lcW turn (fun acc env6 => R (.fr (.lst acc)) (unwipe env1 env6 own)) (ds.drop i) acc env', ⟨ds.length, _, F1, [], rfl, Nat.zero_le _, Nat.le_refl _, LeH.refl F1, (e.fresh (vs := []) (ds := []) hD rfl).wipe nb, q⟩, ?_⟩
  rintro i mm H2 ⟨env2, F2, acc, rfl, hi, hacc, m2, e2, q2⟩
  by_cases hlt : i < ds.length
  · refine .inr ?_
    have hd : ds[i]? = some ds[i] := List.getElem?_eq_getElem hlt
    rw [List.drop_eq_getElem_cons hlt] at q2
    simp only [lcW] at q2
    obtain ⟨vs, hH, rp, hO, e2'⟩ := lent_out e2
    obtain ⟨hgo, hy⟩ := hJ.2 i ds[i] hd F2 H2 m2 e2'.sub
    refine ⟨hgo, fun H' => ∃ env' F' acc, i + 1 ≤ ds.length ∧ acc.length ≤ i + 1 ∧ LeH F1 F' ∧ EXv P (wipe σ own) H' env' F' (.ref da) (.fr (.lst acc)) ∧ lcW turn (fun acc env6 => R (.fr (.lst acc)) (unwipe env1 env6 own)) (ds.drop (i + 1)) acc env',
      fun H' ⟨env', F', acc', a1, a2, a3, a4, a5⟩ => ⟨ds.length - (i + 1), by omega, env', F', acc', rfl, a1, a2, a3, a4, a5⟩, fun x H3 y => ?_⟩
    obtain ⟨F3, m3, s3, kp, nt, rx⟩ := hy x H3 y
    have e3 : EX (P.plus da (.lst vs)) (wipe σ own) H3 env2 F3 := by
      obtain ⟨A, e⟩ := e2'
      refine ⟨A, s3, e.le0.trans m3, fun a o z => ?_, e.len, fun j d z => ?_, fun j o z => ?_, e.ne, e.bor, e.isb, e.tb.step (fun a o z => (kp a o z).1) nt⟩
      · obtain ⟨h1, h2⟩ := e.fr a o z
        obtain ⟨h3, h4⟩ := kp a o h1
        exact ⟨h3, by rw [h4]; exact h2⟩
      · obtain ⟨v, h1, h2⟩ := e.val j d z
        exact ⟨v, h1, Rep.mono m3 _ _ h2⟩
      · obtain ⟨h1, h2, h3⟩ := e.own j o z
        obtain ⟨u, hu⟩ := h2.there
        obtain ⟨h4, h5⟩ := kp _ u hu
        exact ⟨h1, h2.step m3 (by rw [h5]; exact h2.none) (fun w z => by rw [hu] at z; cases z; exact h4), h3⟩
    rw [← ht] at q2
    refine ⟨P.plus da (.lst vs), rfl, env2, F3, ds[i], _, e3, rx, q2, fun σ4 env4 q4 e4 so => ?_⟩
    refine ⟨wipe_same so hs, P.plus da (.lst vs), rfl, env4, F3, _, e4, q4, fun b env5 H5 F5 q5 m5 e5 => ?_⟩
    have wp : wipe σ4 own = wipe σ own := wipe_same so hs
    cases b with
    | true =>
      dsimp only at q5
      rw [if_pos rfl] at q5
      refine iteT ?_
      refine ⟨P.plus da (.lst vs), rfl, env5, F5, _, e5, q5, fun r env6 y6 H6 F6 q6 m6 e6 => ?_⟩
      obtain ⟨F7, m7, r7, e7⟩ := e6.freeze
      obtain ⟨h1, h2⟩ := lent_in (ds := acc ++ [r.toD]) (ws := vs ++ [y6]) hO e7 (Reps.append (Reps.mono (((m3.trans m5).trans m6).trans m7) _ _ rp) ⟨y6, [], rfl, r7, rfl⟩)
      have hv : vs.length ≤ i := by rw [rp.length]; exact hacc
      refine ⟨vs, h1, by rw [← line_eq]; omega, wipeE env6 own, F7, acc ++ [r.toD], hlt, by rw [List.length_append, List.length_singleton]; omega, ((((m2.trans m3).trans m5).trans m6).trans m7), ?_, ?_⟩
      · rw [← wp]
        exact h2.wipe nb
      · rw [← ht]; exact q6
    | false =>
      dsimp only at q5
      rw [if_neg (by decide)] at q5
      refine iteF ?_
      obtain ⟨h1, h2⟩ := lent_in (ds := acc) (ws := vs) hO e5 (Reps.mono (m3.trans m5) _ _ rp)
      have hh : upd H5 da (.lst vs) = H5 := by
        funext b
        by_cases hb : b = da
        · rw [hb, upd_same, h1]
        · rw [upd_ne hb]
      rw [hh] at h2
      refine ⟨wipeE env5 own, F5, acc, hlt, by omega, (m2.trans m3).trans m5, ?_, ?_⟩
      · rw [← wp]
        exact h2.wipe nb
      · rw [← ht]; exact q5
  · have hi' : i = ds.length := by omega
    subst hi'
    rw [List.drop_length] at q2
    simp only [lcW] at q2
    refine .inl ⟨?_, ?_⟩
    · obtain ⟨vs, hH, rp, hO, e2'⟩ := lent_out e2
      obtain ⟨A, e⟩ := e2'
      exact hJ.1 H2 (m2.trans e.sub)
    · exact k _ _ _ H2 F2 q2 (m.trans m2) (EXv.unwipe e m2 hno e2)
end
end G
/-! A7: statements. -/
namespace G
open PySem PySem.Spec L2
structure KR (P : PP) (Dn : Ends) (k : K) : Prop where
  nx : ∀ σ' H' env' F', k.nx env' → EX P σ' H' env' F' → Dn.nx σ' H'
  rt : ∀ σ' r env' v H' F', k.rt r env' → EXv P σ' H' env' F' v r → Dn.rt v H'
  bk : ∀ σ' H' env' F', k.bk env' → EX P σ' H' env' F' → Dn.bk σ' H'
  ct : ∀ σ' H' env' F', k.ct env' → EX P σ' H' env' F' → Dn.ct σ' H'
def tS (P : PP) (Γ : Fns) (Xp : XP) (m : S) : TS := fun Dn σ H => ∃ env F k, EX P σ H env F ∧ wS Γ m env Xp k ∧ KR P Dn k
def tSs (P : PP) (Γ : Fns) (Xp : XP) (ms : List S) : TS := fun Dn σ H => ∃ env F k, EX P σ H env F ∧ wSs Γ ms env Xp k ∧ KR P Dn k
/-- P' says more than P -/
structure PLe (P' P : PP) : Prop where
  L : P'.L = P.L
  ex : ∀ A σ H env F, ER P' A σ H env F → ER P A σ H env F
theorem PLe.refl (P : PP) : PLe P P := ⟨rfl, fun _ _ _ _ _ h => h⟩
theorem PLe.trans {P Q R : PP} (a : PLe P Q) (b : PLe Q R) : PLe P R := ⟨a.L.trans b.L, fun A σ H env F h => b.ex A σ H env F (a.ex A σ H env F h)⟩
theorem PLe.F0 {P : PP} {F : Hp} (m : LeH P.F0 F) : PLe { P with F0 := F } P := ⟨rfl, fun A σ H env F' e => ⟨e.sub, m.trans e.le0, e.fr, e.len, e.val, e.own, e.ne, e.bor, e.isb, e.tb⟩⟩
theorem PLe.plus {P : PP} {p : Addr} {o : HO} (h : P.O p = none) : PLe (P.plus p o) P := ⟨rfl, fun A σ H env F' e => ⟨e.sub, e.le0, fun a u q => e.fr a u (by
  show upd P.O p o a = some u
  rw [upd_ne (ne_of_none q h)]
  exact q), e.len, e.val, fun i u q => by
    obtain ⟨h1, h2, h3⟩ := e.own i u q
    refine ⟨h1, h2, ?_⟩
    have h3 : upd P.O p o (A i) = none := h3
    by_cases z : A i = p
    · rw [z]; exact h
    · rw [upd_ne z] at h3; exact h3, e.ne, e.bor, e.isb, TabOk.unlend (o := o) e.tb h⟩⟩
theorem PLe.wx {P' P : PP} (h : PLe P' P) {Xp : XP} : ∀ c d σ H, WXo P' Xp c d σ H → WXo P Xp c d σ H := fun c d σ H ⟨env, F, x, ⟨A, e⟩, r, q⟩ => ⟨env, F, x, ⟨A, h.ex _ _ _ _ _ e⟩, by rw [← h.L]; exact r, q⟩

section
variable {X : Cx} {P : PP} {Γ : Fns} {Xp : XP} {pos : Pos} {x y z tg : Expr} {a b c : E}
/-- a slot is given a new object -/
theorem ER.setOwn {A : Nat → Addr} {σ : L2.St} {H : Hp} {env : Env} {F : Hp} (e : ER P A σ H env F) {i : Nat} {y : Option EV} (hy : env[i]? = some y) (nb : ∀ o, y ≠ some (.bor o)) {p : Addr} {o : OV} (hO : OwnAt P.L F H p o) (hP : P.O p = none)
    (hn : ∀ (j : Nat) (u : OV), ownish env[j]? = some u → A j ≠ p) : ER P (fun j => if j = i then p else A j) (σ.set i (some (.ref p))) H (env.set i (some (.own o))) F := by
  have hi : i < env.length := (List.getElem?_eq_some_iff.mp hy).1
  have hs : i < σ.length := by rw [← e.len]; exact hi
  have own : ∀ (j : Nat) (u : OV), i ≠ j → ownish (env.set i (some (.own o)))[j]? = some u → ownish env[j]? = some u := fun j u ij q => by rw [get_set_ne ij] at q; exact q
  refine ⟨e.sub, e.le0, e.fr, by rw [List.length_set, List.length_set]; exact e.len, fun j d' q => ?_, fun j u q => ?_, fun j k u w q1 q2 n => ?_, fun j u q => ?_, fun j => ?_, e.tb⟩
  · have ij : i ≠ j := fun z => by subst z; rw [get_set_self hy] at q; cases q
    rw [get_set_ne ij] at q
    obtain ⟨w, h1, h2⟩ := e.val j d' q
    exact ⟨w, by rw [List.getElem?_set_ne ij]; exact h1, h2⟩
  · by_cases ij : i = j
    · subst ij
      rw [get_set_self hy] at q
      cases q
      rw [if_pos rfl]
      exact ⟨set_self hs, hO, hP⟩
    · rw [if_neg (Ne.symm ij), List.getElem?_set_ne ij]
      exact e.own j u (own j u ij q)
  · by_cases ij : j = i
    · by_cases ik : k = i
      · exact absurd (ij.trans ik.symm) n
      · rw [if_pos ij, if_neg ik]
        exact fun z => hn k w (own k w (Ne.symm ik) q2) z.symm
    · by_cases ik : k = i
      · rw [if_neg ij, if_pos ik]
        exact hn j u (own j u (Ne.symm ij) q1)
      · rw [if_neg ij, if_neg ik]
        exact e.ne j k u w (own j u (Ne.symm ij) q1) (own k w (Ne.symm ik) q2) n
  · have ij : i ≠ j := fun z => by subst z; rw [get_set_self hy] at q; cases q
    rw [get_set_ne ij] at q
    rw [if_neg (Ne.symm ij)]
    exact e.bor j u q
  · rw [e.isb j]
    by_cases ij : i = j
    · subst ij
      rw [get_set_self hy, hy]
      constructor
      · rintro ⟨u, q⟩; exact absurd (Option.some.inj q) (nb u)
      · rintro ⟨u, q⟩; cases q
    · rw [get_set_ne ij]
theorem EXv.set {σ : L2.St} {H : Hp} {env : Env} {F : Hp} {v : V} {r : RV} {i : Nat} {R : Env → Prop} (e : EXv P σ H env F v r) (h : setS env i r.toEV R) : ∃ env', R env' ∧ EX P (σ.set i (some v)) H env' F := by
  obtain ⟨y, hy, nb, h⟩ := setS_cases h
  obtain ⟨A, e, q⟩ := e
  cases r with
  | val d => exact ⟨_, h, A, e.setVal hy nb q⟩
  | fr o =>
    obtain ⟨p, rfl, h1, h2, h3⟩ := q
    exact ⟨_, h, _, e.setOwn hy nb h1 h2 h3⟩
theorem asg_imp {e : E} {i : Nat} {Dn : Ends} {σ : L2.St} {H : Hp} (h : tS P Γ Xp (.asg i e) Dn σ H) : tAsg (tE P Γ Xp e) (gName i) Dn σ H := by
  obtain ⟨env, F, k, ex, w, kr⟩ := h
  simp only [wS] at w
  refine ⟨env, F, _, ex, w, fun r env1 v H1 F1 q m e1 => ?_⟩
  obtain ⟨env2, q2, e2⟩ := e1.set q
  exact kr.nx _ H1 env2 F1 q2 e2
theorem s_asgT {t : Tg} (he : PE X x (tE P Γ Xp a)) (hg : PG X tg (gT P t)) (hs : swapsWithSole [tg] x pos.line X.env = pure false) (hw : swappedStores [tg] x X.env = pure none) (h1 : (assignEach [tg] X.env).map (·.2) = [assign tg X.env]) :
    PS X (.Assign [tg] x pos) (tS P Γ Xp (.asgT t a)) := ps_imp (ps_asg he hg hs hw h1) fun Dn σ H h => by
  obtain ⟨env, F, k, ex, w, kr⟩ := h
  simp only [wS] at w
  refine ⟨env, F, _, ex, w, fun r env1 v H1 F1 q m e1 => ?_⟩
  obtain ⟨F2, m2, rp, e2⟩ := e1.freeze
  exact ⟨env1, F2, _, _, e2, rp, q, fun σ' env' q' e' _ => kr.nx σ' H1 env' F2 q' e'⟩
theorem s_ex (he : PE X x (tE P Γ Xp a)) (hs : swapsWith x none pos.line X.env = pure false) : PS X (.Expr x pos) (tS P Γ Xp (.ex a)) := ps_imp (ps_expr he hs) fun Dn σ H h => by
  obtain ⟨env, F, k, ex, w, kr⟩ := h
  simp only [wS] at w
  exact ⟨env, F, _, ex, w, fun r env1 v H1 F1 q m e1 => kr.nx σ H1 env1 F1 q e1.ex⟩
theorem s_retV {i : Nat} (h : PE X x (tVar i)) : PS X (.Return (some x) pos) (tS P Γ Xp (.ret (.var i))) := ps_imp (ps_ret h) fun Dn σ H h => by
  obtain ⟨env, F, k, ⟨A, e⟩, w, kr⟩ := h
  simp only [wS] at w
  cases hx : env[i]? with
  | none => rw [hx] at w; exact w.elim
  | some y => cases y with
    | none => rw [hx] at w; exact w.elim
    | some z =>
      rw [hx] at w
      cases z with
      | val d =>
        obtain ⟨v, h1, h2⟩ := e.val i d hx
        exact ⟨v, h1, kr.rt σ _ _ v H F w ⟨A, e, h2⟩⟩
      | own o =>
        obtain ⟨h1, h2, h3⟩ := e.own i o (by rw [hx]; rfl)
        have own : ∀ (j : Nat) (u : OV), ownish (env.set i none)[j]? = some u → i ≠ j ∧ ownish env[j]? = some u := fun j u q => by
          by_cases ij : i = j
          · subst ij; rw [get_set_self hx] at q; cases q
          · rw [get_set_ne ij] at q; exact ⟨ij, q⟩
        have ni : ∀ (j : Nat) (z : EV), (env.set i none)[j]? = some (some z) → env[j]? = some (some z) := fun j z q => by
          by_cases ij : i = j
          · subst ij; rw [get_set_self hx] at q; cases q
          · rw [get_set_ne ij] at q; exact q
        refine ⟨_, h1, kr.rt σ _ _ _ H F w ⟨A, ⟨e.sub, e.le0, e.fr, by rw [List.length_set]; exact e.len, fun j d q => e.val j d (ni j _ q), fun j u q => e.own j u (own j u q).2, fun j k u z q1 q2 => e.ne j k u z (own j u q1).2 (own k z q2).2, fun j u q => e.bor j u (ni j _ q), fun j => ?_, e.tb⟩, _, rfl, h2, h3, fun j u q => ?_⟩⟩
        · rw [e.isb j]
          by_cases ij : i = j
          · subst ij
            rw [get_set_self hx, hx]
            constructor
            · rintro ⟨u, q⟩; cases q
            · rintro ⟨u, q⟩; cases q
          · rw [get_set_ne ij]
        · obtain ⟨ij, q⟩ := own j u q
          exact e.ne j i u o q (by rw [hx]; rfl) (Ne.symm ij)
      | bor o => exact w.elim
theorem s_ret (hv : ∀ i, a ≠ .var i) (he : PE X x (tE P Γ Xp a)) : PS X (.Return (some x) pos) (tS P Γ Xp (.ret a)) := ps_imp (ps_ret he) fun Dn σ H h => by
  obtain ⟨env, F, k, ex, w, kr⟩ := h
  have w : wE Γ a env Xp k.rt := by
    cases a <;> first
      | exact absurd rfl (hv _)
      | exact w
  exact ⟨env, F, _, ex, w, fun r env1 v H1 F1 q m e1 => kr.rt σ r env1 v H1 F1 q e1⟩
theorem s_retN : PS X (.Return none pos) (tS P Γ Xp .retN) := ps_imp ps_retN fun Dn σ H h => by
  obtain ⟨env, F, k, ex, w, kr⟩ := h
  simp only [wS] at w
  exact kr.rt σ _ env .non H F w (ex.pure rfl)
theorem s_brk : PS X (.Break pos) (tS P Γ Xp .brk) := ps_imp ps_break fun Dn σ H h => by
  obtain ⟨env, F, k, ex, w, kr⟩ := h
  simp only [wS] at w
  exact kr.bk σ H env F w ex
theorem s_cnt : PS X (.Continue pos) (tS P Γ Xp .cnt) := ps_imp ps_continue fun Dn σ H h => by
  obtain ⟨env, F, k, ex, w, kr⟩ := h
  simp only [wS] at w
  exact kr.ct σ H env F w ex
theorem s_pass : PS X (.Pass pos) (tS P Γ Xp .pass) := ps_imp ps_pass fun Dn σ H h => by
  obtain ⟨env, F, k, ex, w, kr⟩ := h
  simp only [wS] at w
  exact kr.nx σ H env F w ex
theorem s_doc {s : Str} {j : Nat} {pos' : Pos} : PS X (.Expr (.Constant (.str s) j pos) pos') (tS P Γ Xp .pass) := ps_imp ps_doc fun Dn σ H h => by
  obtain ⟨env, F, k, ex, w, kr⟩ := h
  simp only [wS] at w
  exact kr.nx σ H env F w ex
theorem s_ite {t : T} {as bs : List S} {xs ys : List Stmt} (hc : PT X x (tT P Γ Xp t)) (ha : PSs X xs (tSs P Γ Xp as)) (hb : PSs X ys (tSs P Γ Xp bs)) : PS X (.If x xs ys pos) (tS P Γ Xp (.ite t as bs)) := ps_imp (ps_if hc ha hb) fun Dn σ H h => by
  obtain ⟨env, F, k, ex, w, kr⟩ := h
  simp only [wS] at w
  refine ⟨env, F, _, ex, w, fun b env1 H1 F1 q m e1 => ?_⟩
  cases b with
  | true => exact ⟨env1, F1, k, e1, q, kr⟩
  | false => exact ⟨env1, F1, k, e1, q, kr⟩
theorem ss_nil : PSs X [] (tSs P Γ Xp []) := pss_imp pss_nil fun Dn σ H h => by
  obtain ⟨env, F, k, ex, w, kr⟩ := h
  simp only [wSs] at w
  exact kr.nx σ H env F w ex
theorem ss_cons {s : Stmt} {ss : List Stmt} {m : S} {ms : List S} (h1 : PS X s (tS P Γ Xp m)) (h2 : PSs X ss (tSs P Γ Xp ms)) : PSs X (s :: ss) (tSs P Γ Xp (m :: ms)) := pss_imp (pss_cons h1 h2) fun Dn σ H h => by
  obtain ⟨env, F, k, ex, w, kr⟩ := h
  simp only [wSs] at w
  exact ⟨env, F, _, ex, w, ⟨fun σ' H' env' F' q e => ⟨env', F', k, e, q, kr⟩, kr.rt, kr.bk, kr.ct⟩⟩
theorem pss_ex {e : List Stmt} {C : PP → Prop} {t : PP → TS} (h : ∀ P, C P → PSs X e (t P)) : PSs X e (fun Dn σ H => ∃ P, C P ∧ t P Dn σ H) := ⟨fun pins s σ H Dn I ⟨P, c, q⟩ => (h P c).run pins s σ H Dn I q⟩
theorem s_for {t : Tg} {it : I} {body : List S} {xs : List Stmt} (hp : PassesOwn (model X.prog X.w) X.A X.env X.xe) (hc : X.calm = true) (hi : PI X tg x (tI P Γ Xp it)) (hg : ∀ P', PLe P' P → PG X tg (gT P' t)) (hb : ∀ P', PLe P' P → PSs X xs (tSs P' Γ Xp body))
    (hs : ∀ u, foldedSetIterable x X.env u = pure u) : PS X (.For tg x xs [] pos) (tS P Γ Xp (.for_ t it body)) :=
  ps_imp (ps_for hp hc hi (pg_ex (C := fun P' => PLe P' P) (t := fun P' => gT P' t) hg) (pss_ex (C := fun P' => PLe P' P) (t := fun P' => tSs P' Γ Xp body) hb) hs) fun Dn σ H h => by
  obtain ⟨env, F, k, ex, w, kr⟩ := h
  simp only [wS] at w
  refine ⟨env, F, _, ex, w, fun ds env1 H1 F1 J q m e1 hl hJ => ?_⟩
  have pl : PLe { P with F0 := F1 } P := by obtain ⟨A, e⟩ := e1; exact PLe.F0 e.le0
  have e1' : EX { P with F0 := F1 } σ H1 env1 F1 := by
    obtain ⟨A, e⟩ := e1
    exact ⟨A, e.sub, LeH.refl F1, e.fr, e.len, e.val, e.own, e.ne, e.bor, e.isb, e.tb⟩
  generalize ht : (fun (d : D) (env2 : Env) (R : Env → Prop) => asg t d env2 fun env3 => wSs Γ body env3 Xp { k with nx := R, ct := R, bk := k.nx }) = turn at q
  refine ⟨fun i m σ H => ∃ env' F', m = ds.length - i ∧ i ≤ ds.length ∧ EX { P with F0 := F1 } σ H env' F' ∧ forW turn k.nx (ds.drop i) env', ⟨ds.length, env1, F1, rfl, Nat.zero_le _, e1', q⟩, ?_⟩
  rintro i mm σ2 H2 ⟨env2, F2, rfl, hi2, e2, q2⟩
  have m2 : LeH F1 F2 := by obtain ⟨A, e⟩ := e2; exact e.le0
  by_cases hlt : i < ds.length
  · refine .inr ?_
    have hd : ds[i]? = some ds[i] := List.getElem?_eq_getElem hlt
    rw [List.drop_eq_getElem_cons hlt] at q2
    simp only [forW] at q2
    obtain ⟨hgo, hy⟩ := hJ.2 i ds[i] hd F2 H2 m2 e2.sub
    refine ⟨hgo, fun σ' H' => ∃ env' F', i + 1 ≤ ds.length ∧ EX { P with F0 := F1 } σ' H' env' F' ∧ forW turn k.nx (ds.drop (i + 1)) env', fun σ' H' ⟨env', F', a1, a2, a3⟩ => ⟨ds.length - (i + 1), by omega, env', F', rfl, a1, a2, a3⟩, fun v H3 y => ?_⟩
    obtain ⟨F3, m3, s3, kp, nt, rx⟩ := hy v H3 y
    have e3 : EX { P with F0 := F1 } σ2 H3 env2 F3 := by
      obtain ⟨A, e⟩ := e2
      refine ⟨A, s3, e.le0.trans m3, fun a o z => ?_, e.len, fun j d z => ?_, fun j o z => ?_, e.ne, e.bor, e.isb, e.tb.step (fun a o z => (kp a o z).1) nt⟩
      · obtain ⟨h1, h2⟩ := e.fr a o z
        obtain ⟨h3, h4⟩ := kp a o h1
        exact ⟨h3, by rw [h4]; exact h2⟩
      · obtain ⟨v, h1, h2⟩ := e.val j d z
        exact ⟨v, h1, Rep.mono m3 _ _ h2⟩
      · obtain ⟨h1, h2, h3⟩ := e.own j o z
        obtain ⟨u, hu⟩ := h2.there
        obtain ⟨h4, h5⟩ := kp _ u hu
        exact ⟨h1, h2.step m3 (by rw [h5]; exact h2.none) (fun w z => by rw [hu] at z; cases z; exact h4), h3⟩
    rw [← ht] at q2
    refine ⟨{ P with F0 := F1 }, pl, env2, F3, ds[i], _, e3, rx, q2, fun σ4 env4 q4 e4 so => ?_⟩
    refine ⟨{ P with F0 := F1 }, pl, env4, F3, _, e4, q4, ⟨fun σ' H' env' F' q e => ?_, fun σ' r env' v H' F' q e => ?_, fun σ' H' env' F' q e => ?_, fun σ' H' env' F' q e => ?_⟩⟩
    · exact ⟨env', F', hlt, e, by rw [← ht]; exact q⟩
    · obtain ⟨A, e, rv⟩ := e
      refine kr.rt σ' r env' v H' F' q ⟨A, pl.ex _ _ _ _ _ e, ?_⟩
      cases r with
      | val d => exact rv
      | fr o => exact rv
    · obtain ⟨A, e⟩ := e
      exact kr.nx σ' H' env' F' q ⟨A, pl.ex _ _ _ _ _ e⟩
    · exact ⟨env', F', hlt, e, by rw [← ht]; exact q⟩
  · have hi' : i = ds.length := by omega
    subst hi'
    rw [List.drop_length] at q2
    simp only [forW] at q2
    obtain ⟨A, e⟩ := e2
    exact .inl ⟨hJ.1 H2 (m2.trans e.sub), kr.nx σ2 H2 env2 F2 q2 ⟨A, pl.ex _ _ _ _ _ e⟩⟩
theorem s_while {t : T} {body : List S} {xs : List Stmt} (hp : PassesOwn (model X.prog X.w) X.A X.env X.xe) (hc : PT X x (tT P Γ Xp t)) (hb : PSs X xs (tSs P Γ Xp body)) : PS X (.While x xs [] pos) (tS P Γ Xp (.while_ t body)) := ps_imp (ps_while hp hc hb) fun Dn σ H h => by
  obtain ⟨env, F, k, ex, w, kr⟩ := h
  simp only [wS] at w
  obtain ⟨n, w⟩ := w
  generalize ht : (fun (env2 : Env) (R : Env → Prop) => wT Γ t env2 Xp fun b env3 => if b = true then wSs Γ body env3 Xp { k with nx := R, ct := R, bk := k.nx } else k.nx env3) = turn at w
  refine ⟨fun n σ H => ∃ env F, EX P σ H env F ∧ whileW turn n env, ⟨n, env, F, ex, w⟩, ?_⟩
  rintro m σ2 H2 ⟨env2, F2, e2, w2⟩
  cases m with
  | zero => exact w2.elim
  | succ m =>
    simp only [whileW] at w2
    have w3 : wT Γ t env2 Xp fun b env3 => if b = true then wSs Γ body env3 Xp { k with nx := whileW turn m, ct := whileW turn m, bk := k.nx } else k.nx env3 := by
      rw [← ht] at w2 ⊢
      exact w2
    refine ⟨env2, F2, _, e2, w3, fun b env3 H3 F3 q3 m3 e3 => ?_⟩
    cases b with
    | true =>
      exact iteT ⟨fun σ' H' => ∃ env F, EX P σ' H' env F ∧ whileW turn m env, fun σ' H' ⟨env, F, e, w⟩ => ⟨m, Nat.lt_succ_self m, env, F, e, w⟩, env3, F3, { k with nx := whileW turn m, ct := whileW turn m, bk := k.nx }, e3, by simpa using q3,
        ⟨fun σ' H' env' F' q e => ⟨env', F', e, q⟩, kr.rt, kr.nx, fun σ' H' env' F' q e => ⟨env', F', e, q⟩⟩⟩
    | false => exact iteF (kr.nx _ H3 env3 F3 (by simpa using q3) e3)
end
end G
/-! A8: stores at an index, several targets at once. -/
namespace G
open PySem PySem.Spec L2
section
variable {X : Cx} {P : PP} {Γ : Fns} {Xp : XP} {pos : Pos} {x y z tg : Expr} {a b c : E}
/-- one's own object changes -/
theorem ER.write {A : Nat → Addr} {σ : L2.St} {H : Hp} {env : Env} {F : Hp} (e : ER P A σ H env F) {i : Nat} {z : EV} {o o' : OV} (hz : env[i]? = some (some z)) (ho : ownish (some (some z)) = some o) {u : HO} (h' : OwnAt P.L F (upd H (A i) u) (A i) o') :
    ER P A σ (upd H (A i) u) (env.set i (some (z.put o'))) F := by
  have hoo : ownish env[i]? = some o := by rw [hz]; exact ho
  obtain ⟨q1, q2, q3⟩ := e.own i o hoo
  have put : ownish (some (some (z.put o'))) = some o' := by cases z <;> rfl
  have own : ∀ (j : Nat) (w : OV), ownish (env.set i (some (z.put o')))[j]? = some w → ∃ w', ownish env[j]? = some w' := fun j w q => by
    by_cases ij : i = j
    · subst ij; exact ⟨o, hoo⟩
    · rw [get_set_ne ij] at q; exact ⟨w, q⟩
  obtain ⟨u0, hu0⟩ := q2.there
  refine ⟨fun a w q => ?_, e.le0, fun a w q => ?_, by rw [List.length_set]; exact e.len, fun j d q => ?_, fun j w q => ?_, fun j k w w' h1 h2 n => ?_, fun j w q => ?_, fun j => ?_, e.tb.own hu0 (q2.plain hu0)⟩
  · rw [upd_ne (fun z => by rw [z, q2.none] at q; cases q)]
    exact e.sub a w q
  · rw [upd_ne (fun z => by rw [z, q3] at q; cases q)]
    exact e.fr a w q
  · have ij : i ≠ j := fun zz => by
      subst zz
      rw [get_set_self hz] at q
      cases z <;> cases q
    rw [get_set_ne ij] at q
    exact e.val j d q
  · by_cases ij : i = j
    · subst ij
      rw [get_set_self hz, put] at q
      cases q
      exact ⟨q1, h', q3⟩
    · rw [get_set_ne ij] at q
      obtain ⟨h1, h2, h3⟩ := e.own j w q
      refine ⟨h1, h2.step (LeH.refl F) h2.none (fun u hu => ?_), h3⟩
      rw [upd_ne (e.ne j i w o q hoo (Ne.symm ij))]
      exact hu
  · obtain ⟨a1, h1⟩ := own j w h1
    obtain ⟨a2, h2⟩ := own k w' h2
    exact e.ne j k a1 a2 h1 h2 n
  · by_cases ij : i = j
    · subst ij
      rw [get_set_self hz] at q
      cases z with
      | val d => cases q
      | own w => cases q
      | bor w => exact e.bor i w hz
    · rw [get_set_ne ij] at q
      exact e.bor j w q
  · rw [e.isb j]
    by_cases ij : i = j
    · subst ij
      rw [get_set_self hz, hz]
      cases z with
      | val d => cases ho
      | own w =>
        constructor
        · rintro ⟨u, q⟩; cases q
        · rintro ⟨u, q⟩; cases q
      | bor w => exact ⟨fun _ => ⟨o', rfl⟩, fun _ => ⟨w, rfl⟩⟩
    · rw [get_set_ne ij]
theorem EX.slot {σ : L2.St} {H : Hp} {env : Env} {F : Hp} (e : EX P σ H env F) {i : Nat} {z : EV} (h : env[i]? = some (some z)) : ∃ v, σ[i]? = some (some v) := by
  obtain ⟨A, e⟩ := e
  cases z with
  | val d => obtain ⟨v, h, _⟩ := e.val i d h; exact ⟨v, h⟩
  | own o => exact ⟨_, (e.own i o (by rw [h]; rfl)).1⟩
  | bor o => exact ⟨_, (e.own i o (by rw [h]; rfl)).1⟩
theorem put_core {σ : L2.St} {H : Hp} {env : Env} {F : Hp} {i : Nat} {n : Int} {d : D} {v w : V} {R : Env → Prop} {Q : Hp → Prop} (e : EX P σ H env F) (hs : σ[i]? = some (some w)) (r : Rep P.L F d v) (h : putW env i n d R) (k : ∀ H' env', R env' → EX P σ H' env' F → Q H') :
    rSetL w (.int n) v H Q := by
  obtain ⟨A, e⟩ := e
  have go : ∀ (z : EV) (xs : List D) (j : Nat), env[i]? = some (some z) → ownish (some (some z)) = some (.lst xs) → ixN xs.length n = some j → R (env.set i (some (z.put (.lst (xs.set j d))))) → rSetL w (.int n) v H Q := fun z xs j hz ho hj q => by
    obtain ⟨h1, h2, h3⟩ := e.own i (.lst xs) (by rw [hz]; exact ho)
    rw [hs] at h1
    cases h1
    obtain ⟨hF, vs, hH, rp⟩ := id h2
    refine ⟨_, vs, n, j, rfl, rfl, hH, by rw [rp.length]; exact hj, k _ _ q ⟨A, e.write hz ho ⟨hF, _, upd_same, Reps.set r j rp⟩⟩⟩
  unfold putW at h
  split at h
  · obtain ⟨j, hj, q⟩ := h
    exact go (.own (.lst _)) _ j (by assumption) rfl hj q
  · obtain ⟨j, hj, q⟩ := h
    exact go (.bor (.lst _)) _ j (by assumption) rfl hj q
  · exact h.elim
/-- name[ix] = e -/
theorem s_put {i : Nat} {tpos : Pos} (ho : PE X z (tVar i)) (hi : PE X x (tO P Γ Xp b)) (he : PE X y (tE P Γ Xp a)) (hg : PG X (.Subscript z x tpos) (gSub (tVar i) (tO P Γ Xp b) rSetL))
    (hs : swapsWithSole [.Subscript z x tpos] y pos.line X.env = pure false) (hw : swappedStores [.Subscript z x tpos] y X.env = pure none) (h1 : (assignEach [.Subscript z x tpos] X.env).map (·.2) = [assign (.Subscript z x tpos) X.env]) :
    PS X (.Assign [.Subscript z x tpos] y pos) (tS P Γ Xp (.put i b a)) := ps_imp (ps_asg he hg hs hw h1) fun Dn σ H h => by
  obtain ⟨env, F, k, ex, w, kr⟩ := h
  simp only [wS] at w
  refine ⟨env, F, _, ex, w, fun r env1 v H1 F1 q m e1 => ?_⟩
  obtain ⟨F2, m2, rp, e2⟩ := e1.freeze
  cases hx : env1[i]? with
  | none => rw [hx] at q; exact q.elim
  | some yy => cases yy with
    | none => rw [hx] at q; exact q.elim
    | some zz =>
      rw [hx] at q
      obtain ⟨w', hw'⟩ := e2.slot hx
      refine ⟨w', hw', env1, F2, _, e2, q, fun o env3 v3 H3 F3 q3 m3 e3 p3 => ?_⟩
      generalize hr : res env3 o = d3 at q3
      split at q3
      · rw [(e3.res p3 hr).int]
        exact put_core e3 hw' (Rep.mono m3 _ _ rp) q3 fun H' env' q' e' => kr.nx σ H' env' F3 q' e'
      · exact q3.elim

/-! ### several answers at once -/
def fra : List V → List RV → List Addr
  | v :: vs, .fr _ :: rs => adr v :: fra vs rs
  | _ :: vs, .val _ :: rs => fra vs rs
  | _, _ => []
def EXs (P : PP) (σ : L2.St) (H : Hp) (env : Env) (F : Hp) (vs : List V) (rs : List RV) : Prop := ∃ A, ER P A σ H env F ∧ Paired (RVr P A H env F) vs rs ∧ (fra vs rs).Nodup
def tRs (P : PP) (Γ : Fns) (Xp : XP) (ms : List E) : TA := fun σ H Q => ∃ env F R, EX P σ H env F ∧ wRs Γ ms env Xp R ∧ ∀ rs env' vs H' F', R rs env' → LeH F F' → EXs P σ H' env' F' vs rs → vs.length = ms.length → Q vs H'
theorem pa_ex {es : List Expr} {C : PP → Prop} {t : PP → TA} (h : ∀ P, C P → PA X es (t P)) : PA X es (fun σ H Q => ∃ P, C P ∧ t P σ H Q) := ⟨fun pos pins s σ H Q I ⟨P, c, q⟩ => (h P c).run pos pins s σ H Q I q⟩
theorem rs_nil : PA X [] (tRs P Γ Xp []) := pa_imp pa_nil fun σ H Q h => by
  obtain ⟨env, F, R, ⟨A, e⟩, w, k⟩ := h
  simp only [wRs] at w
  exact k _ _ _ H F w (LeH.refl F) ⟨A, e, .nil, by simp [fra]⟩ rfl
theorem fra_mem {A : Nat → Addr} {H : Hp} {env : Env} {F : Hp} {q : Addr} : ∀ {vs : List V} {rs : List RV}, Paired (RVr P A H env F) vs rs → q ∈ fra vs rs → P.O q = none ∧ (∃ u, H q = some u) ∧ F q = none
  | _, _, .nil, h => by simp [fra] at h
  | v :: vs, .val d :: rs, .cons _ t, h => by
    simp only [fra] at h
    exact fra_mem t h
  | v :: vs, .fr o :: rs, .cons p t, h => by
    simp only [fra] at h
    obtain ⟨p', rfl, h1, h2, h3⟩ := p
    rcases List.mem_cons.mp h with e | h
    · rw [show q = p' from e]
      exact ⟨h2, h1.there, h1.none⟩
    · exact fra_mem t h
theorem EXv.lend {σ : L2.St} {H : Hp} {env : Env} {F : Hp} {p : Addr} {o : OV} (e : EXv P σ H env F (.ref p) (.fr o)) : ∃ u, H p = some u ∧ P.O p = none ∧ OwnAt P.L F H p o ∧ EX (P.plus p u) σ H env F := by
  obtain ⟨A, e, q, hq, hO, hP, hn⟩ := e
  cases hq
  obtain ⟨u, hu⟩ := hO.there
  refine ⟨u, hu, hP, hO, A, ⟨e.sub, e.le0, fun a w z => ?_, e.len, e.val, fun i w z => ?_, e.ne, e.bor, e.isb, e.tb.lend (hO.plain hu).1⟩⟩
  · have z : upd P.O p u a = some w := z
    by_cases ha : a = p
    · subst ha
      rw [upd_same] at z
      cases z
      exact ⟨hu, hO.none⟩
    · rw [upd_ne ha] at z
      exact e.fr a w z
  · obtain ⟨h1, h2, h3⟩ := e.own i w z
    exact ⟨h1, h2, by show upd P.O p u (A i) = none; rw [upd_ne (hn i w z)]; exact h3⟩
theorem rs_cons {es : List Expr} {ms : List E} (he : PE X x (tE P Γ Xp a)) (hr : ∀ P', PLe P' P → PA X es (tRs P' Γ Xp ms)) (hs : starEach (x :: es) X.env = (false, eval x X.env) :: starEach es X.env) : PA X (x :: es) (tRs P Γ Xp (a :: ms)) :=
  pa_imp (pa_cons he (pa_ex (C := fun P' => PLe P' P) (t := fun P' => tRs P' Γ Xp ms) hr) hs) fun σ H Q h => by
  obtain ⟨env, F, R, ex, w, k⟩ := h
  simp only [wRs] at w
  refine ⟨env, F, _, ex, w, fun r env1 v1 H1 F1 w1 m1 e1 => ?_⟩
  cases r with
  | val d =>
    obtain ⟨A1, e1, r1⟩ := e1
    refine ⟨P, PLe.refl P, env1, F1, _, ⟨A1, e1⟩, w1, fun rs env2 vs H2 F2 w2 m2 e2 l2 => ?_⟩
    obtain ⟨A, e2, p2, nd⟩ := e2
    exact k _ _ _ H2 F2 w2 (m1.trans m2) ⟨A, e2, .cons (Rep.mono m2 _ _ r1) p2, nd⟩ (by rw [List.length_cons, List.length_cons, l2])
  | fr o =>
    have hv : ∃ p, v1 = .ref p := by obtain ⟨_, _, p, e, _⟩ := e1; exact ⟨p, e⟩
    obtain ⟨p, rfl⟩ := hv
    obtain ⟨u, hu, hP, hO, e1'⟩ := e1.lend
    refine ⟨P.plus p u, PLe.plus hP, env1, F1, _, e1', w1, fun rs env2 vs H2 F2 w2 m2 e2 l2 => ?_⟩
    obtain ⟨A, e2, p2, nd⟩ := e2
    obtain ⟨h2, h3⟩ := e2.fr p u upd_same
    have nO : ∀ q, (P.plus p u).O q = none → q ≠ p := fun q z e => by
      rw [e, show (P.plus p u).O p = some u from upd_same] at z
      cases z
    refine k _ _ _ H2 F2 w2 (m1.trans m2) ⟨A, (PLe.plus hP).ex _ _ _ _ _ e2, .cons ⟨p, rfl, hO.step m2 h3 (fun w z => by rw [hu] at z; cases z; exact h2), hP, fun i w z => nO _ (e2.own i w z).2.2⟩ (Paired.mapP p2 fun v r q => ?_), ?_⟩ (by rw [List.length_cons, List.length_cons, l2])
    · cases r with
      | val d => exact q
      | fr o' =>
        obtain ⟨q', rfl, q1, q2, q3⟩ := q
        refine ⟨q', rfl, q1, ?_, q3⟩
        have z := nO q' q2
        have q2 : upd P.O p u q' = none := q2
        rw [upd_ne z] at q2
        exact q2
    · simp only [fra]
      rw [List.nodup_cons]
      exact ⟨fun z => nO p (fra_mem p2 z).1 rfl, nd⟩
def setSt (σ : L2.St) : List Nat → List V → L2.St
  | i :: is, v :: vs => setSt (σ.set i (some v)) is vs
  | _, _ => σ
theorem EXs.one {σ : L2.St} {H : Hp} {env : Env} {F : Hp} {v : V} {vs : List V} {r : RV} {rs : List RV} {i : Nat} {R : Env → Prop} (e : EXs P σ H env F (v :: vs) (r :: rs)) (h : setS env i r.toEV R) : ∃ env', R env' ∧ EXs P (σ.set i (some v)) H env' F vs rs := by
  obtain ⟨y, hy, nb, h⟩ := setS_cases h
  obtain ⟨A, e, p, nd⟩ := e
  cases p with
  | cons q t =>
    cases r with
    | val d =>
      refine ⟨_, h, A, e.setVal hy nb q, Paired.mapP t fun v r z => ?_, nd⟩
      cases r with
      | val d => exact z
      | fr o =>
        obtain ⟨q', e1, q1, q2, q3⟩ := z
        refine ⟨q', e1, q1, q2, fun j u hj => ?_⟩
        by_cases ij : i = j
        · subst ij; rw [get_set_self hy] at hj; cases hj
        · rw [get_set_ne ij] at hj; exact q3 j u hj
    | fr o =>
      obtain ⟨p, rfl, h1, h2, h3⟩ := q
      simp only [fra, List.nodup_cons] at nd
      have go : ∀ {vs : List V} {rs : List RV}, Paired (RVr P A H env F) vs rs → p ∉ fra vs rs → Paired (RVr P (fun j => if j = i then p else A j) H (env.set i (some (.own o))) F) vs rs := by
        intro vs rs t
        induction t with
        | nil => intro _; exact .nil
        | @cons v r vs rs z t ih =>
          intro np
          cases r with
          | val d => exact .cons z (ih np)
          | fr o' =>
            simp only [fra, List.mem_cons, not_or] at np
            obtain ⟨q', rfl, q1, q2, q3⟩ := z
            refine .cons ⟨q', rfl, q1, q2, fun j u hj => ?_⟩ (ih np.2)
            show (if j = i then p else A j) ≠ q'
            by_cases ij : j = i
            · rw [if_pos ij]; exact np.1
            · rw [if_neg ij]
              rw [get_set_ne (Ne.symm ij)] at hj
              exact q3 j u hj
      exact ⟨_, h, _, e.setOwn hy nb h1 h2 h3, go t nd.1, nd.2⟩
theorem EXs.all {H : Hp} {F : Hp} {R : Env → Prop} : ∀ {is : List Nat} {vs : List V} {rs : List RV} {σ : L2.St} {env : Env}, EXs P σ H env F vs rs → setAll env is rs R → ∃ env', R env' ∧ EX P (setSt σ is vs) H env' F
  | [], _, [], σ, env, ⟨A, e, p, _⟩, h => by
    simp only [setAll] at h
    exact ⟨env, h, A, e⟩
  | [], _, _ :: _, _, _, _, h => by simp only [setAll] at h
  | _ :: _, _, [], _, _, _, h => by simp only [setAll] at h
  | i :: is, [], r :: rs, _, _, ⟨_, _, p, _⟩, _ => nomatch p
  | i :: is, v :: vs, r :: rs, σ, env, e, h => by
    simp only [setAll] at h
    obtain ⟨env1, h1, e1⟩ := e.one h
    have fin := EXs.all e1 h1
    exact fin
theorem par_imp {is : List Nat} {ms : List E} {Dn : Ends} {σ : L2.St} {H : Hp} (h : tS P Γ Xp (.par is ms) Dn σ H) : tRs P Γ Xp ms σ H fun vs H1 => vs.length = ms.length ∧ Dn.nx (setSt σ is vs) H1 := by
  obtain ⟨env, F, k, ex, w, kr⟩ := h
  simp only [wS] at w
  refine ⟨env, F, _, ex, w, fun rs env1 vs H1 F1 q m e1 l => ⟨l, ?_⟩⟩
  obtain ⟨env2, q2, e2⟩ := e1.all q
  exact kr.nx _ H1 env2 F1 q2 e2
theorem tRs_mono {ms : List E} {σ : L2.St} {H : Hp} {Q Q' : List V → Hp → Prop} (h : tRs P Γ Xp ms σ H Q) (m : ∀ vs H, Q vs H → Q' vs H) : tRs P Γ Xp ms σ H Q' := by
  obtain ⟨env, F, R, ex, w, k⟩ := h
  exact ⟨env, F, R, ex, w, fun rs env' vs H' F' q mm e l => m _ _ (k rs env' vs H' F' q mm e l)⟩
theorem len2 {α : Type} {xs : List α} (h : xs.length = 2) : ∃ a b, xs = [a, b] := by
  match xs, h with
  | [a, b], _ => exact ⟨a, b, rfl⟩
theorem len3 {α : Type} {xs : List α} (h : xs.length = 3) : ∃ a b c, xs = [a, b, c] := by
  match xs, h with
  | [a, b, c], _ => exact ⟨a, b, c, rfl⟩
theorem s_par2 {i j : Nat} {g1 g2 : Str} {ms : List E} {px py pt : Pos} {kt k2 pt2} (hc : X.calm = true) (hN : X.N.Nodup) (hi : X.N[i]? = some g1) (hj : X.N[j]? = some g2) (hij : i ≠ j) (hx : X.env.scope.names.lookup g1 = some .local) (hy : X.env.scope.names.lookup g2 = some .local) (ha : PA X [x, y] (tRs P Γ Xp ms)) (hl : ms.length = 2)
    (hw : swappedStores [.Tuple [.Name g1 px, .Name g2 py] kt pt] (.Tuple [x, y] k2 pt2) X.env = pure (some [g1, g2])) (hs : swapsWithSole [.Tuple [.Name g1 px, .Name g2 py] kt pt] (.Tuple [x, y] k2 pt2) pos.line X.env = pure false) :
    PS X (.Assign [.Tuple [.Name g1 px, .Name g2 py] kt pt] (.Tuple [x, y] k2 pt2) pos) (tS P Γ Xp (.par [i, j] ms)) := ps_imp (ps_par hc hN hi hj hij hx hy ha hw hs) fun Dn σ H h => tRs_mono (par_imp h) fun vs H1 ⟨l, q⟩ => by
  obtain ⟨v1, v2, rfl⟩ := len2 (l.trans hl)
  exact ⟨_, _, rfl, q⟩
theorem s_par3 {i j l : Nat} {g1 g2 g3 : Str} {ms : List E} {px py pz pt : Pos} {kt k2 pt2} (hc : X.calm = true) (hN : X.N.Nodup) (hi : X.N[i]? = some g1) (hj : X.N[j]? = some g2) (hll : X.N[l]? = some g3) (hij : i ≠ j) (hil : i ≠ l) (hjl : j ≠ l)
    (hx : X.env.scope.names.lookup g1 = some .local) (hy : X.env.scope.names.lookup g2 = some .local) (hz : X.env.scope.names.lookup g3 = some .local) (ha : PA X [x, y, z] (tRs P Γ Xp ms)) (hl : ms.length = 3)
    (hw : swappedStores [.Tuple [.Name g1 px, .Name g2 py, .Name g3 pz] kt pt] (.Tuple [x, y, z] k2 pt2) X.env = pure (some [g1, g2, g3])) (hs : swapsWithSole [.Tuple [.Name g1 px, .Name g2 py, .Name g3 pz] kt pt] (.Tuple [x, y, z] k2 pt2) pos.line X.env = pure false) :
    PS X (.Assign [.Tuple [.Name g1 px, .Name g2 py, .Name g3 pz] kt pt] (.Tuple [x, y, z] k2 pt2) pos) (tS P Γ Xp (.par [i, j, l] ms)) := ps_imp (ps_par3 hc hN hi hj hll hij hil hjl hx hy hz ha hw hs) fun Dn σ H h => tRs_mono (par_imp h) fun vs H1 ⟨l', q⟩ => by
  obtain ⟨v1, v2, v3, rfl⟩ := len3 (l'.trans hl)
  exact ⟨_, _, _, rfl, q⟩
/-- names one after another -/
def gNs (is : List Nat) : TGs := fun vs σ H Q => vs.length = is.length ∧ Q (setSt σ is vs) H
theorem gn_nil : PGs X [] (gNs []) := pgs_imp pgs_nil fun vs σ H Q h => by
  obtain ⟨h, q⟩ := h
  cases vs with
  | nil => exact ⟨rfl, q⟩
  | cons _ _ => cases h
theorem gn_cons {es : List Expr} {i : Nat} {is : List Nat} (h1 : PG X x (gName i)) (h2 : PGs X es (gNs is)) (hs : (assignEach (x :: es) X.env).map (·.2) = assign x X.env :: (assignEach es X.env).map (·.2)) : PGs X (x :: es) (gNs (i :: is)) := pgs_imp (pgs_cons h1 h2 hs) fun vs σ H Q h => by
  obtain ⟨h, q⟩ := h
  cases vs with
  | nil => cases h
  | cons v vs => exact ⟨v, vs, rfl, by simpa using h, q⟩
theorem EXs.grow {σ : L2.St} {H H' : Hp} {env : Env} {F : Hp} {vs : List V} {rs : List RV} (e : EXs P σ H env F vs rs) (k : ∀ a o, H a = some o → H' a = some o) : EXs P σ H' env F vs rs := by
  obtain ⟨A, e, p, nd⟩ := e
  refine ⟨A, e.grow k, Paired.mapP p fun v r q => ?_, nd⟩
  cases r with
  | val d => exact q
  | fr o =>
    obtain ⟨q', e1, q1, q2⟩ := q
    exact ⟨q', e1, q1.step (LeH.refl F) q1.none (fun u z => k _ u z), q2⟩
theorem s_parT {is : List Nat} {ts es : List Expr} {ms : List E} {kt k2 : Nat} {pt pt2 : Pos} (hc : X.calm = true) (ha : PA X es (tRs P Γ Xp ms)) (hg : PGs X ts (gNs is)) (hl : ms.length ≤ 1000) (hl2 : is.length = ms.length) (hl3 : (assignEach ts X.env).length = is.length) (hst : (assignEach ts X.env).findIdx? (·.1) = none)
    (hs : swapsWithSole [.Tuple ts kt pt] (.Tuple es k2 pt2) pos.line X.env = pure false) (hw : swappedStores [.Tuple ts kt pt] (.Tuple es k2 pt2) X.env = pure none) (h1 : (assignEach [.Tuple ts kt pt] X.env).map (·.2) = [assign (.Tuple ts kt pt) X.env]) :
    PS X (.Assign [.Tuple ts kt pt] (.Tuple es k2 pt2) pos) (tS P Γ Xp (.par is ms)) := ps_imp (ps_asg (pe_tup ha) (pg_tup (n := is.length) hc hg hl3 hst) hs hw h1) fun Dn σ H h => by
  obtain ⟨env, F, k, ex, w, kr⟩ := h
  simp only [wS] at w
  refine ⟨env, F, _, ex, w, fun rs env1 vs H1 F1 q m e1 l => ⟨by rw [l, sizeLine_eq]; omega, fun p hp => ?_⟩⟩
  obtain ⟨env2, q2, e2⟩ := (e1.grow (grows (o := .tup vs) hp)).all q
  exact ⟨p, vs, rfl, .inl (.inl upd_same), l.trans hl2.symm, l.trans hl2.symm, kr.nx _ _ env2 F1 q2 e2⟩
end
end G
/-! Y2: methods of one's own lists, attributes stored, op=. -/
namespace HT
open PySem PySem.Spec PyProof.Rows
section
variable {prog : Program} {w : World} {A : Around} {E : Value → Shared → Prop} {s : Shared}
theorem noI_tuple_add : typeLookup (.type "tuple") (dunderI "add") = pure none := by rw [typeLookup_type, builtinLookup_eq_fast]; kernel_rfl
theorem icat_tup {t b : Addr} {vs ws : List Value} {Q : Value → Shared → Prop} (ht : IsTup s.heap t vs.toArray) (hb : IsTup s.heap b ws.toArray)
    (h0 : vs = [] → Q (.ref b) s) (h1 : vs ≠ [] → ws = [] → Q (.ref t) s) (h2 : vs ≠ [] → ws ≠ [] → Q (.ref s.heap.objs.size) { s with heap := s.heap.push { cls := .type "tuple", data := .seq (vs ++ ws).toArray } })
    (hsz : vs.length + ws.length ≤ sizeLine) : wpAny (model prog w) A (inplaceOp .Add (.ref t) (.ref b)) Q E s := by
  obtain ⟨⟨cls, dd, data, sl⟩, ho, hc, n, hd⟩ := id ht
  obtain ⟨⟨cls2, dd2, data2, sl2⟩, ho2, hc2, n2, hd2⟩ := id hb
  simp only at hc hd hc2 hd2
  subst hc hd hc2 hd2
  have e : vs.toArray ++ ws.toArray = (vs ++ ws).toArray := by simp
  refine wpAny_inplaceOp_concat ⟨_, ho, rfl⟩ ⟨_, ho2, rfl⟩ noI_tuple_add noFill_tuple_add seq_tuple_add ?_
  by_cases hv : vs = []
  · subst hv
    exact call_meets PySem.F.slot_tuple_add ⟨_, ho, rfl⟩ PySem.F.entry_tuple_add (PySem.F.args_tuple_add_2 _ _) (tuple_addW0 t b ([] : List Value).toArray ws.toArray n n2 dd dd2 sl sl2 (by simp)) ⟨ho, ho2, h0 rfl⟩
  · by_cases hw : ws = []
    · exact call_meets PySem.F.slot_tuple_add ⟨_, ho, rfl⟩ PySem.F.entry_tuple_add (PySem.F.args_tuple_add_2 _ _) (tuple_addW1 t b vs.toArray ws.toArray n n2 dd dd2 sl sl2 (by simpa using hv) (by simp [hw])) ⟨ho, ho2, h1 hv hw⟩
    · refine call_meets PySem.F.slot_tuple_add ⟨_, ho, rfl⟩ PySem.F.entry_tuple_add (PySem.F.args_tuple_add_2 _ _)
        (tuple_addW2 t b vs.toArray ws.toArray n n2 dd dd2 sl sl2 (by simpa using hv) (by simpa using hw) (by rw [List.size_toArray, List.size_toArray]; exact hsz)) ⟨ho, ho2, ?_⟩
      rw [e]
      exact h2 hv hw
end
end HT
namespace G
open PySem PySem.Spec L2
section
variable {X : Cx} {P : PP} {Γ : Fns} {Xp : XP} {pos : Pos} {x y z : Expr} {a b c : E} {m : LM} {es : List Expr} {ms : List E}
theorem iop_catA : L2.OpR X (inplaceOp .Add) (rCatA X.K) := by
  intro pins s σ H x y v u Q I rx ry h
  obtain ⟨a, b, xs, ys, rfl, rfl, ha, hb, hz, q0, q1, q2⟩ := h
  cases rx
  cases ry
  obtain ⟨its, r1, p1, _⟩ := I.tuple ha
  obtain ⟨its2, r2, p2, _⟩ := I.tuple hb
  refine HT.icat_tup p1 p2 (fun z => ⟨.ref b, H, I, rfl, q0 (r1.nil_iff.mp z)⟩) (fun z1 z2 => ⟨.ref a, H, I, rfl, q1 (fun q => z1 (r1.nil_iff.mpr q)) (r2.nil_iff.mp z2)⟩) (fun z1 z2 => ?_) (by rw [← r1.length, ← r2.length]; exact hz)
  refine ⟨.ref s.heap.objs.size, _, I.laid (t' := s.toks) (o := .tup (xs ++ ys)) (fun b ob q => Heap.get?_push_of_some _ q) (Nat.le_refl _) ?_, rfl, q2 (fun w => z1 (r1.nil_iff.mpr w)) (fun w => z2 (r2.nil_iff.mpr w)) _ (I.hok.fresh (Nat.le_refl _))⟩
  exact ⟨by rw [List.length_append]; exact hz, _, r1.append r2, PyProof.Rows.IsTup.new _ _⟩
/-! ### the tree of a method's call -/
def okB : Expr → Bool
  | .Call (.Name _ _) [] [] _ => false
  | _ => true
theorem base_of {o : Expr} {n : Str} {env : PySem.Env} (h : okB o = true) : attributeBase o n env (eval o env) = eval o env := by
  cases o
  case Call f as ks p =>
    cases f
    case Name i q =>
      cases as with
      | nil => cases ks with
        | nil => simp [okB] at h
        | cons _ _ => rfl
      | cons _ _ => rfl
    all_goals rfl
  all_goals rfl
theorem few_args {env : PySem.Env} {args : List Expr} {pos : Pos} (h : (backTo pos (starEach args env)).any (·.1) = false) (hl : args.length < 30) :
    methodCallForm (args.length + ([] : List Keyword).length) (backTo pos (starEach args env)) (backToKw pos (keywordEach [] env)) = true := by
  have e : (backTo pos (starEach args env)).all (fun x => !x.1) = true := by
    rw [List.all_eq_true]
    intro x hx
    rw [List.any_eq_false] at h
    simpa using h x hx
  show ((backTo pos (starEach args env)).all (!·.1) && (backToKw pos (keywordEach [] env)).all (·.1.isSome) && decide (args.length + ([] : List Keyword).length + (if (backToKw pos (keywordEach [] env)).isEmpty then 0 else 1) < 30)) = true
  rw [e, Bool.true_and]
  show (true && decide (args.length + 0 + 0 < 30)) = true
  rw [Bool.true_and]
  exact decide_eq_true (by omega)
theorem meth_tree {o : Expr} {name : Str} {apos pos : Pos} {args : List Expr} {env : PySem.Env} (hb : okB o = true) (hl : (apos.endLine == pos.line) = true) (hf : methodCallForm (args.length + ([] : List Keyword).length) (backTo pos (starEach args env)) (backToKw pos (keywordEach [] env)) = true) :
    eval (.Call (.Attribute o name apos) args [] pos) env = (do
      let ov ← eval o env
      standAt apos.atName
      let (f, first) ← holding [ov] (getMethod ov name (do return (← importBound o env).getD true))
      callWith pos f first (backTo pos (starEach args env)) (backToKw pos (keywordEach [] env))) := by
  rw [arm_eval_Call, base_of hb]
  have hpos : methodCallPos true o env apos pos = pure pos := by unfold methodCallPos; simp [hl]
  unfold methodCall
  rw [hf]
  congr 1
  funext ov
  congr 1
  funext u
  show (holding [ov] (calleeOf true o env ov name) >>= fun x => methodCallPos true o env apos pos >>= fun p => callWith p x.1 x.2 _ _) = _
  rw [hpos]
  rfl
/-! ### methods of one's own lists -/
def lmN : LM → Str
  | .append => "append"
  | .insert => "insert"
  | .pop => "pop"
  | .popAt => "pop"
  | .extend => "extend"
def rLM : LM → V → List V → Hp → VK → Prop
  | .append => rAppend
  | .insert => fun x vs H Q => ∃ (l : Addr) (xs : List V) (i : Int) (y : V), x = .ref l ∧ vs = [.int i, y] ∧ H l = some (.lst xs) ∧ xs.length < sizeLine ∧ 0 ≤ i ∧ i < 2 ^ 63 ∧ Q .non (upd H l (.lst (xs.take i.toNat ++ [y] ++ xs.drop i.toNat)))
  | .pop => rPop
  | .popAt => rPopAt
  | .extend => rExtend
theorem Reps.dropLast {L : Lay} {F : Hp} {ds : List D} {vs : List V} (r : Reps L F ds vs) : Reps L F ds.dropLast vs.dropLast := by
  rw [List.dropLast_eq_take, List.dropLast_eq_take, r.length]
  exact r.take _
theorem Reps.eraseIdx {L : Lay} {F : Hp} : ∀ {ds : List D} {vs : List V} (k : Nat), Reps L F ds vs → Reps L F (ds.eraseIdx k) (vs.eraseIdx k)
  | [], vs, k, h => by rw [show vs = [] from h]; simp [Reps]
  | d :: ds, vs, 0, ⟨v, r, e, h1, h2⟩ => by subst e; exact h2
  | d :: ds, vs, k + 1, ⟨v, r, e, h1, h2⟩ => by subst e; exact ⟨v, r.eraseIdx k, rfl, h1, Reps.eraseIdx k h2⟩
/-- one's own list at a slot -/
theorem own_list {A : Nat → Addr} {σ : L2.St} {H : Hp} {env : Env} {F : Hp} (e : ER P A σ H env F) {i : Nat} {R : List D → (List D → Env) → Prop} (h : lmAt env i R) :
    ∃ (q : Addr) (xs : List D) (vs : List V) (put : List D → Env), σ[i]? = some (some (.ref q)) ∧ H q = some (.lst vs) ∧ Reps P.L F xs vs ∧ R xs put ∧ ∀ ys ws, Reps P.L F ys ws → ER P A σ (upd H q (.lst ws)) (put ys) F := by
  have go : ∀ (z : EV) (xs : List D), env[i]? = some (some z) → ownish (some (some z)) = some (.lst xs) → R xs (fun ys => env.set i (some (z.put (.lst ys)))) →
      ∃ (q : Addr) (xs : List D) (vs : List V) (put : List D → Env), σ[i]? = some (some (.ref q)) ∧ H q = some (.lst vs) ∧ Reps P.L F xs vs ∧ R xs put ∧ ∀ ys ws, Reps P.L F ys ws → ER P A σ (upd H q (.lst ws)) (put ys) F := fun z xs hz ho q => by
    obtain ⟨h1, h2, h3⟩ := e.own i (.lst xs) (by rw [hz]; exact ho)
    obtain ⟨hF, vs, hH, rp⟩ := id h2
    exact ⟨A i, xs, vs, _, h1, hH, rp, q, fun ys ws r => e.write hz ho ⟨hF, ws, upd_same, r⟩⟩
  unfold lmAt at h
  split at h
  · exact go (.own (.lst _)) _ (by assumption) rfl h
  · exact go (.bor (.lst _)) _ (by assumption) rfl h
  · exact h.elim
theorem lm_core {i : Nat} {σ : L2.St} {H : Hp} {env : Env} {F : Hp} {vs : List V} {ds : List D} {w : V} {R : PostE} {Q : VK} (hs : σ[i]? = some (some w)) (ex : EX P σ H env F) (r : Reps P.L F ds vs)
    (h : lmAt env i fun xs put => lmW m xs (ds.map some) fun d ys => R (.val d) (put ys)) (k : ∀ r env' v H' F', R r env' → LeH F F' → EXv P σ H' env' F' v r → Q v H') : rLM m w vs H Q := by
  obtain ⟨A, e⟩ := ex
  obtain ⟨q, xs, ws, put, h1, h2, h3, h4, h5⟩ := own_list e h
  rw [hs] at h1
  cases h1
  generalize hd : ds.map some = os at h4
  unfold lmW at h4
  split at h4
  · obtain ⟨d0, rfl⟩ : ∃ d, ds = [d] := by
      cases ds with
      | nil => simp at hd
      | cons a t => cases t with
        | nil => exact ⟨a, rfl⟩
        | cons _ _ => simp at hd
    simp at hd
    obtain ⟨v, r', rfl, b1, b2⟩ := r
    rw [← hd] at h4
    rw [show r' = [] from b2]
    refine ⟨q, ws, v, rfl, rfl, h2, by rw [h3.length, ← line_eq]; exact h4.1, ?_⟩
    exact k _ _ .non _ F h4.2 (LeH.refl F) ⟨A, h5 _ _ (h3.append (show Reps P.L F [d0] [v] from ⟨v, [], rfl, b1, rfl⟩)), rfl⟩
  · rename_i i d
    obtain rfl : ds = [.int i, d] := by
      cases ds with
      | nil => simp at hd
      | cons a t => cases t with
        | nil => simp at hd
        | cons b t => cases t with
          | nil => simp at hd; rw [hd.1, hd.2]
          | cons _ _ => simp at hd
    obtain ⟨v, r', rfl, b1, v', r'', rfl, b2, b3⟩ := r
    rw [show r'' = [] from b3, show v = V.int i from b1]
    refine ⟨q, ws, i, v', rfl, rfl, h2, by rw [h3.length, ← line_eq]; exact h4.1.2.2, h4.1.1, by have := h4.1.2.1; omega, ?_⟩
    exact k _ _ .non _ F h4.2 (LeH.refl F) ⟨A, h5 _ _ (((h3.take _).append (show Reps P.L F [d] [v'] from ⟨v', [], rfl, b2, rfl⟩)).append (h3.drop _)), rfl⟩
  · obtain rfl : ds = [] := by simpa using hd
    rw [show vs = [] from r]
    obtain ⟨d, e1, e2⟩ := h4
    obtain ⟨v, b1, b2⟩ := h3.get e1
    refine ⟨q, ws, v, rfl, rfl, h2, by rw [h3.length]; exact b1, ?_⟩
    exact k _ _ v _ F e2 (LeH.refl F) ⟨A, h5 _ _ h3.dropLast, b2⟩
  · rename_i i
    obtain rfl : ds = [.int i] := by
      cases ds with
      | nil => simp at hd
      | cons a t => cases t with
        | nil => simp at hd; rw [hd]
        | cons b t => simp at hd
    obtain ⟨v, r', rfl, b1, b2⟩ := r
    rw [show r' = [] from b2, show v = V.int i from b1]
    obtain ⟨hb, j, d, e0, e1, e2⟩ := h4
    obtain ⟨v, b1, b2⟩ := h3.get e1
    obtain ⟨c1, c2, c3, c4⟩ := ixN_seq e0
    refine ⟨q, ws, i, j, v, rfl, rfl, h2, by have := hb.1; omega, by have := hb.2; omega, by rw [h3.length]; exact c1, b1, ?_⟩
    exact k _ _ v _ F e2 (LeH.refl F) ⟨A, h5 _ _ (h3.eraseIdx j), b2⟩
  · rename_i ys
    obtain rfl : ds = [.lst ys] := by
      cases ds with
      | nil => simp at hd
      | cons a t => cases t with
        | nil => simp at hd; rw [hd]
        | cons b t => simp at hd
    obtain ⟨v, r', rfl, ⟨p, us, rfl, hp, hr⟩, b2⟩ := r
    rw [show r' = [] from b2]
    refine ⟨q, p, ws, us, rfl, rfl, h2, e.sub _ _ hp, by rw [h3.length, hr.length, ← line_eq]; exact h4.1, ?_⟩
    exact k _ _ .non _ F h4.2 (LeH.refl F) ⟨A, h5 _ _ (h3.append hr), rfl⟩
  · exact h4.elim
/-- .. a method of a list with arguments -/
theorem e_lm {i : Nat} {g n : Str} {p apos : Pos} (hm : m ≠ .pop) (hn : n = lmN m) (hv : PE X (.Name g p) (tVar i)) (ha : PA X (x :: es) (tOs P Γ Xp ms)) (hline : (apos.endLine == pos.line) = true) (hl : (x :: es).length < 30) (hst : starEach (x :: es) X.env = (false, eval x X.env) :: starEach es X.env)
    (hpl : (backTo pos (starEach es X.env)).any (·.1) = false) : PE X (.Call (.Attribute (.Name g p) n apos) (x :: es) [] pos) (tE P Γ Xp (.lm m i ms)) := by
  subst hn
  have hfew := few_args (pos := pos) (env := X.env) (args := x :: es) (by rw [hst]; exact hpl) hl
  have imp : ∀ σ H Q, tE P Γ Xp (.lm m i ms) σ H Q → tBM X.K "list" (rLM m) (tVar i) (tOs P Γ Xp ms) σ H Q := fun σ H Q h => by
    obtain ⟨env, F, R, ex, w, k⟩ := h
    simp only [wE] at w
    obtain ⟨w0, w⟩ := w
    obtain ⟨A, e⟩ := id ex
    obtain ⟨q, xs, vs, put, h1, h2, _⟩ := own_list e w0
    refine ⟨.ref q, h1, .inl ⟨rfl, vs, .inl (.inl h2)⟩, env, F, _, ex, w, fun os env1 ws H1 F1 w1 m1 e1 p1 l1 => ?_⟩
    obtain ⟨ds, hd, w1⟩ := w1
    exact lm_core h1 e1 (datas_reps p1 hd) w1 fun r env2 v H' F' hr m e => k r env2 v H' F' hr (m1.trans m) e
  cases m with
  | append => exact pe_imp (pe_bm PySem.F.plainAttrs_list PySem.F.slot_list_append PySem.F.type_list_append mt_append hv ha rfl hfew hline hst hpl) imp
  | insert => exact pe_imp (pe_bm PySem.F.plainAttrs_list PySem.F.slot_list_insert PySem.F.type_list_insert mt_insert hv ha rfl hfew hline hst hpl) imp
  | pop => exact absurd rfl hm
  | popAt => exact pe_imp (pe_bm PySem.F.plainAttrs_list PySem.F.slot_list_pop PySem.F.type_list_pop mt_popAt hv ha rfl hfew hline hst hpl) imp
  | extend => exact pe_imp (pe_bm PySem.F.plainAttrs_list PySem.F.slot_list_extend PySem.F.type_list_extend mt_extend hv ha rfl hfew hline hst hpl) imp
theorem e_lm0 {i : Nat} {g : Str} {p apos : Pos} (hv : PE X (.Name g p) (tVar i)) (hline : (apos.endLine == pos.line) = true) : PE X (.Call (.Attribute (.Name g p) "pop" apos) [] [] pos) (tE P Γ Xp (.lm .pop i [])) :=
  pe_imp (pe_bm0 PySem.F.plainAttrs_list PySem.F.slot_list_pop PySem.F.type_list_pop mt_pop hv rfl hline) fun σ H Q h => by
    obtain ⟨env, F, R, ex, w, k⟩ := h
    simp only [wE, wOs] at w
    obtain ⟨w0, ds, hd, w⟩ := w
    obtain ⟨A, e⟩ := id ex
    obtain ⟨q, xs, vs, put, h1, h2, _⟩ := own_list e w0
    cases hd
    exact ⟨.ref q, h1, .inl ⟨rfl, vs, .inl (.inl h2)⟩, lm_core (m := .pop) (vs := []) (ds := []) h1 ex rfl w k⟩
/-! ### attributes stored -/
theorem putF_zip {f : Nat} {v : V} : ∀ {l : List Nat} {k : Nat} {vs : List V}, (∀ g ∈ l, attrNm f = attrNm g → f = g) → placeIn f l = some k → k ≤ vs.length → vs.length ≤ l.length →
    putF (attrNm f) v ((l.map attrNm).zip vs) = (l.map attrNm).zip (if k < vs.length then vs.set k v else vs ++ [v])
  | [], _, _, _, h, _, _ => by simp [placeIn] at h
  | g :: r, k, [], hi, h, hk, _ => by
    obtain rfl : k = 0 := by simpa using hk
    by_cases z : g = f
    · subst z; simp [putF]
    · simp only [placeIn, z, if_false, Option.map_eq_some_iff] at h
      obtain ⟨j, _, q⟩ := h
      simp at q
  | g :: r, k, w :: vs, hi, h, hk, hl => by
    rw [List.map_cons, List.zip_cons_cons]
    by_cases z : g = f
    · simp only [placeIn, z, if_true, Option.some.injEq] at h
      subst h; subst z
      simp [putF]
    · simp only [placeIn, z, if_false, Option.map_eq_some_iff] at h
      obtain ⟨j, h, rfl⟩ := h
      have ne : ¬ attrNm g = attrNm f := fun q => z (hi g (List.mem_cons_self ..) q.symm).symm
      simp only [putF, ne, if_false]
      rw [putF_zip (fun g hg => hi g (List.mem_cons_of_mem _ hg)) h (by simpa using hk) (by simpa using hl)]
      by_cases q : j < vs.length
      · rw [if_pos q, if_pos (by simpa using q)]; simp
      · rw [if_neg q, if_neg (by simpa using q)]; simp
theorem clsAt_len : ∀ c, (clsAt c).length ≤ 4 := by
  intro c
  match c with
  | 0 => decide
  | 1 => decide
  | 2 => decide
  | 3 => decide
  | _ + 4 => simp [clsAt]
theorem fput_core {i f : Nat} {σ : L2.St} {H : Hp} {env : Env} {F : Hp} {d : D} {v w : V} {R : Env → Prop} {Q : Hp → Prop} (hK : X.K = P.L.K) (hC : ∀ c, P.L.kc c = true → ClsOk P.L c) (hs : σ[i]? = some (some w)) (ex : EX P σ H env F) (r : Rep P.L F d v) (h : fputW env i f d R)
    (k : ∀ H' env', R env' → EX P σ H' env' F → Q H') : ∃ a C dx fs, w = .ref a ∧ H a = some (.ins C dx fs) ∧ Cls X.K C ∧ NoAttr X.K C (attrNm f) ∧ fs.length < 1000 ∧ Q (upd H a (.ins C dx (putF (attrNm f) v fs))) := by
  obtain ⟨A, e⟩ := ex
  have go : ∀ (z : EV) (c : Nat) (ds es : List D), env[i]? = some (some z) → ownish (some (some z)) = some (.ins c ds) → fputO c f ds d = some es → R (env.set i (some (z.put (.ins c es)))) →
      ∃ a C dx fs, w = .ref a ∧ H a = some (.ins C dx fs) ∧ Cls X.K C ∧ NoAttr X.K C (attrNm f) ∧ fs.length < 1000 ∧ Q (upd H a (.ins C dx (putF (attrNm f) v fs))) := fun z c ds es hz ho hp q => by
    obtain ⟨h1, h2, h3⟩ := e.own i (.ins c ds) (by rw [hz]; exact ho)
    rw [hs] at h1
    cases h1
    obtain ⟨hF, dx, vs, hH, ⟨hl, hk⟩, rp⟩ := id h2
    have C := hC c hk
    unfold fputO at hp
    rw [Option.bind_eq_some_iff] at hp
    obtain ⟨j, hj, hp⟩ := hp
    have hm := placeIn_mem hj
    have len := rp.length
    have l2 : vs.length ≤ (clsAt c).length := by simpa [clsNm] using hl
    have hle : j ≤ vs.length := by
      rw [len]
      split at hp
      · omega
      · split at hp
        · omega
        · cases hp
    have hjl : j < (clsAt c).length := (List.getElem?_eq_some_iff.mp (placeIn_get hj)).1
    have pz := putF_zip (v := v) (fun g hg => attr_inj c f hm g hg) hj hle l2
    have ro : Reps P.L F es (if j < vs.length then vs.set j v else vs ++ [v]) := by
      rw [len]
      split at hp
      · rename_i q'
        cases hp
        rw [if_pos q']
        exact Reps.set r j rp
      · rename_i q'
        split at hp
        · cases hp
          rw [if_neg q']
          exact rp.append ⟨v, [], rfl, r, rfl⟩
        · cases hp
    have lo : (if j < vs.length then vs.set j v else vs ++ [v]).length ≤ (clsNm c).length := by
      rw [show (clsNm c).length = (clsAt c).length from List.length_map ..]
      split
      · rw [List.length_set]; exact l2
      · rw [List.length_append, List.length_singleton]; omega
    refine ⟨_, _, dx, _, rfl, hH, by rw [hK]; exact C.cl, by rw [hK]; exact C.na f hm, ?_, ?_⟩
    · have a1 := clsAt_len c
      rw [List.length_zip]
      have : (clsNm c).length = (clsAt c).length := List.length_map ..
      omega
    · rw [show (clsNm c).zip vs = ((clsAt c).map attrNm).zip vs from rfl, pz]
      exact k _ _ q ⟨A, e.write hz ho ⟨hF, dx, _, upd_same, ⟨lo, hk⟩, ro⟩⟩
  unfold fputW at h
  split at h
  · obtain ⟨es, hj, q⟩ := h
    exact go (.own (.ins _ _)) _ _ _ (by assumption) rfl hj q
  · obtain ⟨es, hj, q⟩ := h
    exact go (.bor (.ins _ _)) _ _ _ (by assumption) rfl hj q
  · exact h.elim
/-- name.attribute = e -/
theorem s_fput {i f : Nat} {g : Str} {tpos : Pos} (hK : X.K = P.L.K) (hC : ∀ c, P.L.kc c = true → ClsOk P.L c) (hg : g = attrNm f) (ho : PE X z (tVar i)) (he : PE X y (tE P Γ Xp a)) (hs : swapsWith y (some (.Attribute z g tpos)) pos.line X.env = pure false) :
    PS X (.Assign [.Attribute z g tpos] y pos) (tS P Γ Xp (.fput i f a)) := ps_imp (ps_fld ho he hs) fun Dn σ H h => by
  obtain ⟨env, F, k, ex, w, kr⟩ := h
  simp only [wS] at w
  refine ⟨env, F, _, ex, w, fun r env1 v H1 F1 q m e1 => ?_⟩
  obtain ⟨F2, m2, rp, e2⟩ := e1.freeze
  have hz : ∃ z, env1[i]? = some (some z) := by
    unfold fputW at q
    split at q
    · exact ⟨_, by assumption⟩
    · exact ⟨_, by assumption⟩
    · exact q.elim
  obtain ⟨zz, hz⟩ := hz
  obtain ⟨w', hw'⟩ := e2.slot hz
  subst hg
  exact ⟨w', hw', fput_core hK hC hw' e2 rp q fun H' env' q' e' => kr.nx σ H' env' F2 q' e'⟩
/-! ### name op= e -/
def rAug (K : PySem.W.Frag) : Operator → R2
  | .Add => fun x y H Q => rI0 (fun i j => .int (i + j)) x y H Q ∨ rCatA K x y H Q
  | _ => fun _ _ _ _ => False
theorem op_aug (op : Operator) : L2.OpR X (inplaceOp op) (rAug X.K op) := by
  cases op with
  | Add => exact OpR2.or iop_add iop_catA
  | _ => exact OpR2.no
theorem s_aug {i : Nat} {g : Str} {op : Operator} {p : Pos} (hK : X.K = P.L.K) (hN : X.N.Nodup) (hi : X.N[i]? = some g) (hx : Loc X.env.scope g) (he : PE X x (tO P Γ Xp a)) (hf : X.fn g = true ∨ X.env.scope.names.lookup g = some .local) : PS X (.AugAssign (.Name g p) op x pos) (tS P Γ Xp (.aug i op a)) :=
  ps_imp (ps_aug hN hi hx he (op_aug op) hf) fun Dn σ H h => by
  obtain ⟨env, F, k, ex, w, kr⟩ := h
  simp only [wS] at w
  obtain ⟨da, q0, ⟨d0, hd⟩, w⟩ := w
  obtain ⟨A, e⟩ := id ex
  obtain ⟨v, h1, h2⟩ := e.val i d0 hd
  have ed : d0 = da := by
    have : res env (.slot i) = some d0 := by
      show (match env[i]? with | some (some v) => some v.toD | _ => none) = some d0
      rw [hd]; rfl
    rw [this] at q0
    cases q0
    rfl
  subst ed
  refine ⟨v, h1, env, F, _, ex, w, fun o env1 v2 H1 F1 w1 m1 e1 p1 => ?_⟩
  obtain ⟨same, w1⟩ := w1
  generalize hq : res env1 o = d2 at w1
  generalize h0 : some d0 = d1 at w1
  have t1 : Rep P.L F1 d0 v := Rep.mono m1 _ _ h2
  have kk : ∀ r v H' F', (setS env1 i r.toEV k.nx) → LeH F1 F' → EXv P σ H' env1 F' v r → Dn.nx (σ.set i (some v)) H' := fun r v H' F' q m e => by
    obtain ⟨env2, q2, e2⟩ := e.set q
    exact kr.nx _ H' env2 F' q2 e2
  unfold augW at w1
  split at w1
  · rename_i i1 j1
    cases h0
    have hv : v = V.int i1 := t1
    refine .inl ⟨_, _, hv, (e1.res p1 hq).int, ?_⟩
    exact kk _ _ H1 F1 w1 (LeH.refl F1) (e1.pure rfl)
  · rename_i xs ys
    cases h0
    have t2 := (e1.res p1 hq).rtup
    obtain ⟨a1, vs1, rfl, h1, r1⟩ := id t1
    obtain ⟨a2, vs2, rfl, h2, r2⟩ := id t2
    refine .inr ⟨_, _, _, _, rfl, rfl, by rw [hK]; exact sqT_mono e1.sub h1, by rw [hK]; exact sqT_mono e1.sub h2, by rw [r1.length, r2.length, ← line_eq]; exact w1.1, fun e => ?_, fun _ e => ?_, fun _ _ p hp => ?_⟩
    · have e' := r1.nil_iff.mp e
      refine kk (.val (.tup (xs ++ ys))) _ H1 F1 w1.2 (LeH.refl F1) (e1.pure ?_)
      rw [e', List.nil_append]; exact t2
    · have e' := r2.nil_iff.mp e
      refine kk (.val (.tup (xs ++ ys))) _ H1 F1 w1.2 (LeH.refl F1) (e1.pure ?_)
      rw [e', List.append_nil]; exact t1
    · exact tup_post (R := fun r => setS env1 i r.toEV k.nx) e1 (Q := fun v H' => Dn.nx (σ.set i (some v)) H') kk w1.2 hp (r1.append r2)
  · exact w1.elim
end
end G
/-! Y3: f-strings, methods of texts. -/
namespace G
open PySem PySem.Spec L2
section
variable {X : Cx} {P : PP} {Γ : Fns} {Xp : XP} {pos : Pos} {x y z : Expr} {a b c : E} {es : List Expr} {ms : List E}
/-- an f-string's parts -/
def FJ (X : Cx) (P : PP) (Γ : Fns) (Xp : XP) (es : List Expr) (ms : List E) : Prop := ∃ ts, PJ X es ts ∧ ∀ acc σ H Q, tFs P Γ Xp ms acc σ H Q → tJs ts acc σ H Q
theorem fj_nil : FJ X P Γ Xp [] [] := ⟨[], .nil, fun acc σ H Q h => by
  obtain ⟨env, F, R, ex, hz, w, k⟩ := h
  simp only [wF] at w
  exact k _ _ H F w hz (LeH.refl F) ex⟩
theorem fj_fmt (h : PE X x (tO P Γ Xp a)) (r : FJ X P Γ Xp es ms) : FJ X P Γ Xp (.FormattedValue x (-1) none pos :: es) (a :: ms) := by
  obtain ⟨ts, h1, h2⟩ := r
  refine ⟨_, .cons (pe_fmt h) h1, fun acc σ H Q q => part_run (es := es) (fun σ H Q q => ?_) h2 q⟩
  obtain ⟨env, F, R, ex, w, k⟩ := q
  refine ⟨env, F, R, ex, w, fun o env' v H' F' r m e p => ?_⟩
  obtain ⟨y, hy, hl, q⟩ := k o env' v H' F' r m e p
  rcases hy with rfl | ⟨i, rfl, h3, rfl⟩
  · exact .inl ⟨y, rfl, by rw [← line_eq]; exact hl, q⟩
  · exact .inr ⟨i, rfl, h3, q⟩
theorem fj_txt {s : Str} {j : Nat} (hs : s.length ≤ line) (r : FJ X P Γ Xp es ms) : FJ X P Γ Xp (.Constant (.str s) j pos :: es) (.con (.str s) :: ms) := by
  obtain ⟨ts, h1, h2⟩ := r
  refine ⟨_, .cons pe_str h1, fun acc σ H Q q => part_run (es := es) (t := tC (.str s)) (fun σ H Q q => ?_) h2 q⟩
  obtain ⟨env, F, R, ex, w, k⟩ := q
  simp only [opd, wE] at w
  obtain ⟨y, hy, hl, q⟩ := k _ _ (.str s) H F w (LeH.refl F) ex ⟨rfl, hs⟩
  rcases hy with hy | ⟨i, hy, _⟩
  · cases hy; exact q
  · cases hy
theorem e_fst {v1 v2 : Expr} {rest : List Expr} (r : FJ X P Γ Xp (v1 :: v2 :: rest) ms) : PE X (.JoinedStr (v1 :: v2 :: rest) pos) (tE P Γ Xp (.fst ms)) := by
  obtain ⟨ts, h1, h2⟩ := r
  refine pe_imp (pe_joined h1) fun σ H Q q => h2 _ σ H _ ?_
  obtain ⟨env, F, R, ex, w, k⟩ := q
  simp only [wE] at w
  exact ⟨env, F, _, ex, Nat.zero_le _, w, fun s env' H' F' q z m e => k (.val (.str s)) _ (.str s) H' F' q m (e.pure ⟨rfl, z⟩)⟩
/-- {}, {k: d} -/
theorem e_dsp0 : PE X (.Dict [] [] pos) (tE P Γ Xp (.dsp [] [])) := pe_imp pe_dnewK fun σ H Q h => by
  obtain ⟨env, F, R, ex, w, k⟩ := h
  simp only [wE] at w
  intro p hp
  exact k _ _ (.ref p) _ (upd F p (.dK [])) w (LeH.upd (ex.nop hp)) ((ex.froze (o := .dK []) hp).pure ⟨p, [], rfl, ⟨rfl, .inl ⟨rfl, upd_same⟩⟩, rfl⟩)
theorem e_dsp1 {kx : Key} {d : D} {v : V} (hk : PE X x (tC (kV kx))) (hv : PE X y (tC v)) (r : ∀ F, Rep P.L F d v) : PE X (.Dict [some x] [y] pos) (tE P Γ Xp (.dsp [kx] [d])) := pe_imp (pe_disp (pps_cons hk hv pps_nil) rfl rfl (by simp) (by simp)) fun σ H Q h => by
  obtain ⟨env, F, R, ex, w, k⟩ := h
  simp only [wE] at w
  intro p hp
  have e : ∀ o o' : HO, upd (upd H p o) p o' = upd H p o' := fun o o' => funext fun a => by
    by_cases z : a = p
    · subst z; rw [upd_same, upd_same]
    · rw [upd_ne z, upd_ne z, upd_ne z]
  refine ⟨upd_same, [(kx, v)], rfl, by simp, ?_⟩
  rw [e]
  exact k _ _ (.ref p) _ (upd F p (.dK [(kx, v)])) w (LeH.upd (ex.nop hp)) ((ex.froze (o := .dK [(kx, v)]) hp).pure ⟨p, [v], rfl, ⟨rfl, .inl ⟨rfl, upd_same⟩⟩, v, [], rfl, r _, rfl⟩)
/-- o.upper() -/
theorem e_upper {apos : Pos} (ho : PE X z (tO P Γ Xp a)) (hb : attributeBase z "upper" X.env (eval z X.env) = eval z X.env) (hline : (apos.endLine == pos.line) = true) : PE X (.Call (.Attribute z "upper" apos) [] [] pos) (tE P Γ Xp (.bm .upper a [])) :=
  pe_imp (pe_upper ho hb hline) fun σ H Q h => by
    obtain ⟨env, F, R, ex, w, k⟩ := h
    simp only [wE] at w
    refine ⟨env, F, _, ex, w, fun o env1 v H1 F1 w1 m1 e1 p1 => ?_⟩
    simp only [wOs, List.map_cons, List.map_nil] at w1
    obtain ⟨d, hd, ht, w1⟩ := w1
    obtain ⟨s, rfl⟩ : ∃ s, d = .str s := by
      cases d <;> first
        | exact ⟨_, rfl⟩
        | cases ht
    rw [hd] at w1
    have w1 : s.length ≤ 5592405 ∧ (Txt.upper s).length ≤ line ∧ R (.val (.str (Txt.upper s))) env1 := w1
    have hv := (e1.res p1 hd).str
    exact ⟨⟨_, hv.1⟩, _, hv.1, rfl, w1.1, k _ _ _ H1 F1 w1.2.2 m1 (e1.pure ⟨rfl, w1.2.1⟩)⟩
theorem rstrs {L : Lay} {F : Hp} : ∀ {ts : List Str} {vs : List V}, Reps L F (ts.map D.str) vs → vs = ts.map V.str
  | [], _, h => h
  | b :: bs, _, ⟨v, r, e, h1, h2⟩ => by
    subst e
    rw [h1.1, rstrs h2]
    rfl
theorem strsR {L : Lay} {F : Hp} : ∀ {ts : List Str}, (∀ t ∈ ts, t.length ≤ line) → Reps L F (ts.map D.str) (ts.map V.str)
  | [], _ => rfl
  | t :: ts, h => ⟨.str t, ts.map V.str, rfl, ⟨rfl, h t (List.mem_cons_self ..)⟩, strsR fun x hx => h x (List.mem_cons_of_mem _ hx)⟩
/-- a method of a text with one argument -/
theorem bm_text {m : BM} {mx : E} {r : V → List V → Hp → VK → Prop} (hm : ∀ d, bmTy m d = true → ∃ s, d = .str s)
    (hr : ∀ (x y : Option D) (R : RV → Prop), bmW m [x, y] R → ∃ (s : Str) (d : D), x = some (.str s) ∧ y = some d ∧ ∀ (F H : Hp) (env : Env) (σ : L2.St) (v : V) (Q : VK), EX P σ H env F → Top P F H d v → s.length ≤ line →
      (∀ r v H' F', R r → LeH F F' → EXv P σ H' env F' v r → Q v H') → r (.str s) [v] H Q) :
    ∀ σ H Q, tE P Γ Xp (.bm m a [mx]) σ H Q → tM1 r (tO P Γ Xp a) (tO P Γ Xp mx) σ H Q := fun σ H Q h => by
  obtain ⟨env, F, R, ex, w, k⟩ := h
  simp only [wE] at w
  refine ⟨env, F, _, ex, w, fun o env1 v H1 F1 w1 m1 e1 p1 => ?_⟩
  obtain ⟨d, hd, ht, w1⟩ := w1
  obtain ⟨s, rfl⟩ := hm d ht
  have hv := (e1.res p1 hd).str
  simp only [wOs] at w1
  refine ⟨⟨s, hv.1⟩, env1, F1, _, e1, w1, fun o2 env2 v2 H2 F2 w2 m2 e2 p2 => ?_⟩
  simp only [List.map_cons, List.map_nil] at w2
  obtain ⟨s', d, h1, h2, h3⟩ := hr _ _ _ w2
  have hv' := (e2.res (p1.mono m2) h1).str
  rw [hv'.1]
  exact h3 F2 H2 env2 σ v2 Q e2 (e2.res p2 h2) hv'.2 fun r v H' F' hR m e => k r env2 v H' F' hR ((m1.trans m2).trans m) e
section
variable {apos : Pos} {ym : E}
theorem bmW_join {x y : Option D} {R : RV → Prop} (w : bmW .join [x, y] R) : ∃ (s : Str) (ds : List D), x = some (.str s) ∧ y = some (.lst ds) ∧ ∃ ts : List Str, ds = ts.map .str ∧ ((ts.map (·.length)).sum + ts.length * s.length ≤ line ∧ (Txt.join s ts).length ≤ line) ∧ R (.val (.str (Txt.join s ts))) := by
  unfold bmW at w
  split at w <;> first
    | exact w.elim
    | (rename_i h; injection h with h1 h2; injection h2 with h2 h3; subst h1; subst h2; exact ⟨_, _, rfl, rfl, w⟩)
    | (rename_i h _; cases h; done)
    | (rename_i h; cases h; done)
theorem bmW_split {x y : Option D} {R : RV → Prop} (w : bmW .split [x, y] R) : ∃ s b : Str, x = some (.str s) ∧ y = some (.str b) ∧ (b.length == 0) = false ∧ (s.length + 2 ≤ line ∧ ∀ t ∈ Txt.split s b, t.length ≤ line) ∧ R (.fr (.lst ((Txt.split s b).map .str))) := by
  unfold bmW at w
  split at w <;> first
    | exact w.elim
    | (rename_i h; injection h with h1 h2; injection h2 with h2 h3; subst h1; subst h2; exact ⟨_, _, rfl, rfl, w⟩)
    | (rename_i h _; cases h; done)
    | (rename_i h; cases h; done)
theorem bmW_part {x y : Option D} {R : RV → Prop} (w : bmW .part [x, y] R) : ∃ s b : Str, x = some (.str s) ∧ y = some (.str b) ∧ (b.length == 0) = false ∧ ((Txt.partition s b).1.length ≤ line ∧ (Txt.partition s b).2.1.length ≤ line ∧ (Txt.partition s b).2.2.length ≤ line ∧ s.length ≤ line) ∧
    R (.val (.tup [.str (Txt.partition s b).1, .str (Txt.partition s b).2.1, .str (Txt.partition s b).2.2])) := by
  unfold bmW at w
  split at w <;> first
    | exact w.elim
    | (rename_i h; injection h with h1 h2; injection h2 with h2 h3; subst h1; subst h2; exact ⟨_, _, rfl, rfl, w⟩)
    | (rename_i h _; cases h; done)
    | (rename_i h; cases h; done)
theorem e_join (hK : X.K = P.L.K) (ho : PE X z (tO P Γ Xp a)) (he : PE X y (tO P Γ Xp ym)) (hst : starEach [y] X.env = [(false, eval y X.env)]) (hb : attributeBase z "join" X.env (eval z X.env) = eval z X.env) (hline : (apos.endLine == pos.line) = true) :
    PE X (.Call (.Attribute z "join" apos) [y] [] pos) (tE P Γ Xp (.bm .join a [ym])) :=
  pe_imp (pe_join ho he hst hb hline) (bm_text (fun d h => by cases d <;> first | exact ⟨_, rfl⟩ | cases h) fun x y R w => by
    obtain ⟨s, ds, h1, h2, ts, rfl, h4, h5⟩ := bmW_join w
    refine ⟨s, _, h1, h2, fun F H env σ v Q ex t hs k => ?_⟩
    obtain ⟨p, vs, rfl, hp, hr⟩ := t.lst ex.sub
    rw [rstrs hr] at hp
    exact ⟨s, p, ts, rfl, rfl, .inl (.inl (.inl hp)), h4.1, k _ _ H F h5 (LeH.refl F) (ex.pure ⟨rfl, h4.2⟩)⟩)
theorem e_split (ho : PE X z (tO P Γ Xp a)) (he : PE X y (tO P Γ Xp ym)) (hst : starEach [y] X.env = [(false, eval y X.env)]) (hb : attributeBase z "split" X.env (eval z X.env) = eval z X.env) (hline : (apos.endLine == pos.line) = true) :
    PE X (.Call (.Attribute z "split" apos) [y] [] pos) (tE P Γ Xp (.bm .split a [ym])) :=
  pe_imp (pe_split ho he hst hb hline) (bm_text (fun d h => by cases d <;> first | exact ⟨_, rfl⟩ | cases h) fun x y R w => by
    obtain ⟨s, b, h1, h2, h3, h4, h5⟩ := bmW_split w
    refine ⟨s, _, h1, h2, fun F H env σ v Q ex t hs k => ?_⟩
    rw [t.str.1]
    refine ⟨s, b, rfl, rfl, h3, by rw [← line_eq]; exact h4.1, fun p hp => ?_⟩
    exact k _ _ _ F h5 (LeH.refl F) (ex.fresh hp (strsR h4.2)))
theorem e_part (ho : PE X z (tO P Γ Xp a)) (he : PE X y (tO P Γ Xp ym)) (hst : starEach [y] X.env = [(false, eval y X.env)]) (hb : attributeBase z "partition" X.env (eval z X.env) = eval z X.env) (hline : (apos.endLine == pos.line) = true) :
    PE X (.Call (.Attribute z "partition" apos) [y] [] pos) (tE P Γ Xp (.bm .part a [ym])) :=
  pe_imp (pe_partition ho he hst hb hline) (bm_text (fun d h => by cases d <;> first | exact ⟨_, rfl⟩ | cases h) fun x y R w => by
    obtain ⟨s, b, h1, h2, h3, ⟨h4, h5, h6, h7⟩, h8⟩ := bmW_part w
    refine ⟨s, _, h1, h2, fun F H env σ v Q ex t hs k => ?_⟩
    rw [t.str.1]
    refine ⟨s, b, rfl, rfl, h3, by rw [← line_eq]; exact h7, fun p hp => ?_⟩
    exact k _ _ _ _ h8 (LeH.upd (ex.nop hp)) ((ex.froze (o := .tup [.str (Txt.partition s b).1, .str (Txt.partition s b).2.1, .str (Txt.partition s b).2.2]) hp).pure ⟨p, [.str (Txt.partition s b).1, .str (Txt.partition s b).2.1, .str (Txt.partition s b).2.2], rfl, .inl (.inl upd_same), _, _, rfl, ⟨rfl, h4⟩, _, _, rfl, ⟨rfl, h5⟩, _, _, rfl, ⟨rfl, h6⟩, rfl⟩))
end
end
end G
/-! S17: == of other data and an instance: the data's own == declines. -/
namespace G
open PySem PySem.Spec PySem.Calls L2 PyProof.Rows
open PySem.SeqAt
open MeetsSeq MeetsSeq2 MeetsSeq3 SeqRoads2
section
variable {prog : Program} {w : World} {A : Around} {E : Value → Shared → Prop} {s : Shared} {K : PySem.W.Frag} {x C f : Addr} {dx : Addr} {b : Value}
/-- how a comparison's builtin ends: it declines -/
def Dec (s : Shared) (v : Value) (s' : Shared) : Prop := v = .notImplemented ∧ s' = s
theorem asInt_inst {Q : Option Int → Shared → Prop} {M : Model} (h : s.heap.get? x = some (PySem.W.instObj C dx)) (q : Q none s) : wpAny M A (asInt? (.ref x)) Q E s := by
  show wpAny M A (load x >>= fun o => _) Q E s
  exact wpAny_bind (wpAny_load h (wpAny_pure q))
theorem asStr_inst {Q : Option Str → Shared → Prop} {M : Model} (h : s.heap.get? x = some (PySem.W.instObj C dx)) (q : Q none s) : wpAny M A (asStr? (.ref x)) Q E s := by
  show wpAny M A (load x >>= fun o => _) Q E s
  exact wpAny_bind (wpAny_load h (wpAny_pure q))
theorem isI_inst {Q : Bool → Shared → Prop} {M : Model} {T : String} (h : s.heap.get? x = some (PySem.W.instObj C dx)) (X : K.In s.heap) (e : PySem.W.mroIn K C (.type T) = some false) (q : Q false s) : wpAny M A (isInstance (.ref x) (.type T)) Q E s := by
  unfold isInstance
  refine wpAny_bind (m := typeOf (.ref x)) ?_
  show wpAny M A (load x >>= fun o => pure o.cls) _ E s
  exact wpAny_bind (wpAny_load h (wpAny_pure ((PySem.W.looks_mroIn X e).here q)))
theorem dec_int {a : Int} {t : Tok} (h : s.heap.get? x = some (PySem.W.instObj C dx)) : wpAny (model prog w) A (call (.builtin "int.__eq__") [.int a t, .ref x]) (Dec s) E s := by
  refine GQ.call_here F.slot_int_eq (typeIs_int s a t) F.entry_int_eq (F.args_int_eq_2 _ _) ?_
  show wpAny _ _ (Builtin.«int.__eq__» ⟨[.int a t, .ref x], []⟩) _ _ s
  obtain ⟨hp, g, d, tk, os⟩ := s
  wp_walk using wpAny_load h
  exact ⟨rfl, rfl⟩
theorem dec_bool {a : Bool} (h : s.heap.get? x = some (PySem.W.instObj C dx)) : wpAny (model prog w) A (call (.builtin "int.__eq__") [.bool a, .ref x]) (Dec s) E s := by
  refine GQ.call_here F.slot_bool_eq (show s.TypeIs (.bool a) "bool" from rfl) F.entry_int_eq (F.args_int_eq_2 _ _) ?_
  obtain ⟨hp, g, d, tk, os⟩ := s
  wp_walk using wpAny_load h
  exact ⟨rfl, rfl⟩
theorem dec_str {a : Str} {t : Tok} (h : s.heap.get? x = some (PySem.W.instObj C dx)) : wpAny (model prog w) A (call (.builtin "str.__eq__") [.str a t, .ref x]) (Dec s) E s := by
  refine GQ.call_here F.slot_str_eq (typeIs_str s a t) F.entry_str_eq (F.args_str_eq_2 _ _) ?_
  obtain ⟨hp, g, d, tk, os⟩ := s
  wp_walk using wpAny_load h
  exact ⟨rfl, rfl⟩
theorem dec_none : wpAny (model prog w) A (call (.builtin "NoneType.__eq__") [.none, .ref x]) (Dec s) E s :=
  call_gives F.slot_NoneType_eq (show s.TypeIs .none "NoneType" from rfl) F.entry_NoneType_eq (F.args_NoneType_eq_2 _ _) (NoneType___eq___none_ref_0 x) ⟨rfl, rfl⟩
theorem dec_tuple {l : Addr} {o : Obj} (hl : s.heap.get? l = some o) (hc : o.cls = .type "tuple") (h : s.heap.get? x = some (PySem.W.instObj C dx)) (X : K.In s.heap) (e : PySem.W.mroIn K C (.type "tuple") = some false) :
    wpAny (model prog w) A (call (.builtin "tuple.__eq__") [.ref l, .ref x]) (Dec s) E s := by
  refine GQ.call_here F.slot_tuple_eq ⟨_, hl, hc⟩ F.entry_tuple_eq (F.args_tuple_eq_2 _ _) ?_
  have q := fun (M : Model) (A : Around) (E : Value → Shared → Prop) (Q : Bool → Shared → Prop) (hq : Q false s) => isI_inst (M := M) (A := A) (E := E) h X e hq
  obtain ⟨hp, g, d, tk, os⟩ := s
  wp_walk using (q _ _ _ _)
  exact ⟨rfl, rfl⟩
theorem dec_list {l : Addr} {o : Obj} (hl : s.heap.get? l = some o) (hc : o.cls = .type "list") (h : s.heap.get? x = some (PySem.W.instObj C dx)) (X : K.In s.heap) (e : PySem.W.mroIn K C (.type "list") = some false) :
    wpAny (model prog w) A (call (.builtin "list.__eq__") [.ref l, .ref x]) (Dec s) E s := by
  refine GQ.call_here F.slot_list_eq ⟨_, hl, hc⟩ F.entry_list_eq (F.args_list_eq_2 _ _) ?_
  have q := fun (M : Model) (A : Around) (E : Value → Shared → Prop) (Q : Bool → Shared → Prop) (hq : Q false s) => isI_inst (M := M) (A := A) (E := E) h X e hq
  obtain ⟨hp, g, d, tk, os⟩ := s
  wp_walk using (q _ _ _ _)
  exact ⟨rfl, rfl⟩
theorem dec_dict {l : Addr} {o : Obj} (hl : s.heap.get? l = some o) (hc : o.cls = .type "dict") (h : s.heap.get? x = some (PySem.W.instObj C dx)) (X : K.In s.heap) (e : PySem.W.mroIn K C (.type "dict") = some false) :
    wpAny (model prog w) A (call (.builtin "dict.__eq__") [.ref l, .ref x]) (Dec s) E s := by
  refine GQ.call_here F.slot_dict_eq ⟨_, hl, hc⟩ F.entry_dict_eq (F.args_dict_eq_2 _ _) ?_
  have q := fun (M : Model) (A : Around) (E : Value → Shared → Prop) (Q : Bool → Shared → Prop) (hq : Q false s) => isI_inst (M := M) (A := A) (E := E) h X e hq
  obtain ⟨hp, g, d, tk, os⟩ := s
  wp_walk using (q _ _ _ _)
  exact ⟨rfl, rfl⟩
end

/-- what an own == may give -/
def BlB (Q : Bool → Shared → Prop) (v : Value) (s' : Shared) : Prop := ∃ r, v = .bool r ∧ Q r s'
section
variable {prog : Program} {w : World} {A : Around} {E : Value → Shared → Prop} {s : Shared} {K : PySem.W.Frag} {x C f : Addr} {ox : Obj} {od : Option Obj} {b tb : Value}
theorem notFirst_type {T : String} (h : T ∈ (["NoneType", "bool", "int", "str", "tuple", "list", "dict"] : List String)) : PySem.W.notFirst K C (.type T) = true := by
  have key : ∀ l : List Value, fastBuiltinMro T = some l → l.contains (.ref C) = false → PySem.W.notFirst K C (.type T) = true := fun l e n => by
    have : PySem.W.subIn K (.type T) (.ref C) = some false := by
      show (fastBuiltinMro T).map (·.contains (.ref C)) = some false
      rw [e, ← n]; rfl
    unfold PySem.W.notFirst
    rw [this]
    simp
  simp only [List.mem_cons, List.not_mem_nil, or_false] at h
  rcases h with rfl | rfl | rfl | rfl | rfl | rfl | rfl
  · exact key [.type "NoneType", .type "object"] (by decide +kernel) (by simp)
  · exact key [.type "bool", .type "int", .type "object"] (by decide +kernel) (by simp)
  · exact key [.type "int", .type "object"] (by decide +kernel) (by simp)
  · exact key [.type "str", .type "object"] (by decide +kernel) (by simp)
  · exact key [.type "tuple", .type "object"] (by decide +kernel) (by simp)
  · exact key [.type "list", .type "object"] (by decide +kernel) (by simp)
  · exact key [.type "dict", .type "object"] (by decide +kernel) (by simp)
theorem try_own {Q : Bool → Shared → Prop} {nm : Str} (X : K.In s.heap) (I : PySem.W.InstAt s.heap x ox C od)
    (hs : PySem.W.findIn K (.ref C) nm = some (some (.ref f))) (hf : PySem.W.isFn K (.ref f) = true) (h : wpAny (model prog w) A (call (.ref f) [.ref x, b]) (BlB Q) E s) :
    wpAny (model prog w) A (tryCompare (.ref x) nm b) (fun r s' => ∃ v, r = some v ∧ BlB Q v s') E s := by
  unfold tryCompare
  refine wpAny_bind (PySem.W.ifBound_K X I hs hf (wpAny_mono h (fun v s' hv => ?_) fun _ _ e => e))
  obtain ⟨r, rfl, q⟩ := hv
  exact wpAny_pure ⟨_, rfl, r, rfl, q⟩
theorem rc_own {Q : Bool → Shared → Prop} {op : CmpOp} (hu : A.units < cLine) (X : K.In s.heap) (I : PySem.W.InstAt s.heap x ox C od) (hb : PySem.W.Looks (model prog w) s.heap (typeOf b) tb) (hn : PySem.W.notFirst K C tb = true)
    (one : wpAny (model prog w) A (tryCompare (.ref x) (cmpInfo op).2.1 b) (fun r s' => ∃ v, r = some v ∧ BlB Q v s') E s) :
    wpAny (model prog w) A (richCompare op (.ref x) b) (BlB Q) E s := by
  unfold richCompare
  simp only [oneThing_ref]
  refine wpAny_holding (wpAny_bind (wpAny_cRoomFor hu ?_))
  refine wpAny_bind (I.type.here (wpAny_bind (hb.here ?_)))
  split
  · rename_i q
    have e : PySem.W.subIn K tb (.ref C) = some false := by
      rcases Bool.or_eq_true_iff.mp hn with e | e
      · rw [beq_iff_eq.mp e] at q; simp at q
      · exact beq_iff_eq.mp e
    refine wpAny_bind ((PySem.W.looks_subIn X e).here ?_)
    simp only [Bool.false_eq_true, if_false]
    refine wpAny_bind (wpAny_mono one (fun r s' z => ?_) fun _ _ e => e)
    obtain ⟨v, rfl, hq⟩ := z
    exact wpAny_pure hq
  · refine wpAny_bind (wpAny_pure ?_)
    simp only [Bool.false_eq_true, if_false]
    refine wpAny_bind (wpAny_mono one (fun r s' z => ?_) fun _ _ e => e)
    obtain ⟨v, rfl, hq⟩ := z
    exact wpAny_pure hq
/-- the instance stands behind other data -/
theorem rc_back {Q : Bool → Shared → Prop} {T id : String} {dx : Addr} (hu : A.units < cLine) (X : K.In s.heap) (I : PySem.W.InstAt s.heap x ox C od) (hb : s.TypeIs b T) (Sl : Slot T (cmpInfo .Eq).2.1 id)
    (hd : wpAny (model prog w) A (call (.builtin id) [b, .ref x]) (Dec s) E s) (hm : PySem.W.mroIn K C (.type T) = some false)
    (hs : PySem.W.findIn K (.ref C) "__eq__" = some (some (.ref f))) (hf : PySem.W.isFn K (.ref f) = true) (h : wpAny (model prog w) A (call (.ref f) [.ref x, b]) (BlB Q) E s) :
    wpAny (model prog w) A (richCompare .Eq b (.ref x)) (BlB Q) E s := by
  unfold richCompare
  simp only [hb.oneThing_none]
  refine wpAny_holding (wpAny_bind (wpAny_cRoomFor hu ?_))
  refine wpAny_bind (wpAny_typeOf hb (wpAny_bind (I.type.here ?_)))
  rw [show (Value.type T != Value.ref C) = true from by simp]
  simp only [if_true]
  refine wpAny_bind ((PySem.W.looks_mroIn X hm).here ?_)
  simp only [Bool.false_eq_true, if_false, Bool.not_false, if_true]
  refine wpAny_bind (m := tryCompare b _ (.ref x)) (wpAny_tryCompare_declines hb Sl (wpAny_mono hd (fun v s' z => ?_) fun _ _ z => z))
  obtain ⟨rfl, rfl⟩ := z
  refine ⟨rfl, ?_⟩
  refine wpAny_bind (m := tryCompare (.ref x) _ b) (wpAny_mono (try_own X I hs hf h) (fun r s' z => ?_) fun _ _ z => z)
  obtain ⟨v, rfl, hq⟩ := z
  exact wpAny_pure hq
/-- == or != of two tuples, item by item, as what J keeps lets it -/
def opT (neg : Bool) : CmpOp := if neg = true then .NotEq else .Eq
theorem rc_tupB {Q : Bool → Shared → Prop} {l m : Addr} {o o2 : Obj} {items items2 : Array Value} {n n2 : Nat} {neg : Bool} {e : Nat → Bool} {J : Shared → Prop} (hu : A.units < cLine)
    (hl : s.heap.get? l = some o) (hm : s.heap.get? m = some o2) (c1 : o.cls = .type "tuple") (d1 : o.data = .seq items n) (c2 : o2.cls = .type "tuple") (d2 : o2.data = .seq items2 n2) (h0 : J s)
    (turn : ∀ i (h1 : i < items.size) (h2 : i < items2.size) s, J s → wpAny (model prog w) A.in1 (eqBool items[i] items2[i]) (fun r s' => r = e i ∧ J s') E s)
    (fin : ∀ s', J s' → Q (if neg = true then !((List.range (min items.size items2.size)).all e && items.size == items2.size) else ((List.range (min items.size items2.size)).all e && items.size == items2.size)) s') :
    wpAny (model prog w) A (richCompare (opT neg) (.ref l) (.ref m)) (BlB Q) E s := by
  obtain ⟨cls, dd, data, sl⟩ := o
  obtain ⟨cls2, dd2, data2, sl2⟩ := o2
  simp only at c1 d1 c2 d2
  subst c1 d1 c2 d2
  have hZ : (items.toList.zip items2.toList).length = min items.size items2.size := by simp
  have f2 := AutoSeq1.sub_tuple_tuple
  have stop : ∀ i, i < min items.size items2.size → e i = false → (List.range (min items.size items2.size)).all e = false := fun i hi he => by
    cases h : (List.range (min items.size items2.size)).all e with
    | false => rfl
    | true =>
      have := List.all_eq_true.mp h i (List.mem_range.mpr hi)
      rw [he] at this; cases this
  have go : ∀ i, (∀ j < i, e j = true) → min items.size items2.size ≤ i → (List.range (min items.size items2.size)).all e = true := fun i hj hi => by
    rw [List.all_eq_true]
    intro j hm
    exact hj j (Nat.lt_of_lt_of_le (List.mem_range.mp hm) hi)
  cases neg with
  | false =>
    refine wpAny_richCompare_same_room (op := .Eq) ⟨_, hl, rfl⟩ ⟨_, hm, rfl⟩ F.slot_tuple_eq (GQ.call_here F.slot_tuple_eq ⟨_, hl, rfl⟩ F.entry_tuple_eq (F.args_tuple_eq_2 _ _) ?_) hu
    obtain ⟨hp, g, d, tk, os⟩ := s
    wp_walk using AutoSeq1.wpAny_loadPart' hl, AutoSeq1.wpAny_loadPart' hm, wpAny_forIn_list _ (fun rest b s' => b.1 = none ∧ ∃ i, rest = (items.toList.zip items2.toList).drop i ∧ i ≤ min items.size items2.size ∧ (∀ j < i, e j = true) ∧ J s') _
    case turn =>
      rintro ⟨y, x⟩ rest b s' ⟨hb', i, hz, hi, hj, hI⟩
      have hlt : i < (items.toList.zip items2.toList).length := by
        rcases Nat.lt_or_ge i (items.toList.zip items2.toList).length with h' | h'
        · exact h'
        · rw [List.drop_of_length_le h'] at hz; cases hz
      have h1 : i < items.size := by omega
      have h2 : i < items2.size := by omega
      rw [List.drop_eq_getElem_cons hlt] at hz
      injection hz with hyx hrest
      have hy : y = items[i] := by have := congrArg Prod.fst hyx; simpa using this
      have hx : x = items2[i] := by have := congrArg Prod.snd hyx; simpa using this
      subst hy hx
      refine wpAny_bind (wpAny_mono (turn i h1 h2 s' hI) (fun r s2 q2 => ?_) fun _ _ x => x)
      obtain ⟨hr, q2⟩ := q2
      cases he : e i with
      | true =>
        rw [he] at hr
        subst hr
        wp_walk
        have hj2 : ∀ j, j < i + 1 → e j = true := by
          intro j hj'
          rcases Nat.lt_succ_iff_lt_or_eq.mp hj' with h | h
          · exact hj j h
          · rw [h]; exact he
        exact ⟨rfl, i + 1, hrest, by omega, hj2, q2⟩
      | false =>
        rw [he] at hr
        subst hr
        wp_walk
        have := fin s2 q2
        rw [stop i (by omega) he] at this
        exact ⟨(fun x => nomatch x), _, rfl, by simpa using this⟩
    case fin =>
      rintro ⟨b1, b2⟩ s' ⟨hb', i, hz, hi, hj, hI⟩
      simp only at hb'
      subst hb'
      have hge : min items.size items2.size ≤ i := by
        rcases Nat.lt_or_ge i (items.toList.zip items2.toList).length with h' | h'
        · rw [List.drop_eq_getElem_cons h'] at hz; cases hz
        · omega
      have := fin s' hI
      rw [go i hj hge] at this
      wp_walk
      exact ⟨(fun x => nomatch x), _, rfl, by simpa [Builtin.Tuple.tupleCompareSizes] using this⟩
    case h =>
      exact ⟨rfl, 0, rfl, Nat.zero_le _, fun j hj => absurd hj (Nat.not_lt_zero _), h0⟩
  | true =>
    refine wpAny_richCompare_same_room (op := .NotEq) ⟨_, hl, rfl⟩ ⟨_, hm, rfl⟩ F.slot_tuple_ne (GQ.call_here F.slot_tuple_ne ⟨_, hl, rfl⟩ F.entry_tuple_ne (F.args_tuple_ne_2 _ _) ?_) hu
    obtain ⟨hp, g, d, tk, os⟩ := s
    wp_walk using AutoSeq1.wpAny_loadPart' hl, AutoSeq1.wpAny_loadPart' hm, wpAny_forIn_list _ (fun rest b s' => b.1 = none ∧ ∃ i, rest = (items.toList.zip items2.toList).drop i ∧ i ≤ min items.size items2.size ∧ (∀ j < i, e j = true) ∧ J s') _
    case turn =>
      rintro ⟨y, x⟩ rest b s' ⟨hb', i, hz, hi, hj, hI⟩
      have hlt : i < (items.toList.zip items2.toList).length := by
        rcases Nat.lt_or_ge i (items.toList.zip items2.toList).length with h' | h'
        · exact h'
        · rw [List.drop_of_length_le h'] at hz; cases hz
      have h1 : i < items.size := by omega
      have h2 : i < items2.size := by omega
      rw [List.drop_eq_getElem_cons hlt] at hz
      injection hz with hyx hrest
      have hy : y = items[i] := by have := congrArg Prod.fst hyx; simpa using this
      have hx : x = items2[i] := by have := congrArg Prod.snd hyx; simpa using this
      subst hy hx
      refine wpAny_bind (wpAny_mono (turn i h1 h2 s' hI) (fun r s2 q2 => ?_) fun _ _ x => x)
      obtain ⟨hr, q2⟩ := q2
      cases he : e i with
      | true =>
        rw [he] at hr
        subst hr
        wp_walk
        have hj2 : ∀ j, j < i + 1 → e j = true := by
          intro j hj'
          rcases Nat.lt_succ_iff_lt_or_eq.mp hj' with h | h
          · exact hj j h
          · rw [h]; exact he
        exact ⟨rfl, i + 1, hrest, by omega, hj2, q2⟩
      | false =>
        rw [he] at hr
        subst hr
        wp_walk
        have := fin s2 q2
        rw [stop i (by omega) he] at this
        exact ⟨(fun x => nomatch x), _, rfl, by simpa using this⟩
    case fin =>
      rintro ⟨b1, b2⟩ s' ⟨hb', i, hz, hi, hj, hI⟩
      simp only at hb'
      subst hb'
      have hge : min items.size items2.size ≤ i := by
        rcases Nat.lt_or_ge i (items.toList.zip items2.toList).length with h' | h'
        · rw [List.drop_eq_getElem_cons h'] at hz; cases hz
        · omega
      have := fin s' hI
      rw [go i hj hge] at this
      wp_walk
      exact ⟨(fun x => nomatch x), _, rfl, by simpa [Builtin.Tuple.tupleCompareSizes, bne] using this⟩
    case h =>
      exact ⟨rfl, 0, rfl, Nat.zero_le _, fun j hj => absurd hj (Nat.not_lt_zero _), h0⟩
end
end G
/-! L1: a lambda of one parameter: its body's context. -/
namespace G
open PySem PySem.Spec L2 LamX
/-- one parameter x; captured names, globals -/
structure LamP (sc scope : Scope) (x : Str) : Prop where
  kind : scope.kind = .function
  co : scope.isCoroutine = false
  gen : scope.isGenerator = false
  par : scope.names.lookup x = some .local
  own : ∀ y ∈ scope.names, y.2 ≠ .cell ∧ (y.2 = .local → y.1 = x)
  free : ∀ y ∈ scope.names, y.2 = .free → sc.names.lookup y.1 = some .cell ∨ sc.names.lookup y.1 = some .free
def lamPB (sc scope : Scope) (x : Str) : Bool :=
  (decide (scope.kind = .function) && (!scope.isCoroutine && !scope.isGenerator)) && (decide (scope.names.lookup x = some .local) &&
    scope.names.all fun y => !decide (y.2 = .cell) && ((!decide (y.2 = .local) || decide (y.1 = x)) && (!decide (y.2 = .free) || (decide (sc.names.lookup y.1 = some .cell) || decide (sc.names.lookup y.1 = some .free)))))
theorem lamP_by {sc scope : Scope} {x : Str} (h : lamPB sc scope x = true) : LamP sc scope x := by
  unfold lamPB at h
  simp only [Bool.and_eq_true, Bool.or_eq_true, Bool.not_eq_true', decide_eq_true_eq, decide_eq_false_iff_not, List.all_eq_true] at h
  obtain ⟨⟨h1, h2, h3⟩, h4, h5⟩ := h
  exact ⟨h1, h2, h3, h4, fun y hy => ⟨(h5 y hy).1, fun e => (h5 y hy).2.1.resolve_left fun z => z e⟩, fun y hy e => (h5 y hy).2.2.resolve_left fun z => z e⟩
theorem LamP.caught {X : Cx} {scope : Scope} {x : Str} (L : LamP X.env.scope scope x) (ok : X.Ok) {y : Str} (hy : (y, NameKind.free) ∈ scope.names) : ∃ c, X.env.cells.lookup y = some c :=
  ok.has y ((L.free _ hy rfl).imp (fun k => k) (fun k => k))
section
variable {X : Cx} {pins : List (Addr × Obj)} {σ : L2.St} {H HZ : Hp} {s s1 : Shared} {scope : Scope} {x : Str} {i : Nat} {v : V} {u : Value}
/-- the lambda's cells are the maker's -/
theorem clo_cells (L : LamP X.env.scope scope x) (ok : X.Ok) {y : Str} {c : Addr} (e : (cloFrom X.env.cells scope.names []).lookup y = some c) : X.env.cells.lookup y = some c := by
  rcases cloFrom_mem (PySem.mem_of_lookup e) with z | ⟨z1, z2⟩
  · cases z
  · obtain ⟨d, hd⟩ := L.caught ok z1
    have hd' : X.env.cells.lookup y = some d := hd
    have : c = d := by rw [z2, hd'] <;> rfl
    rw [this]
    exact hd'
theorem clo_has (h : scope.names.lookup x = some .free) {cells : List (Str × Addr)} : ∃ c, (cloFrom cells scope.names []).lookup x = some c := mem_lookup (cloFrom_has (acc := []) (PySem.mem_of_lookup h))
theorem lam_startP {A : Around} {outer : List PySem.Env} {E : XK} {f c' : Addr} {h₁ : Heap} {tk : Nat} (I : Inv X pins σ H s) (L : LamP X.env.scope scope x) (hi : X.N[i]? = some x) (nd : X.N.Nodup) (e0 : Env0 X.prog X.w X.K X.mg X.base A outer s1 HZ) (hd : A.handled = none)
    (un : Un (frs X.stack) [] H HZ s.heap s1.heap) (hns : h₁.Ns s1.heap.objs.size fun y => ([(x, u)] : List (Str × Value)).reverse.lookup y) (rv : RelV v u) (kp : ∀ b o, s1.heap.get? b = some o → h₁.get? b = some o) :
    Inv (lamCx X A outer s1 HZ E scope f c') [] (σ.set i (some v)) HZ { s1 with heap := h₁, toks := tk } := by
  have hcell : ∀ {c : Addr} {z : Option Value}, H c = none → s.heap.IsCell c z → h₁.IsCell c z := by
    intro c z n q
    obtain ⟨o, ho, hq⟩ := q
    obtain ⟨sl, q2⟩ := un.any ho n (by simp)
    exact ⟨_, kp _ _ q2, hq⟩
  have none_ex : ∀ b : Addr, b ∈ (lamCx X A outer s1 HZ E scope f c').ex → False := fun b z => by simp [lamCx] at z
  have nm : ∀ (j : Nat) (y : Str), X.N[j]? = some y → y = x → j = i := fun j y hj e => by
    subst e
    exact (List.getElem?_inj (List.getElem?_eq_some_iff.mp hj).1 nd).mp (hj.trans hi.symm)
  refine { ok := ?ok, os := rfl, bare := e0.bare, base := Un.kept kp, loc := ⟨_, hns, fun j y w hj hw hv => ?loc⟩, cell := fun y c e => ?cell, free := e0.hok.fresh (Nat.le_refl _), freeC := fun y c e => ?freeC, pin := fun q hq => ?pin, hok := e0.hok.kept kp, len := by rw [List.length_set]; exact I.len }
  case ok =>
    refine ⟨e0.mod, L.kind, rfl, rfl, Nat.le_refl _, fun y z c e1 e2 => I.ok.inj y z c (clo_cells L I.ok e1) (clo_cells L I.ok e2), fun y hy => ?_, fun y c z _ => ?_, fun _ => hd, Around.frames_deeper e0.frames, .inr ⟨rfl, rfl⟩, fun b z => (none_ex b z).elim, e0.bs, e0.bsz, fun b _ _ => none_ex b, fun b z => (none_ex b z).elim, e0.funs, e0.frf⟩
    · have hy : scope.names.lookup y = some .cell ∨ scope.names.lookup y = some .free := hy
      rcases hy with hy | hy
      · exact ((L.own _ (PySem.mem_of_lookup hy)).1 rfl).elim
      · exact clo_has hy
    · exact absurd (show false = true from z) Bool.false_ne_true
  case loc =>
    have hv : Vis scope y := hv
    have hj : X.N[j]? = some y := hj
    rcases hv with k | k | k
    · have e : y = x := (L.own _ (PySem.mem_of_lookup k)).2 rfl
      have ej := nm j y hj e
      subst ej
      have hl : j < σ.length := by rw [I.len]; exact (List.getElem?_eq_some_iff.mp hj).1
      rw [List.getElem?_set_self hl] at hw
      cases hw
      subst e
      refine ⟨u, rv, .inl ⟨k, ?_⟩⟩
      show List.lookup y [(y, u)] = some u
      simp
    · exact ((L.own _ (PySem.mem_of_lookup k)).1 rfl).elim
    · have nx : y ≠ x := fun z => by rw [z, L.par] at k; cases k
      have nj : i ≠ j := fun z => by rw [← z, hi] at hj; exact nx (Option.some.inj hj).symm
      rw [List.getElem?_set_ne nj] at hw
      obtain ⟨m, _, hl⟩ := I.loc
      have vis : Vis X.env.scope y := (L.free _ (PySem.mem_of_lookup k) rfl).elim (fun q => .inr (.inl q)) fun q => .inr (.inr q)
      obtain ⟨w', r, q⟩ := hl j y w hj hw vis
      obtain ⟨c2, h2⟩ := clo_has (cells := X.env.cells) k
      refine ⟨w', r, .inr ⟨.inr k, c2, h2, ?_⟩⟩
      have c1 := clo_cells L I.ok h2
      rcases q with ⟨kl, _⟩ | ⟨_, c3, ec, z⟩
      · have kl : X.env.scope.names.lookup y = some .local := kl
        rcases L.free _ (PySem.mem_of_lookup k) rfl with k2 | k2
        · rw [show X.env.scope.names.lookup y = some .cell from k2] at kl; cases kl
        · rw [show X.env.scope.names.lookup y = some .free from k2] at kl; cases kl
      · have hc : c3 = c2 := Option.some.inj (ec.symm.trans c1)
        subst hc
        exact hcell (I.freeC y _ c1) z
  case cell =>
    obtain ⟨z, q⟩ := I.cell y c (clo_cells L I.ok e)
    exact ⟨z, hcell (I.freeC y c (clo_cells L I.ok e)) q⟩
  case freeC =>
    obtain ⟨z, o, ho, _⟩ := I.cell y c (clo_cells L I.ok e)
    exact un.free c o ho (I.freeC y c (clo_cells L I.ok e)) (by simp)
  case pin => simp [lamCx] at hq
/-- the lambda that was made at s is called later, at s1, with u -/
theorem lam_runP {A : Around} {outer : List PySem.Env} {E : XK} {Q : VK} {f c' : Addr} {pm ctv : Value} {params : Arguments} {body : Expr} {k : Nat} {te : TE} (I : Inv X pins σ H s) (L : LamP X.env.scope scope x) (hi : X.N[i]? = some x) (nd : X.N.Nodup)
    (e0 : Env0 X.prog X.w X.K X.mg X.base A outer s1 HZ) (hr : Room (k + 1) A) (un : Un (frs X.stack) [] H HZ s.heap s1.heap) (rv : RelV v u)
    (hf : s1.heap.get? f = some (PySem.W.kla_obj "<lambda>" (X.env.qual ++ "<lambda>") params body scope (cloFrom X.env.cells scope.names []) pm c' ctv)) (hc : HZ c' = some (CodeO c' (X.env.qual ++ "<lambda>")))
    (hbind : bindArgs (PySem.W.kla_fn "<lambda>" (X.env.qual ++ "<lambda>") params body scope (cloFrom X.env.cells scope.names []) pm (.ref c') ctv) ⟨[u], []⟩ = pure [(x, u)])
    (hbody : ∀ s2, Room k (A.deeper (lamEnv X scope s1.heap.objs.size f c')) → PE (lamCx X A outer s2 HZ E scope f c') body te) (ht : te (σ.set i (some v)) HZ Q) :
    codeAny (model X.prog X.w) A (.call (.ref f) ⟨[u], []⟩) (CR (L2.CX X.prog X.w) outer X.prog X.w HZ s1 Q E) s1 := by
  obtain ⟨⟨oc, vs, t, g1, g2, g3⟩, _, _⟩ := e0.hok c' _ hc
  have lim : s1.heap.NoLimit := e0.mod.nolimit.keeps fun b o e => (e0.bs b o e).1
  refine PySem.W.kla_callFunE hr.depth hf rfl L.co L.gen rfl ⟨c', oc, vs, t, rfl, g1, g2, g3⟩ ?_
  rw [hbind]
  refine wpAny_pure (wpAny_newFunctionEnv (fun y hy => (L.own y hy).1) (fun y hy => ?_) (fun h₁ hns hsb => ?_) L.kind)
  · rw [List.mem_singleton] at hy
    subst hy
    exact L.par
  · have grown : ∀ b o, s1.heap.get? b = some o → h₁.get? b = some o := fun b o e => hsb.extBut b o (Nat.ne_of_lt (Heap.lt_size e)) (Heap.get?_push_of_some _ e)
    refine ⟨lim.fresh _ hsb, ?_⟩
    have J := lam_startP (E := E) (f := f) (c' := c') (tk := s1.toks + [(x, u)].length) I L hi nd e0 hr.hd un hns rv grown
    refine PySem.W.kla_codeExpr (wpAny_mono ((hbody s1 (hr.deeper _)).run [] _ _ HZ Q J ht) (fun z s' hq => ?_) fun e s' hq => hq)
    obtain ⟨w', H', J', r, q⟩ := hq
    exact ⟨w', H', J'.os, J'.bare, J'.base, J'.hok, r, q⟩
end
end G
/-! S1: the key lambdas, worked at the library's level; sorted(xs, key=..). -/
namespace G
open PySem PySem.Spec L2 LamX PyProof.Rows
section
variable {prog : Program} {w : World} {A : Around} {s : Shared}
/-- a call of a lambda of one parameter whose body answers with a key -/
theorem key_call {f c' : Addr} {u pm ctv : Value} {q : Str} {params : Arguments} {body : Expr} {scope : Scope} {cl : List (Str × Addr)} {x : Str} {k : PyData}
    (hf : s.heap.get? f = some (PySem.W.kla_obj "<lambda>" q params body scope cl pm c' ctv)) (hcd : s.heap.CodeRec (.ref c') q) (nl : s.heap.NoLimit)
    (hbind : bindArgs (PySem.W.kla_fn "<lambda>" q params body scope cl pm (.ref c') ctv) ⟨[u], []⟩ = pure [(x, u)])
    (hk : scope.kind = .function) (co : scope.isCoroutine = false) (gen : scope.isGenerator = false) (par : scope.names.lookup x = some .local) (own : ∀ y ∈ scope.names, y.2 ≠ .cell) (hr : A.depth < recursionLimit)
    (hbody : ∀ (env : PySem.Env) (h₁ : Heap) (tk : Nat), env.scope = scope → env.cells = cl → (∀ b o, s.heap.get? b = some o → h₁.get? b = some o) → h₁.Ns env.locals (fun y => ([(x, u)] : List (Str × Value)).reverse.lookup y) →
      wpAny (model prog w) (A.deeper env) (eval body env) (PySem.W.KeyPure k { s with heap := h₁, toks := tk }) (fun _ _ => False) { s with heap := h₁, toks := tk }) :
    wpAny (model prog w) A (call (.ref f) [u]) (PySem.W.KeyPure k s) (fun _ _ => False) s := by
  refine wpAny_call ?_
  refine PySem.W.kla_callFunE hr hf rfl co gen rfl hcd ?_
  rw [hbind]
  refine wpAny_pure (wpAny_newFunctionEnv own (fun y hy => ?_) (fun h₁ hns hsb => ?_) hk)
  · rw [List.mem_singleton] at hy
    subst hy
    exact par
  · have grown : ∀ b o, s.heap.get? b = some o → h₁.get? b = some o := fun b o e => hsb.extBut b o (Nat.ne_of_lt (Heap.lt_size e)) (Heap.get?_push_of_some _ e)
    refine ⟨nl.fresh _ hsb, ?_⟩
    refine PySem.W.kla_codeExpr (wpAny_mono (hbody _ h₁ _ rfl rfl grown hns) (fun z s' hq => ?_) fun e s' hq => hq.elim)
    obtain ⟨h', tk, rfl, up, rd⟩ := hq
    exact ⟨h', tk, rfl, fun b o e => up b o (grown b o e), rd⟩
/-- x, the lambda's own -/
theorem own_name {env : PySem.Env} {x : Str} {u : Value} {p : Pos} {Q : Value → Shared → Prop} {E : Value → Shared → Prop} (hk : env.scope.kind = .function) (hl : env.scope.names.lookup x = some .local) (hns : s.heap.Ns env.locals (fun y => ([(x, u)] : List (Str × Value)).reverse.lookup y)) (hd : (x == ("__debug__" : Str)) = false)
    (h : Q u s) : wpAny (model prog w) A (eval (.Name x p) env) Q E s :=
  wpAny_Name (wpAny_loadName_local hk hl hns (show List.lookup x [(x, u)] = some u by simp) h) hd
/-- x[1] -/
theorem body_at1 {env : PySem.Env} {x : Str} {t : Addr} {its : List Value} {i : Int} {n : Tok} {k : Nat} {p1 p2 p3 : Pos} (hk : env.scope.kind = .function) (hl : env.scope.names.lookup x = some .local) (hns : s.heap.Ns env.locals (fun y => ([(x, .ref t)] : List (Str × Value)).reverse.lookup y)) (hd : (x == ("__debug__" : Str)) = false)
    (ht : IsTup s.heap t its.toArray) (h1 : its[1]? = some (.int i n)) (hz : its.length ≤ sizeLine) :
    wpAny (model prog w) A (eval (.Subscript (.Name x p1) (.Constant (.int 1) k p2) p3) env) (PySem.W.KeyPure (.int i) s) (fun _ _ => False) s := by
  refine Subscript_ (own_name hk hl hns hd (wpAny_Constant_int ?_))
  have hlen : 1 < its.length := (List.getElem?_eq_some_iff.mp h1).1
  exact item_tupleL (j := 1) ht (by decide) (by decide) (by unfold seqIndex?; simp; omega) h1 ⟨s.heap, _, rfl, fun _ _ e => e, .int _ _⟩
/-- (0 - ws[x], x) -/
theorem body_wn {env : PySem.Env} {x y : Str} {c l : Addr} {its : List Value} {j v : Int} {n t : Tok} {k k2 : Nat} {p1 p2 p3 p4 p5 p6 p7 : Pos} (hk : env.scope.kind = .function) (hl : env.scope.names.lookup x = some .local) (hns : s.heap.Ns env.locals (fun y => ([(x, .int j n)] : List (Str × Value)).reverse.lookup y)) (hd : (x == ("__debug__" : Str)) = false)
    (hf : env.scope.names.lookup y = some .free) (hc : env.cells.lookup y = some c) (hcell : s.heap.IsCell c (some (.ref l))) (hd2 : (y == ("__debug__" : Str)) = false) (hd3 : (y == ("__classdict__" : Str)) = false)
    (ht : s.heap.IsList l its.toArray) (h0 : 0 ≤ j) (hj : j < 2 ^ 63) (h1 : its[j.toNat]? = some (.int v t)) :
    wpAny (model prog w) A (eval (.Tuple [.BinOp (.Constant (.int 0) k p1) .Sub (.Subscript (.Name y p2) (.Name x p3) p4) p5, .Name x p6] k2 p7) env) (PySem.W.KeyPure (.tuple [.int (0 - v), .int j]) s) (fun _ _ => False) s := by
  refine wpAny_Tuple_spliced (pos := p7) ?_
  refine Calls.spliced_cons ?_
  refine wpAny_BinOp (wpAny_Constant_int ?_)
  refine Subscript_ ?_
  refine wpAny_Name (wpAny_loadName_free hk hf hc hcell ?_ hd3) hd2
  refine own_name hk hl hns hd ?_
  refine item_listL ht h0 hj h1 ?_
  refine sub_int ?_
  refine Calls.spliced_cons (own_name hk hl hns hd (Calls.spliced_nil ⟨by show 2 ≤ sizeLine; rw [sizeLine_eq]; decide, ?_⟩))
  refine ⟨_, _, rfl, fun b o e => Heap.get?_push_of_some _ e, ?_⟩
  exact Reads.tuple (Heap.get?_push_size _ rfl) rfl rfl (as := []) (.cons (as := []) (.int _ _) (.cons (as := []) (.int _ _) .nil))
end
end G
/-! S2: sorted(xs, key=lambda ..). -/
namespace G
open PySem PySem.Spec L2 LamX PyProof.Rows PySem.W
/-- the key's call, from any later heap -/
def KeyAt (X : Cx) (s : Shared) (f u : Value) (k : PyData) : Prop := ∀ (h : Heap) (tk : Nat), (∀ b o, s.heap.get? b = some o → h.get? b = some o) →
  wpAny (model X.prog X.w) X.A.in1.in1 (call f [u]) (PySem.W.KeyPure k { s with heap := h, toks := tk }) (fun _ _ => False) { s with heap := h, toks := tk }
theorem reps_each {L : Lay} {F : Hp} : ∀ {ds : List D} {vs : List V} {us : List Value}, Reps L F ds vs → Vals vs us → EachIs (fun u d => ∃ v, RelV v u ∧ Rep L F d v) us ds
  | [], _, _, h, r => by rw [show _ = ([] : List V) from h] at r; cases r; exact .nil
  | d :: ds, _, _, ⟨v, vs, e, h1, h2⟩, r => by
    subst e
    cases r with
    | cons r1 r2 => exact .cons ⟨v, r1, h1⟩ (reps_each h2 r2)
theorem each_reps {L : Lay} {F : Hp} : ∀ {ds : List D} {us : List Value}, EachIs (fun u d => ∃ v, RelV v u ∧ Rep L F d v) us ds → ∃ vs, Vals vs us ∧ Reps L F ds vs
  | _, _, .nil => ⟨[], .nil, rfl⟩
  | _, _, .cons ⟨v, h1, h2⟩ t => by
    obtain ⟨vs, r, q⟩ := each_reps t
    exact ⟨v :: vs, .cons h1 r, v, vs, rfl, h2, q⟩
section
variable {X : Cx} {P : PP} {Γ : Fns} {Xp : XP} {pos : Pos} {x : Expr} {a : E} {pins : List (Addr × Obj)} {σ : L2.St} {H : Hp} {s : Shared}
/-- the sort, behind its operands -/
theorem srt_run {F : Hp} {ad f : Addr} {ds : List D} {vs : List V} {Q : VK} (I : Inv X pins σ H s) (hl : H ad = some (.lst vs)) (r : Reps P.L F ds vs) (key : D → PyData) (hal : AllAlike (ds.map key)) (hk : Sortable (ds.map key)) (hd : ∀ d ∈ ds, (key d).depth ≤ 100) (hu : X.A.units + 150 < cLine)
    (turn : ∀ u v d, RelV v u → Rep P.L F d v → d ∈ ds → KeyAt X s (.ref f) u (key d))
    (q : ∀ p vs', H p = none → Reps P.L F (ds.mergeSort (dataLe false key)) vs' → Q (.ref p) (upd H p (.lst vs'))) :
    wpAny (model X.prog X.w) X.A (call (.builtin "sorted") [.ref ad] [(Str.ofString "key", .ref f)]) (EP X pins σ Q) X.xe s := by
  obtain ⟨its, ep, rv, ho, hz⟩ := I.lst hl
  have lst : s.heap.IsList ad its.toArray := ⟨_, ho, rfl, _, rfl⟩
  have len : ds.length = vs.length := r.length.symm
  refine sorted_key_data (R := fun u d => ∃ v, RelV v u ∧ Rep P.L F d v) (b := false) key lst (reps_each r rv) hal hk (by rw [len]; exact hz) (fun d hd' => by have := hd d hd'; omega) (PyProof.Rows.ksk_s1 _ _) (fun _ => PyProof.Rows.ksk_l1 _ _) (fun _ => rfl)
    (fun u d ⟨v, h1, h2⟩ hm h tk kp => turn u v d h1 h2 hm h tk kp) fun out c h' tk kp fr at' lo eo => ?_
  obtain ⟨vs', r', q'⟩ := each_reps eo
  have hp : H (s.heap.objs.size + 1) = none := I.hok.fresh (Nat.le_succ _)
  refine ⟨.ref _, upd H (s.heap.objs.size + 1) (.lst vs'), I.laid (t' := tk) kp (Nat.le_succ _) ⟨?_, out, c, r', at'⟩, rfl, q _ _ hp q'⟩
  rw [r'.length, lo, len]
  exact hz
/-! the two keys -/
theorem at1_keys {ds : List D} (h : ds.all has1 = true) : AllAlike (ds.map fun d => PyData.int (key1 d)) ∧ Sortable (ds.map fun d => PyData.int (key1 d)) := by
  refine ⟨fun d hd d' hd' => ?_, .inr fun d hd => ?_⟩
  · obtain ⟨_, _, rfl⟩ := List.mem_map.mp hd
    obtain ⟨_, _, rfl⟩ := List.mem_map.mp hd'
    rfl
  · obtain ⟨_, _, rfl⟩ := List.mem_map.mp hd
    exact ⟨(fun z => nomatch z), (fun xs z => nomatch z)⟩
theorem wn_keys {ds : List D} {f g : D → Int} : AllAlike (ds.map fun d => PyData.tuple [.int (f d), .int (g d)]) ∧ Sortable (ds.map fun d => PyData.tuple [.int (f d), .int (g d)]) := by
  refine ⟨fun d hd d' hd' => ?_, .inl fun d hd => ?_⟩
  · obtain ⟨_, _, rfl⟩ := List.mem_map.mp hd
    obtain ⟨_, _, rfl⟩ := List.mem_map.mp hd'
    rfl
  · obtain ⟨_, _, rfl⟩ := List.mem_map.mp hd
    exact ⟨_, _, rfl⟩
theorem has1_of {d : D} (h : has1 d = true) : ∃ a i r, d = .tup (a :: .int i :: r) := by
  unfold has1 at h
  split at h
  · exact ⟨_, _, _, rfl⟩
  · cases h
/-- sorted(x, key=lambda ..), any key that the lambda's call gives -/
theorem e_srk_of {kf : KF} {params : Arguments} {body : Expr} {scope : Scope} {lpos kpos p : Pos} {c Pt : Addr} (hu : X.A.units + 150 < cLine) (hg : Gl X "sorted") (hm : X.mg "sorted" = none) (ha : PE X x (tO P Γ Xp a))
    (TB : TabB X.base X.mg c Pt) (hcode : X.env.code = .ref c) (hmT : (Pt, X.env.qual ++ "<lambda>") ∈ P.L.T) (hu2 : ∀ p ∈ P.L.T, p.1 = Pt → p.2 = X.env.qual ++ "<lambda>") (hdef : defaultsOf params X.env = ([], []))
    (hfree : ∀ y ∈ scope.names, y.2 = .free → X.Ok → ∃ c, X.env.cells.lookup y.1 = some c) (hst : starEach [x] X.env = [(false, eval x X.env)])
    (core : ∀ (pins : List (Addr × Obj)) (s : Shared) (σ : L2.St) (H : Hp) (env : Env) (F : Hp) (f c' : Addr) (pm ctv : Value) (ad : Addr) (ds : List D) (vs : List V) (R : RV → Prop) (Q : VK), Inv X pins σ H s → EX P σ H env F →
      s.heap.get? f = some (PySem.W.kla_obj "<lambda>" (X.env.qual ++ "<lambda>") params body scope (cloFrom X.env.cells scope.names []) pm c' ctv) → H c' = some (CodeO c' (X.env.qual ++ "<lambda>")) →
      H ad = some (.lst vs) → Reps P.L F ds vs → srkW kf (fun i => res env (.slot i)) (some (.lst ds)) R → (∀ p vs' es, R (RV.fr (.lst es)) → H p = none → Reps P.L F es vs' → Q (.ref p) (upd H p (.lst vs'))) →
      wpAny (model X.prog X.w) X.A (call (.builtin "sorted") [.ref ad] [(Str.ofString "key", .ref f)]) (EP X pins σ Q) X.xe s) :
    PE X (.Call (.Name "sorted" p) [x] [⟨some "key", .Lambda params body scope lpos, kpos⟩] pos) (tE P Γ Xp (.srk kf a)) := by
  refine ⟨fun pins s σ H Q I h => ?_⟩
  obtain ⟨env, F, R, ex, w, k⟩ := h
  simp only [wE] at w
  refine wpAny_Call_Name_kw (ld_blt I hg hm (show bootBuiltins "sorted" = some (.builtin "sorted") by decide +kernel) ?_ (by decide) (by decide))
  refine PyProof.Rows.callWith_kw ?_ (by rw [hst]; rfl) (by rw [hst]; rfl) (by rfl) (by rfl)
  rw [hst]
  refine Calls.spliced_cons (thn (ha.run pins s σ H _ I ⟨env, F, _, ex, w, fun o env1 v H1 F1 w1 m1 e1 p1 => (⟨env1, F1, o, m1, e1, p1, w1⟩ : ∃ env1 F1 o, LeH F F1 ∧ EX P σ H1 env1 F1 ∧ OpR P F1 σ v o ∧ srkW kf (fun i => res env1 (.slot i)) (res env1 o) fun r => R r env1)⟩) fun u s1 ⟨v, H1, I1, rv, q1⟩ => ?_)
  refine Calls.spliced_nil ?_
  obtain ⟨env1, F1, o, m1, e1, p1, w1⟩ := q1
  show wpAny _ _ (evalAll [(do let v ← eval (.Lambda params body scope lpos) X.env; standAt pos; pure v)]) _ _ s1
  refine wpAny_evalAll_cons (wpAny_bind (lam_make2 I1 TB hcode hmT hu2 (by obtain ⟨A, e⟩ := e1; exact e.tb.tabs) hdef (fun y hy z => hfree y hy z I1.ok) fun f c' pm ctv H2 s2 I2 eN T2 hf hfn hfr hco => wpAny_bind (wpAny_standAt (wpAny_pure ?_))))
  refine wpAny_evalAll_nil ?_
  have e2 := e1.growN eN T2
  have hds : ∃ ds, res env1 o = some (.lst ds) := by
    cases q : res env1 o with
    | none => rw [q] at w1; cases kf <;> exact w1.elim
    | some d =>
      rw [q] at w1
      cases d <;> first
        | exact ⟨_, rfl⟩
        | (cases kf <;> exact w1.elim)
  obtain ⟨ds, hds⟩ := hds
  rw [hds] at w1
  obtain ⟨ad, vs, rfl, hH, rp⟩ := (e2.res p1 hds).lst e2.sub
  cases rv
  refine core pins s2 σ H2 env1 F1 f c' pm ctv ad ds vs _ Q I2 e2 hf hco hH rp w1 fun p vs' es hr hp rp' => ?_
  exact k _ env1 _ _ F1 hr m1 (e2.fresh hp rp')

/-! the looks' shapes -/
theorem bind_one {q g : Str} {body : Expr} {scope : Scope} {cl : List (Str × Addr)} {pm cdv ct u : Value} {pp : Pos} :
    bindArgs (kla_fn "<lambda>" q ⟨[], [⟨g, none, pp⟩], none, [], [], none, []⟩ body scope cl pm cdv ct) ⟨[u], []⟩ = pure [(g, u)] := by
  have h : (List.lookup g [(g, u)]) = some u := by simp
  have h2 : (List.lookup g [(g, u)]).isNone = false := by rw [h]; rfl
  have h3 : List.filter (fun n => (List.lookup n [(g, u)]).isNone) [g] = [] := by simp [List.filter, h2]
  unfold bindArgs
  show (do
    let defaults := ((← seqItems? Value.none).getD #[]).toList
    _) = _
  simp [seqItems?, h, h2, h3]
  rfl
/-- one parameter, no default -/
def onePar : Arguments → Option Str
  | ⟨[], [⟨g, none, _⟩], none, [], [], none, []⟩ => some g
  | _ => none
theorem onePar_eq {params : Arguments} {g : Str} (h : onePar params = some g) : ∃ p, params = ⟨[], [⟨g, none, p⟩], none, [], [], none, []⟩ := by
  unfold onePar at h
  split at h
  · cases h; exact ⟨_, rfl⟩
  · cases h
def asAt1 : Expr → Option Str
  | .Subscript (.Name g _) (.Constant (.int i) _ _) _ => if i = 1 then some g else none
  | _ => none
theorem asAt1_eq {e : Expr} {g : Str} (h : asAt1 e = some g) : ∃ p1 k p2 p3, e = .Subscript (.Name g p1) (.Constant (.int 1) k p2) p3 := by
  unfold asAt1 at h
  split at h
  · split at h
    · rename_i z; cases h; subst z; exact ⟨_, _, _, _, rfl⟩
    · cases h
  · cases h
/-- the list's name, the parameter -/
def asWn : Expr → Option (Str × Str)
  | .Tuple [.BinOp (.Constant (.int i) _ _) .Sub (.Subscript (.Name y _) (.Name g _) _) _, .Name g' _] _ _ => if i = 0 ∧ g = g' then some (y, g) else none
  | _ => none
theorem asWn_eq {e : Expr} {y g : Str} (h : asWn e = some (y, g)) : ∃ k p1 p2 p3 p4 p5 p6 k2 p7, e = .Tuple [.BinOp (.Constant (.int 0) k p1) .Sub (.Subscript (.Name y p2) (.Name g p3) p4) p5, .Name g p6] k2 p7 := by
  unfold asWn at h
  split at h
  · split at h
    · rename_i z; cases h; obtain ⟨rfl, rfl⟩ := z; exact ⟨_, _, _, _, _, _, _, _, _, rfl⟩
    · cases h
  · cases h
def dunB (g : Str) : Bool := !(g == ("__debug__" : Str)) && !(g == ("__classdict__" : Str))
theorem code_of {c' : Addr} {q : Str} {h : Heap} (I : Inv X pins σ H s) (hc : H c' = some (CodeO c' q)) (kp : ∀ b o, s.heap.get? b = some o → h.get? b = some o) : h.CodeRec (.ref c') q := by
  obtain ⟨⟨oc, vs, t, g1, g2, g3⟩, _, _⟩ := I.hok c' _ hc
  exact ⟨c', oc, vs, t, rfl, kp _ _ g1, g2, g3⟩
variable {scope sc : Scope} {g : Str} {params : Arguments} {body : Expr} {lpos kpos p : Pos} {c Pt : Addr} {k : Nat}
/-- sorted(xs, key=lambda x: x[1]) -/
theorem e_srk1 (hr : Room (k + 1) X.A) (hu : X.A.units + 150 < cLine) (hg : Gl X "sorted") (hm : X.mg "sorted" = none) (ha : PE X x (tO P Γ Xp a)) (hK : X.K = P.L.K)
    (TB : TabB X.base X.mg c Pt) (hcode : X.env.code = .ref c) (hmT : (Pt, X.env.qual ++ "<lambda>") ∈ P.L.T) (hu2 : ∀ p ∈ P.L.T, p.1 = Pt → p.2 = X.env.qual ++ "<lambda>") (hp : onePar params = some g) (L : LamP X.env.scope scope g) (hb : asAt1 body = some g) (hd : dunB g = true) (hst : starEach [x] X.env = [(false, eval x X.env)]) :
    PE X (.Call (.Name "sorted" p) [x] [⟨some "key", .Lambda params body scope lpos, kpos⟩] pos) (tE P Γ Xp (.srk .at1 a)) := by
  obtain ⟨pp, rfl⟩ := onePar_eq hp
  obtain ⟨p1, k1, p2, p3, rfl⟩ := asAt1_eq hb
  simp only [dunB, Bool.and_eq_true, Bool.not_eq_true'] at hd
  refine e_srk_of hu hg hm ha TB hcode hmT hu2 rfl (fun y hy z ok => L.caught ok (by obtain ⟨y1, y2⟩ := y; cases z; exact hy)) hst fun pins s σ H env F f c' pm ctv ad ds vs R Q I ex hf hco hH rp w fin => ?_
  obtain ⟨w1, w2⟩ := w
  obtain ⟨k1, k2⟩ := at1_keys w1
  have le := ex.sub
  refine srt_run I hH rp (fun d => .int (key1 d)) k1 k2 (fun d _ => Nat.zero_le _) hu (fun u v d rv rd hd' h tk kp => ?_) fun p vs' hp' rp' => fin p vs' _ w2 hp' (by rw [dataLe_int] at rp'; exact rp')
  obtain ⟨d0, i, r, rfl⟩ := has1_of (List.all_eq_true.mp w1 d hd')
  obtain ⟨t, ws, rfl, st, v0, ws1, rfl, _, v1, ws2, rfl, h1, _⟩ := rd
  cases rv
  obtain rfl : v1 = V.int i := h1
  obtain ⟨its, rits, tup, hz⟩ := I.tuple (by rw [hK]; exact sqT_mono le st)
  cases rits with
  | cons r0 rits =>
  cases rits with
  | @cons _ u1 _ us2 r1 rits =>
  obtain ⟨n, rfl⟩ := r1
  obtain ⟨to, ho, htc, hd2⟩ := tup
  refine key_call (s := { s with heap := h, toks := tk }) (x := g) (kp _ _ hf) (code_of I hco kp) (I.nolimit.keeps kp) bind_one L.kind L.co L.gen L.par (fun y hy => (L.own y hy).1) hr.depth fun env' h₁ tk' es ec up hns => ?_
  exact body_at1 (s := { s with heap := h₁, toks := tk' }) (by rw [es]; exact L.kind) (by rw [es]; exact L.par) hns hd.1 ⟨to, up _ _ (kp _ _ ho), htc, hd2⟩ rfl (by
    have := Paired.length rits
    simp only [List.length_cons] at hz ⊢
    omega)
theorem map_int_keys {ds : List D} {ns : List Int} (f : Int → PyData) (e : ds = ns.map .int) : (ds.map fun d => f (match d with | .int n => n | _ => 0)) = ns.map f := by
  subst e
  rw [List.map_map]
  rfl
/-- sorted(xs, key=lambda x: (0 - ws[x], x)) -/
theorem e_srkw {y : Str} {iw : Nat} (hr : Room (k + 1) X.A) (hu : X.A.units + 150 < cLine) (hg : Gl X "sorted") (hm : X.mg "sorted" = none) (ha : PE X x (tO P Γ Xp a))
    (TB : TabB X.base X.mg c Pt) (hcode : X.env.code = .ref c) (hmT : (Pt, X.env.qual ++ "<lambda>") ∈ P.L.T) (hu2 : ∀ p ∈ P.L.T, p.1 = Pt → p.2 = X.env.qual ++ "<lambda>") (hp : onePar params = some g) (L : LamP X.env.scope scope g) (hb : asWn body = some (y, g)) (hd : dunB g = true) (hdy : dunB y = true)
    (hN : X.N[iw]? = some y) (hf0 : scope.names.lookup y = some .free) (hst : starEach [x] X.env = [(false, eval x X.env)]) :
    PE X (.Call (.Name "sorted" p) [x] [⟨some "key", .Lambda params body scope lpos, kpos⟩] pos) (tE P Γ Xp (.srk (.wn iw) a)) := by
  obtain ⟨pp, rfl⟩ := onePar_eq hp
  obtain ⟨b0, q1, q2, q3, q4, q5, q6, b2, q7, rfl⟩ := asWn_eq hb
  simp only [dunB, Bool.and_eq_true, Bool.not_eq_true'] at hd hdy
  refine e_srk_of hu hg hm ha TB hcode hmT hu2 rfl (fun y hy z ok => L.caught ok (by obtain ⟨y1, y2⟩ := y; cases z; exact hy)) hst fun pins s σ H env F f c' pm ctv ad ds vs R Q I ex hf hco hH rp w fin => ?_
  obtain ⟨ns, ws, rfl, w1, w2, w3⟩ := w
  have le := ex.sub
  -- the captured list
  obtain ⟨v, hv⟩ : ∃ v, σ[iw]? = some (some v) := by
    have w1 : res env (.slot iw) = some (.lst (ws.map .int)) := w1
    unfold G.res at w1
    dsimp only at w1
    cases z : env[iw]? with
    | none => rw [z] at w1; cases w1
    | some o => cases o with
      | none => rw [z] at w1; cases w1
      | some o => exact ex.slot z
  obtain ⟨la, lv, rfl, hla, rla⟩ := (ex.res (o := .slot iw) hv w1).lst le
  obtain ⟨lits, lep, rlv, hlo, _⟩ := I.lst hla
  have elv := reps_ints rla
  subst elv
  obtain ⟨mm, _, hloc⟩ := I.loc
  have vis : Vis X.env.scope y := (L.free _ (PySem.mem_of_lookup hf0) rfl).elim (fun q => .inr (.inl q)) fun q => .inr (.inr q)
  obtain ⟨uv, ruv, look⟩ := hloc iw y (.ref la) hN hv vis
  cases ruv
  obtain ⟨c2, h2⟩ := clo_has (cells := X.env.cells) hf0
  have c1 := clo_cells L I.ok h2
  obtain ⟨oc, hoc, hcd⟩ : s.heap.IsCell c2 (some (.ref la)) := by
    rcases look with ⟨kl, _⟩ | ⟨_, c3, ec, z⟩
    · exfalso
      have kl : X.env.scope.names.lookup y = some .local := kl
      rcases L.free _ (PySem.mem_of_lookup hf0) rfl with k2 | k2
      · rw [show X.env.scope.names.lookup y = some .cell from k2] at kl; cases kl
      · rw [show X.env.scope.names.lookup y = some .free from k2] at kl; cases kl
    · have hc : c3 = c2 := Option.some.inj (ec.symm.trans c1)
      subst hc
      exact z
  have kk := wn_keys (ds := ns.map .int) (f := fun d => 0 - wAt ws (match d with | .int n => n | _ => 0)) (g := fun d => match d with | .int n => n | _ => 0)
  refine srt_run I hH rp (fun d => .tuple [.int (0 - wAt ws (match d with | .int n => n | _ => 0)), .int (match d with | .int n => n | _ => 0)]) kk.1 kk.2 (fun d _ => by simp only [PyData.depth, PyData.depthAll]; omega) hu (fun u v d rv rd hd' h tk kp => ?_) fun p vs' hp' rp' => fin p vs' _ w3 hp' ?_
  · obtain ⟨j, hj, rfl⟩ := List.mem_map.mp hd'
    obtain rfl : v = V.int j := rd
    obtain ⟨n, rfl⟩ := rv
    obtain ⟨j0, j1⟩ := w2 j hj
    have ll : lits.length = ws.length := by rw [← rlv.length, List.length_map]
    obtain ⟨tt, htt⟩ : ∃ tt, lits[j.toNat]? = some (.int (wAt ws j) tt) := by
      have e1 : (ws.map V.int)[j.toNat]? = some (.int (wAt ws j)) := by
        rw [List.getElem?_map, List.getElem?_eq_getElem (by omega)]
        unfold wAt
        rw [List.getD_eq_getElem?_getD, List.getElem?_eq_getElem (by omega)]
        rfl
      obtain ⟨z, ez, rz⟩ := rlv.get e1
      obtain ⟨tt, rfl⟩ := rz
      exact ⟨tt, ez⟩
    have small : lits.length ≤ sizeLine := by
      rw [ll]
      have := (I.lst hla)
      obtain ⟨_, _, _, _, z⟩ := this
      rwa [List.length_map] at z
    refine key_call (s := { s with heap := h, toks := tk }) (x := g) (kp _ _ hf) (code_of I hco kp) (I.nolimit.keeps kp) bind_one L.kind L.co L.gen L.par (fun y hy => (L.own y hy).1) hr.depth fun env' h₁ tk' es ec up hns => ?_
    refine body_wn (s := { s with heap := h₁, toks := tk' }) (by rw [es]; exact L.kind) (by rw [es]; exact L.par) hns hd.1 (by rw [es]; exact hf0) (by rw [ec]; exact h2) ⟨oc, up _ _ (kp _ _ hoc), hcd⟩ hdy.1 hdy.2 ⟨_, up _ _ (kp _ _ hlo), rfl, _, rfl⟩ j0 ?_ htt
    have := sizeLine_eq
    show j < 2 ^ 63
    omega
  · rw [dataLe_ii] at rp'
    have e : (ns.map D.int).mergeSort (fun p q => decide (0 - wAt ws (match p with | .int n => n | _ => 0) < 0 - wAt ws (match q with | .int n => n | _ => 0) ∨ (0 - wAt ws (match p with | .int n => n | _ => 0) = 0 - wAt ws (match q with | .int n => n | _ => 0) ∧ (match p with | .int n => n | _ => 0) ≤ (match q with | .int n => n | _ => 0)))) =
        (ns.mergeSort fun a b => decide (wAt ws b < wAt ws a ∨ (wAt ws a = wAt ws b ∧ a ≤ b))).map .int := by
      rw [sort_maps D.int fun a _ b _ => ?_]
      refine decide_eq_decide.mpr ⟨fun z => ?_, fun z => ?_⟩
      · rcases z with z | ⟨z, z'⟩
        · exact .inl (by show 0 - wAt ws a < 0 - wAt ws b; omega)
        · exact .inr ⟨by show 0 - wAt ws a = 0 - wAt ws b; omega, z'⟩
      · rcases z with z | ⟨z, z'⟩
        · exact .inl (by have z : 0 - wAt ws a < 0 - wAt ws b := z; omega)
        · exact .inr ⟨by have z : 0 - wAt ws a = 0 - wAt ws b := z; omega, z'⟩
    rw [← e]
    exact rp'
end
end G
/-! S3: sum(.., start=), min(.., default=), list(range(..)), sorted data. -/
namespace G
open PySem PySem.Spec L2 PyProof.Rows PySem.W
section
variable {prog : Program} {w : World} {A : Around} {E : Value → Shared → Prop} {s : Shared}
theorem args_sum_start (a v : Value) : argsOk "sum" ⟨[a], [(Str.ofString "start", v)]⟩ := by unfold argsOk; kernel_rfl
/-- a walk with a turn ahead that never comes -/
theorem shiftW {I : Addr} {fp wr : List Addr} {G : Array GenState → Array GenState → Prop} {n : Nat} {P : Nat → Value → Prop} {St : Nat → Shared → Prop} (W : WalksS prog w A I fp wr G n P St) :
    WalksS prog w A I fp wr G (n + 1) (fun i v => match i with | 0 => False | j + 1 => P j v) (fun i s => match i with | 0 => False | j + 1 => St j s) where
  sub := W.sub
  grefl := W.grefl
  gtrans := W.gtrans
  frame := fun i s h' tk st => match i, st with
    | j + 1, st => W.frame j s h' tk st
  item := fun i s Q E hi st hQ => match i, st, hQ with
    | j + 1, st, hQ => W.item j s Q E (Nat.lt_of_succ_lt_succ hi) st hQ
  done := fun s Q E st hQ => W.done s Q E st hQ
  self := fun i s Q E st hQ => match i, st with
    | j + 1, st => W.self j s Q E st hQ
def valS (c : Int) (val : Nat → Int) : Nat → Int
  | 0 => c
  | j + 1 => val j
theorem pre_valS (c : Int) (val : Nat → Int) : ∀ n, preSum (valS c val) (n + 1) = c + preSum val n
  | 0 => by show 0 + c = c + 0; omega
  | n + 1 => by
    show preSum (valS c val) (n + 1) + val n = c + (preSum val n + val n)
    rw [pre_valS c val n]
    omega
theorem sum_from {l : Addr} {vs : Array Value} {c : Int} {tc : Tok} (val : Nat → Int) {Q : Value → Shared → Prop} (hh : A.handled = none) (hl : s.heap.IsList l vs) (hv : ∀ (i : Nat) (v : Value), vs[i]? = some v → ∃ t, v = Value.int (val i) t)
    (h : ∀ h' tk t', (∀ b o, s.heap.get? b = some o → h'.get? b = some o) → Q (.int (c + preSum val vs.size) t') { s with heap := h', toks := tk }) :
    wpAny (model prog w) A (call (.builtin "sum") [.ref l] [(Str.ofString "start", .int c tc)]) Q E s := by
  refine PyProof.Rows.kmk_tree F.kind_sum F.plain_sum F.entry_sum (args_sum_start _ _) ?_
  unfold Builtin.«sum»
  simp only [List.length_cons, List.length_nil]
  rw [if_neg (by decide)]
  refine wpAny_bind (wpAny_of_eq (show Builtin.Builtins.bindParams "sum" ["start"] 0 ⟨[], [(Str.ofString "start", .int c tc)]⟩ = pure [some (.int c tc)] from rfl) ?_)
  refine wpAny_bind (iter_listW (A := A.in1) hh hl fun s₂ e W st hfp hw hk => ?_)
  have hSf : s₂.heap.objs.size ∉ [s.heap.objs.size, l] := fun hm => Nat.lt_irrefl _ (hfp _ hm)
  have hval : ∀ i v, (match i with | 0 => False | j + 1 => vs[j]? = some v) → ∃ t, v = Value.int (valS c val i) t := fun i v hp => match i, hp with
    | j + 1, hp => hv j v hp
  have hst := st
  dsimp only
  split
  · refine wpAny_bind (wpAny_rule ?_)
    refine wpAny_bind (wpAny_mkInt ?_)
    refine wpAny_bind (wpAny_pure ?_)
    simp only [List.forIn_cons, List.forIn_nil]
    refine wpAny_bind (wpAny_bind (wpAny_bind (wpAny_isInstance (T := "int") (b := false) (typeIs_int _ _ _) PySem.sub_int_str ?_)))
    simp only [Bool.false_eq_true, if_false]
    refine wpAny_pure (wpAny_bind (wpAny_bind (wpAny_isInstance (T := "int") (b := false) (typeIs_int _ _ _) sub_int_bytes ?_)))
    simp only [Bool.false_eq_true, if_false]
    refine wpAny_pure (wpAny_bind (wpAny_bind (wpAny_isInstance (T := "int") (b := false) (typeIs_int _ _ _) sub_int_bytearray ?_)))
    simp only [Bool.false_eq_true, if_false]
    refine wpAny_pure (wpAny_pure ?_)
    refine wpAny_bind (wpAny_newObj_type ?_)
    refine wpAny_pure ⟨plainId_quiet F.plain_sum_loop _, codeAny_sum_loopAnyS (shiftW W) (valS c val) hval s₂.heap.objs.size hSf vs.size 1 _ s₂.toks 0 0 (.inl rfl) rfl (by omega)
      (W.frame 0 s₂ _ _ hst (Nat.le_succ _) fun b _ o e => Heap.get?_push_of_some _ e) (by rw [show preSum (valS c val) 1 = c from Int.zero_add c]; exact Heap.get?_push_size _ rfl) fun s' t' hm => ?_⟩
    obtain ⟨h', tk, rfl, kp⟩ := moved_old e rfl (Moved.drop_new hm (Nat.le_succ _))
    rw [pre_valS]
    exact h h' tk t' kp
  · skip
    refine wpAny_bind (wpAny_pure ?_)
    simp only [List.forIn_cons, List.forIn_nil]
    refine wpAny_bind (wpAny_bind (wpAny_bind (wpAny_isInstance (T := "int") (b := false) (typeIs_int _ _ _) PySem.sub_int_str ?_)))
    simp only [Bool.false_eq_true, if_false]
    refine wpAny_pure (wpAny_bind (wpAny_bind (wpAny_isInstance (T := "int") (b := false) (typeIs_int _ _ _) sub_int_bytes ?_)))
    simp only [Bool.false_eq_true, if_false]
    refine wpAny_pure (wpAny_bind (wpAny_bind (wpAny_isInstance (T := "int") (b := false) (typeIs_int _ _ _) sub_int_bytearray ?_)))
    simp only [Bool.false_eq_true, if_false]
    refine wpAny_pure (wpAny_pure ?_)
    refine wpAny_bind (wpAny_newObj_type ?_)
    refine wpAny_pure ⟨plainId_quiet F.plain_sum_loop _, codeAny_sum_loopAnyS (shiftW W) (valS c val) hval s₂.heap.objs.size hSf vs.size 1 _ tc 0 2 (.inr rfl) rfl (by omega)
      (W.frame 0 s₂ _ _ hst (Nat.le_refl _) fun b _ o e => Heap.get?_push_of_some _ e) (by rw [show preSum (valS c val) 1 = c from Int.zero_add c]; exact Heap.get?_push_size _ rfl) fun s' t' hm => ?_⟩
    obtain ⟨h', tk, rfl, kp⟩ := moved_old e rfl (Moved.drop_new hm (Nat.le_refl _))
    rw [pre_valS]
    exact h h' tk t' kp
end
section
variable {X : Cx} {P : PP} {Γ : Fns} {Xp : XP} {pos p p2 q2 kpos : Pos} {x y : Expr} {a b : E} {pins : List (Addr × Obj)} {σ : L2.St} {H : Hp} {s : Shared}
theorem reps_rg {L : Lay} {F : Hp} (j : Int) : Reps L F (rngL j) (rgV 0 j) := by
  unfold rngL rgV
  generalize List.range (j - 0).toNat = l
  induction l with
  | nil => rfl
  | cons k l ih => exact ⟨_, _, rfl, rfl, ih⟩
theorem rg_ok {j : Int} (h : -1000000 ≤ j ∧ j ≤ 1000000) : RgOk 0 j := ⟨by omega, by omega, by omega, by omega, by omega⟩
theorem one_star {e : Expr} {env : PySem.Env} (h : starEach [e] env = [(false, eval e env)]) : starEach [e] env = (false, eval e env) :: starEach [] env := h
/-- list(range(n)), tuple(range(n)) -/
theorem prg_of (hg : Gl X "range") (hm : X.mg "range" = none) (ha : PE X x (tO P Γ Xp a)) (hs : starEach [x] X.env = [(false, eval x X.env)]) : PRg X (.Call (.Name "range" p2) [x] [] q2) (fun σ H Q => ∃ env F R, EX P σ H env F ∧ wOs Γ [a] env Xp R ∧
    ∀ os env1 H1 F1, R os env1 → LeH F F1 → EX P σ H1 env1 F1 → ∃ j, os.map (res env1) = [some (.int j)] ∧ Q 0 j H1) := by
  intro pins s σ H Q I h
  refine prg_1 hg hm ha hs pins s σ H Q I ?_
  obtain ⟨env, F, R, ex, w, k⟩ := h
  simp only [wOs] at w
  refine ⟨env, F, _, ex, w, fun o env1 v H1 F1 w1 m1 e1 p1 => ?_⟩
  obtain ⟨j, e, q⟩ := k _ env1 H1 F1 w1 m1 e1
  have e : [res env1 o] = [some (.int j)] := e
  exact ⟨j, (e1.res p1 (by simpa using e)).int, q⟩
theorem xb_rng {k : XBK} {xs : List (Option D)} {Q : RV → Prop} (hk : k = .lrng ∨ k = .trng) (w : xbW k xs Q) : ∃ j, xs = [some (.int j)] ∧ (-1000000 ≤ j ∧ j ≤ 1000000) ∧ (k = .lrng → Q (.fr (.lst (rngL j)))) ∧ (k = .trng → Q (.val (.tup (rngL j)))) := by
  rcases hk with rfl | rfl
  · unfold xbW at w
    split at w <;> simp_all
  · unfold xbW at w
    split at w <;> simp_all
theorem e_lrng (hc : X.calm = true) (hg : Gl X "range") (hm : X.mg "range" = none) (hg2 : Gl X "list") (hm2 : X.mg "list" = none) (ha : PE X x (tO P Γ Xp a)) (hs : starEach [x] X.env = [(false, eval x X.env)]) :
    PE X (.Call (.Name "list" p) [.Call (.Name "range" p2) [x] [] q2] [] pos) (tE P Γ Xp (.xb .lrng [a])) := pe_imp (pe_listRg hc hg2 hm2 (prg_of hg hm ha hs)) fun σ H Q h => by
  obtain ⟨env, F, R, ex, w, k⟩ := h
  simp only [wE] at w
  refine ⟨env, F, _, ex, w, fun os env1 H1 F1 w1 m1 e1 => ?_⟩
  obtain ⟨j, e0, w1, w2, _⟩ := xb_rng (.inl rfl) w1
  exact ⟨j, e0, rg_ok w1, fun q hq => k _ env1 _ _ F1 (w2 rfl) m1 (e1.fresh hq (reps_rg j))⟩
theorem e_trng (hc : X.calm = true) (hg : Gl X "range") (hm : X.mg "range" = none) (hg2 : Gl X "tuple") (hm2 : X.mg "tuple" = none) (ha : PE X x (tO P Γ Xp a)) (hs : starEach [x] X.env = [(false, eval x X.env)]) :
    PE X (.Call (.Name "tuple" p) [.Call (.Name "range" p2) [x] [] q2] [] pos) (tE P Γ Xp (.xb .trng [a])) := pe_imp (pe_tupRg hc hg2 hm2 (prg_of hg hm ha hs)) fun σ H Q h => by
  obtain ⟨env, F, R, ex, w, k⟩ := h
  simp only [wE] at w
  refine ⟨env, F, _, ex, w, fun os env1 H1 F1 w1 m1 e1 => ?_⟩
  obtain ⟨j, e0, w1, _, w2⟩ := xb_rng (.inr rfl) w1
  refine ⟨j, e0, rg_ok w1, fun q hq => ?_⟩
  have m2 : LeH F1 (upd F1 q (.tup (rgV 0 j))) := LeH.upd (e1.nop hq)
  exact k _ env1 _ _ _ (w2 rfl) (m1.trans m2) ((e1.froze hq).pure ⟨q, _, rfl, .inl (.inl upd_same), reps_rg j⟩)
/-! sum(xs, start=n) -/
def rSum2 (K : PySem.W.Frag) : List V → List V → Hp → VK → Prop := fun vs zs H Q => ∃ (l : Addr) (ns : List Int) (c : Int), vs = [.ref l] ∧ zs = [.int c] ∧ SqL K H l (ns.map V.int) ∧ Q (.int (c + ns.sum)) H
theorem ints_at {its : List Value} {ns : List Int} (r : Vals (ns.map V.int) its) (i : Nat) (v : Value) (h : its.toArray[i]? = some v) : ∃ t, v = Value.int (ns.getD i 0) t := by
  have h : its[i]? = some v := by simpa using h
  have hl : i < its.length := (List.getElem?_eq_some_iff.mp h).1
  have l2 := r.length
  rw [List.length_map] at l2
  have e1 : (ns.map V.int)[i]? = some (.int (ns.getD i 0)) := by
    rw [List.getElem?_map, List.getElem?_eq_getElem (by omega), List.getD_eq_getElem?_getD, List.getElem?_eq_getElem (by omega)]
    rfl
  obtain ⟨z, ez, rz⟩ := r.get e1
  rw [h] at ez
  cases ez
  exact rz
theorem pre_sum (ns : List Int) : ∀ n, n ≤ ns.length → preSum (fun i => ns.getD i 0) n = (ns.take n).sum
  | 0, _ => by simp [preSum]
  | n + 1, h => by
    show preSum _ n + ns.getD n 0 = _
    rw [pre_sum ns n (by omega), List.take_succ, List.sum_append, List.getD_eq_getElem?_getD, List.getElem?_eq_getElem (by omega)]
    simp
theorem cr_sum2 (hc : X.calm = true) : CallRK X (.builtin "sum") [Str.ofString "start"] (rSum2 X.K) := by
  intro pins s σ H vs zs us ws Q I r rz h
  obtain ⟨l, ns, c, rfl, rfl, hs, q⟩ := h
  obtain rfl := Vals.ref1 r
  obtain ⟨w1, rfl, tc, rfl⟩ := vals1 rz
  obtain ⟨its, rv, hl, hz⟩ := I.list hs
  have len := rv.length
  rw [List.length_map] at len
  refine sum_from (fun i => ns.getD i 0) (I.ok.hd hc) hl.isList (ints_at rv) fun h' tk t' hk => ?_
  refine ⟨.int _, H, I.kept hk, ⟨t', rfl⟩, ?_⟩
  rw [pre_sum ns _ (by rw [List.size_toArray]; omega), List.size_toArray, ← len, List.take_length]
  exact q
/-- two operands, the second by a keyword -/
theorem two_kw {W2 : Option D → Option D → (RV → Prop) → Prop} {r : List V → List V → Hp → VK → Prop} {env : Env} {F : Hp} {R : PostE} {Q : VK} (ex : EX P σ H env F)
    (w : opd a (wE Γ a) env Xp fun o1 env1 => opd b (wE Γ b) env1 Xp fun o2 env2 => W2 (res env2 o1) (res env2 o2) fun r => R r env2)
    (core : ∀ (o1 o2 : Op) (env2 : Env) (v1 v2 : V) (H2 F2 : Hp), EX P σ H2 env2 F2 → OpR P F2 σ v1 o1 → OpR P F2 σ v2 o2 → W2 (res env2 o1) (res env2 o2) (fun r => R r env2) → LeH F F2 → r [v1] [v2] H2 Q) :
    tCKw r (tOs P Γ Xp [a]) (tOs P Γ Xp [b]) σ H Q := by
  refine ⟨env, F, fun os env1 => match os with | [o1] => opd b (wE Γ b) env1 Xp (fun o2 env2 => W2 (res env2 o1) (res env2 o2) fun r => R r env2) | _ => False, ex, by simp only [wOs]; exact w, fun os env1 vs H1 F1 w1 m1 e1 p1 l1 => ?_⟩
  match os, w1 with
  | [o1], w1 =>
    cases p1 with
    | cons p1 t =>
      cases t
      refine ⟨env1, F1, fun os env2 => match os with | [o2] => W2 (res env2 o1) (res env2 o2) fun r => R r env2 | _ => False, e1, by simp only [wOs]; exact w1, fun os env2 vs2 H2 F2 w2 m2 e2 p2 l2 => ?_⟩
      match os, w2 with
      | [o2], w2 =>
        cases p2 with
        | cons p2 t =>
          cases t
          exact core o1 o2 env2 _ _ H2 F2 e2 (p1.mono m2) p2 w2 (m1.trans m2)
theorem xb_sum2 {x y : Option D} {Z : RV → Prop} (w : xbW .sum2 [x, y] Z) : ∃ ds c, x = some (.lst ds) ∧ y = some (.int c) ∧ ∃ ns : List Int, ds = ns.map .int ∧ Z (.val (.int (c + ns.sum))) := by
  unfold xbW at w
  split at w <;> simp_all
theorem xb_min0 {d : D} {xs : List (Option D)} {Z : RV → Prop} (w : xbW (.min0 d) xs Z) : ∃ ds, xs = [some (.lst ds)] ∧ (ds = [] → Z (.val d)) ∧ (ds ≠ [] → ordD ds ∧ ∀ m ∈ ds, leastD ds m → Z (.val m)) := by
  unfold xbW at w
  split at w <;> simp_all
theorem e_sum2 (hc : X.calm = true) (hg : Gl X "sum") (hm : X.mg "sum" = none) (ha : PE X x (tO P Γ Xp a)) (hb : PE X y (tO P Γ Xp b)) (hs : starEach [x] X.env = [(false, eval x X.env)]) (hK : X.K = P.L.K) :
    PE X (.Call (.Name "sum" p) [x] [⟨some "start", y, kpos⟩] pos) (tE P Γ Xp (.xb .sum2 [a, b])) :=
  pe_imp (pe_callBK (cr_sum2 hc) hg hm (show bootBuiltins "sum" = some (.builtin "sum") by decide +kernel) (os_cons ha os_nil hs) (k_cons hb k_nil) (by decide) (by decide) (by rw [hs]; rfl) (by rw [hs]; rfl) (by rfl) (by rfl) (by rfl)) fun σ H Q h => by
    obtain ⟨env, F, R, ex, w, k⟩ := h
    simp only [wE, wOs] at w
    exact two_kw (W2 := fun x y Z => xbW .sum2 [x, y] Z) ex w fun o1 o2 env2 v1 v2 H2 F2 ex2 p1 p2 wz m => by
      obtain ⟨ds, c, e1, e2, ns, rfl, q⟩ := xb_sum2 wz
      obtain ⟨l, vs, rfl, hl, rl⟩ := (ex2.res p1 e1).lst ex2.sub
      rw [reps_ints rl] at hl
      exact ⟨l, ns, c, rfl, by rw [(ex2.res p2 e2).int], .inl (.inl hl), k _ env2 _ H2 F2 q m (ex2.pure rfl)⟩
/-! min(xs, default=d) -/
def rMin0 (L : Lay) : List V → List V → Hp → VK → Prop := fun vs zs H Q => ∃ (l : Addr) (ws : List V) (ds : List D) (v : V), vs = [.ref l] ∧ zs = [v] ∧ H l = some (.lst ws) ∧ Reps L H ds ws ∧ (ds = [] → Q v H) ∧ (ds ≠ [] → ordD ds ∧ ∀ (i : Nat) (w : V) (m : D), ws[i]? = some w → ds[i]? = some m → leastD ds m → Q w H)
theorem ordD_ok {ds : List D} (h : ordD ds) : plainRs ds = true ∧ PyData.depthAll (toPys ds) ≤ 49 := by
  have h1 : ds.all (flat 49) = true := by
    have := h.1
    simpa only [flat] using this
  obtain ⟨a, b⟩ := flats_ok (flat_ok 49) ds h1
  exact ⟨plains_R ds a, b⟩
theorem cr_min0 (hK : X.K = P.L.K) (hsm : ∃ o, X.base.get? sysModules = some o) (hc : X.calm = true) (hu : X.A.units + 150 < cLine) : CallRK X (.builtin "min") [Str.ofString "default"] (rMin0 P.L) := by
  intro pins s σ H vs zs us ws Q I r rz h
  obtain ⟨l, vs', ds, v, rfl, rfl, hl, rp, q0, q1⟩ := h
  obtain rfl := Vals.ref1 r
  obtain ⟨w1, rfl, rv1⟩ := vals1 rz
  obtain ⟨its, ep, rv, ho, hz⟩ := I.lst hl
  by_cases hn : ds = []
  · subst hn
    obtain rfl : vs' = [] := rp
    cases rv
    exact min_list_default (xs := []) (as := []) (I.ok.hd hc) ⟨_, ho, rfl, _, rfl⟩ .nil ⟨fun x hx => (List.not_mem_nil hx).elim, fun x hx => (List.not_mem_nil hx).elim⟩ (by simp only [PyData.depthAll]; omega)
      (fun _ h' tk kp => ⟨v, H, I.kept kp, rv1, q0 rfl⟩) fun y ys i v h' tk bs e => by cases e
  · obtain ⟨od, q⟩ := q1 hn
    obtain ⟨pl, dp⟩ := ordD_ok od
    obtain ⟨as, rd, _⟩ := reps_reads (P := P) I hK hsm ds vs' its pl rp rv
    refine min_list_default (xs := toPys ds) (as := as) (I.ok.hd hc) ⟨_, ho, rfl, _, rfl⟩ (by simpa using rd) (by rw [toPys_map]; exact od.2) (by omega) (fun e => ?_) fun y ys i u h' tk bs e hi rm kp => ?_
    · cases ds with
      | nil => exact absurd rfl hn
      | cons _ _ => cases e
    · have hi' : its[i]? = some u := by simpa using hi
      have il : i < its.length := (List.getElem?_eq_some_iff.mp hi').1
      have l1 := rv.length
      have l2 := rp.length
      obtain ⟨w, ew, rw'⟩ : ∃ w, vs'[i]? = some w ∧ RelV w u := by
        obtain ⟨u', e2, r2⟩ := rv.get (List.getElem?_eq_getElem (by omega : i < vs'.length))
        rw [hi'] at e2
        cases e2
        exact ⟨_, List.getElem?_eq_getElem (by omega), r2⟩
      obtain ⟨w2, ew2, rr⟩ := rp.get (List.getElem?_eq_getElem (by omega : i < ds.length))
      rw [ew] at ew2
      cases ew2
      refine ⟨w, H, I.kept kp, rw', q i w _ ew (List.getElem?_eq_getElem (by omega : i < ds.length)) ?_⟩
      obtain ⟨bs2, r3, _, _, _⟩ := readsAll_at rd i u hi'
      have r4 := reads_keeps kp r3
      have u1 := (Reads.unique r4 _ _ rm).1
      have e3 : (toPys ds).getD i .none = toPy ds[i] := by
        rw [toPys_map, List.getD_eq_getElem?_getD, List.getElem?_map, List.getElem?_eq_getElem (by omega)]
        rfl
      rw [e3] at u1
      unfold leastD
      cases ds with
      | nil => exact absurd rfl hn
      | cons d0 rest =>
        rw [toPys_map] at e
        cases e
        exact u1
theorem e_min0 {d : D} {v : V} (hv : PE X y (tC v)) (rd : ∀ F, Rep P.L F d v) (hK : X.K = P.L.K) (hsm : ∃ o, X.base.get? sysModules = some o) (hu : X.A.units + 150 < cLine) (hc : X.calm = true) (hg : Gl X "min") (hm : X.mg "min" = none) (ha : PE X x (tO P Γ Xp a)) (hs : starEach [x] X.env = [(false, eval x X.env)]) :
    PE X (.Call (.Name "min" p) [x] [⟨some "default", y, kpos⟩] pos) (tE P Γ Xp (.xb (.min0 d) [a])) :=
  pe_imp (pe_callBK (cr_min0 hK hsm hc hu) hg hm (show bootBuiltins "min" = some (.builtin "min") by decide +kernel) (os_cons ha os_nil hs) (pk_cons hv pk_nil) (by decide) (by decide) (by rw [hs]; rfl) (by rw [hs]; rfl) (by rfl) (by rfl) (by rfl)) fun σ H Q h => by
    obtain ⟨env, F, R, ex, w, k⟩ := h
    simp only [wE] at w
    refine ⟨env, F, _, ex, w, fun os env1 vs H1 F1 w1 m1 e1 p1 l1 => ?_⟩
    obtain ⟨ds, hds, q0, q1⟩ := xb_min0 w1
    obtain ⟨v1, o1, rfl, rfl, p1, eo⟩ := opRs_one p1 hds
    obtain ⟨l, vs, rfl, hl, rl⟩ := (e1.res p1 eo).lst e1.sub
    refine ⟨l, vs, ds, v, rfl, rfl, hl, Reps.mono e1.sub _ _ rl, fun z => ?_, fun z => ⟨(q1 z).1, fun i w m' h1 h2 h3 => ?_⟩⟩
    · exact k _ env1 _ H1 F1 (q0 z) m1 (e1.pure (rd F1))
    · obtain ⟨w2, ew, rw2⟩ := rl.get h2
      rw [h1] at ew
      cases ew
      exact k _ env1 _ H1 F1 ((q1 z).2 m' (List.mem_of_getElem? h2) h3) m1 (e1.pure rw2)
end
end G
/-! S4: == and != by the class's own __eq__, for two instances of one class. -/
namespace G
open PySem PySem.Spec L2 PyProof.Rows
section
variable {prog : Program} {w : World} {A : Around} {E : Value → Shared → Prop} {s : Shared} {K : PySem.W.Frag} {x C f : Addr} {ox : Obj} {od : Option Obj} {b : Value}
theorem ifBound_ne {M : Model} {args : List Value} {Q : Option Value → Shared → Prop} (X : K.In s.heap) (I : PySem.W.InstAt s.heap x ox C od) (hs : PySem.W.findIn K (.ref C) "__ne__" = some (some (.builtin "object.__ne__")))
    (h : wpAny M A (call (.builtin "object.__ne__") (.ref x :: args)) (fun v => Q (some v)) E s) : wpAny M A (callSpecialIfBound? (.ref x) "__ne__" args) Q E s := by
  simp only [callSpecialIfBound?, bindSpecialIfBound?]
  refine wpAny_holding (wpAny_bind (wpAny_bind (wpAny_bind (I.type.here ((PySem.W.looks_findIn X hs).here ?_)))))
  refine wpAny_bind (wpAny_askSetting (wpAny_ite ?_))
  have fin : wpAny M A (call (.builtin "object.__ne__") ([.ref x] ++ args) >>= fun v => pure (some v)) Q E s := wpAny_bind (wpAny_mono h (fun v s' h' => wpAny_pure h') fun _ _ h' => h')
  split
  · exact wpAny_bind (wpAny_of_eq (F.cmp_object.ne.bind _) (wpAny_pure (by exact fin)))
  · exact wpAny_tryCatch (wpAny_bind (wpAny_of_eq (F.cmp_object.ne.bind _) (wpAny_pure (by exact fin))))
theorem own_ne {Q : Bool → Shared → Prop} {tb : Value} (hu : A.units + 1 < cLine) (X : K.In s.heap) (I : PySem.W.InstAt s.heap x ox C od) (hb : PySem.W.Looks (model prog w) s.heap (typeOf b) tb) (hn' : PySem.W.notFirst K C tb = true)
    (hs : PySem.W.findIn K (.ref C) "__eq__" = some (some (.ref f))) (hf : PySem.W.isFn K (.ref f) = true) (hn : PySem.W.findIn K (.ref C) "__ne__" = some (some (.builtin "object.__ne__"))) (hm : PySem.W.mroIn K C (.type "object") = some true)
    (h : wpAny (model prog w) A.in1 (call (.ref f) [.ref x, b]) (BlB fun r => Q (!r)) E s) :
    wpAny (model prog w) A (compareOp .NotEq (.ref x) b) (BlB Q) E s := by
  have core : wpAny (model prog w) A (call (.builtin "object.__ne__") [.ref x, b]) (BlB Q) E s := by
    refine wpAny_call (codeAny_call_builtin F.cmp_object.ne.plain F.cmpEntry_ne (PySem.W.check_slot F.cmpKind_ne F.cmpSplit_ne (I.type.andThen (PySem.W.looks_mroIn X hm)) (F.cmpArgs_ne _ _) ?_))
    unfold Builtin.«object.__ne__»
    refine wpAny_bind (m := slotArgs "__ne__" 1 _) (wpAny_pure ?_)
    refine wpAny_bind (m := cRoomFor _ _) (wpAny_cRoomFor (by show A.units + 1 < cLine; exact hu) ?_)
    refine wpAny_bind (m := callSpecialIfBound? (.ref x) (Str.ofString "__eq__") _) (PySem.W.ifBound_K X I hs hf (wpAny_mono h (fun r s' hq => ?_) fun _ _ y => y))
    obtain ⟨r, rfl, q⟩ := hq
    exact wpAny_bind (wpAny_truthy_bool (wpAny_pure ⟨_, rfl, q⟩))
  have one : wpAny (model prog w) A (tryCompare (.ref x) (cmpInfo .NotEq).2.1 b) (fun r s' => ∃ v, r = some v ∧ BlB Q v s') E s := by
    unfold tryCompare
    refine wpAny_bind (ifBound_ne X I hn (wpAny_mono core (fun v s' hv => ?_) fun _ _ e => e))
    obtain ⟨r, rfl, q⟩ := hv
    exact wpAny_pure ⟨_, rfl, r, rfl, q⟩
  show wpAny (model prog w) A (richCompare .NotEq (.ref x) b) (BlB Q) E s
  exact rc_own (Nat.lt_of_succ_lt hu) X I hb hn' one
end
def dataTs : List String := ["NoneType", "bool", "int", "str", "tuple", "list", "dict"]
/-- the defs of == and != -/
structure OwnB (K : PySem.W.Frag) (C f : Addr) : Prop where
  eq : PySem.W.findIn K (.ref C) "__eq__" = some (some (.ref f))
  fn : PySem.W.isFn K (.ref f) = true
  ne : PySem.W.findIn K (.ref C) "__ne__" = some (some (.builtin "object.__ne__"))
  ob : PySem.W.mroIn K C (.type "object") = some true
  no : ∀ T ∈ dataTs, PySem.W.mroIn K C (.type T) = some false
theorem isIns_eq {c : Nat} {o : Option D} (h : isIns c o = true) : ∃ fs, o = some (.ins c fs) := by
  unfold isIns at h
  split at h
  · rw [beq_iff_eq] at h; subst h; exact ⟨_, rfl⟩
  · cases h
section
variable {X : Cx} {pins : List (Addr × Obj)} {σ : L2.St} {H : Hp} {s : Shared} {P : PP}
/-- the type of other data, and that its == declines -/
theorem data_type (I : Inv X pins σ H s) (hK : X.K = P.L.K) : ∀ {d : D} {v : V} {u : Value}, isData (some d) = true → Rep P.L H d v → RelV v u → ∃ T id, T ∈ dataTs ∧ s.TypeIs u T ∧ Slot T (cmpInfo .Eq).2.1 id ∧
    ∀ (A : Around) (E : Value → Shared → Prop) (C dx x : Addr), s.heap.get? x = some (PySem.W.instObj C dx) → PySem.W.mroIn X.K C (.type T) = some false → wpAny (model X.prog X.w) A (call (.builtin id) [u, .ref x]) (Dec s) E s
  | .non, v, u, _, h, r => by
    obtain rfl : v = .non := h
    cases r
    exact ⟨"NoneType", _, by decide, rfl, F.slot_NoneType_eq, fun A E C dx x hx hm => dec_none⟩
  | .bl b, v, u, _, h, r => by
    obtain rfl : v = .bl b := h
    cases r
    exact ⟨"bool", _, by decide, rfl, F.slot_bool_eq, fun A E C dx x hx hm => dec_bool hx⟩
  | .int i, v, u, _, h, r => by
    obtain rfl : v = .int i := h
    obtain ⟨t, rfl⟩ := r
    exact ⟨"int", _, by decide, typeIs_int s i t, F.slot_int_eq, fun A E C dx x hx hm => dec_int hx⟩
  | .str i, v, u, _, h, r => by
    obtain ⟨rfl, _⟩ : v = .str i ∧ _ := h
    obtain ⟨t, rfl⟩ := r
    exact ⟨"str", _, by decide, typeIs_str s i t, F.slot_str_eq, fun A E C dx x hx hm => dec_str hx⟩
  | .tup ds, v, u, _, ⟨a, vs, e, h, _⟩, r => by
    subst e
    cases r
    obtain ⟨its, rv, ⟨o, e1, e2, n, e3⟩, _⟩ := I.tuple (by rw [hK]; exact h)
    exact ⟨"tuple", _, by decide, ⟨o, e1, e2⟩, F.slot_tuple_eq, fun A E C dx x hx hm => dec_tuple e1 e2 hx I.kIn hm⟩
  | .lst ds, v, u, _, ⟨a, vs, e, h, _⟩, r => by
    subst e
    cases r
    obtain ⟨z, its, n, rv, hl, e⟩ := I.lstM h
    exact ⟨"list", _, by decide, ⟨_, e, rfl⟩, F.slot_list_eq, fun A E C dx x hx hm => dec_list e rfl hx I.kIn hm⟩
  | .dct w ks ds, v, u, p, ⟨a, ws, e, h, _⟩, r => by
    subst e
    cases r
    have p' : w = false := by simpa [isData] using p
    subst p'
    rcases h.2 with ⟨_, hd⟩ | ⟨z, _⟩
    · obtain ⟨hz, hs, kvs, rel, o, es, ep, e1, e2, _⟩ := dk_of I.hok hd
      exact ⟨"dict", _, by decide, ⟨o, e1, e2.1⟩, F.slot_dict_eq, fun A E C dx x hx hm => dec_dict e1 e2.1 hx I.kIn hm⟩
    · cases z
  | .ins _ _, _, _, p, _, _ => by simp [isData] at p
  | .fn _, _, _, p, _, _ => by simp [isData] at p
  | .scr _, _, _, p, _, _ => by simp [isData] at p
  | .exn _, _, _, p, _, _ => by simp [isData] at p
theorem typeIs_looks {u : Value} {T : String} {M : Model} (h : s.TypeIs u T) : PySem.W.Looks M s.heap (typeOf u) (.type T) := by
  intro A Q E s' kp q
  refine wpAny_typeOf ?_ q
  cases u with
  | ref a => obtain ⟨o, ho, hc⟩ := h; exact ⟨o, kp _ _ ho, hc⟩
  | _ => exact h
theorem flat_one {L : Lay} {F : Hp} : ∀ {d d' : D} {v : V}, flatA d = true → flatA d' = true → Rep L F d v → Rep L F d' v → d = d' := by
  intro d d' v h h' r r'
  cases d <;> simp [flatA] at h <;> cases d' <;> simp [flatA] at h' <;> simp [Rep] at r r' <;> simp_all
theorem flats_one {L : Lay} {F : Hp} : ∀ {ds ds' : List D} {vs : List V}, ds.all flatA = true → ds'.all flatA = true → Reps L F ds vs → Reps L F ds' vs → ds = ds'
  | [], [], _, _, _, _, _ => rfl
  | [], _ :: _, vs, _, _, h, ⟨_, _, e, _⟩ => by rw [show vs = [] from h] at e; cases e
  | _ :: _, [], vs, _, _, ⟨_, _, e, _⟩, h => by rw [show vs = [] from h] at e; cases e
  | d :: ds, d' :: ds', vs, p, p', ⟨v, r, e, h1, h2⟩, ⟨v', r', e', h1', h2'⟩ => by
    subst e
    cases e'
    simp only [List.all_cons, Bool.and_eq_true] at p p'
    rw [flat_one p.1 p'.1 h1 h1', flats_one p.2 p'.2 h2 h2']
theorem inst_one {L : Lay} {F : Hp} {c : Nat} {d d' : D} {v : V} (h : flatI c d = true) (h' : flatI c d' = true) (r : Rep L F d v) (r' : Rep L F d' v) : d = d' := by
  cases d <;> simp [flatI] at h
  cases d' <;> simp [flatI] at h'
  obtain ⟨rfl, h⟩ := h
  obtain ⟨rfl, h'⟩ := h'
  obtain ⟨a, dx, fvs, vs, rfl, e, rfl, ⟨l, _⟩, rp⟩ := r
  obtain ⟨a', dx', fvs', vs', e1, e', e2, ⟨l', _⟩, rp'⟩ := r'
  cases e1
  rw [e] at e'
  injection e' with e'
  injection e' with _ _ e'
  have hv : vs = vs' := by
    have := congrArg (List.map Prod.snd) (e'.trans e2)
    rwa [List.map_snd_zip l, List.map_snd_zip l'] at this
  subst hv
  rw [flats_one (by simpa using h) (by simpa using h') rp rp']
theorem reps_get {L : Lay} {F : Hp} : ∀ {ds : List D} {vs : List V} {us : List Value} {i : Nat} {u : Value}, Reps L F ds vs → Vals vs us → us[i]? = some u → ∃ d v, ds[i]? = some d ∧ Rep L F d v ∧ RelV v u
  | [], vs, us, i, u, h, r, e => by
    rw [show vs = [] from h] at r
    cases r
    simp at e
  | d :: ds, vs, us, i, u, ⟨v, vr, e', h1, h2⟩, r, e => by
    subst e'
    cases r with
    | cons r1 r2 =>
      cases i with
      | zero =>
        simp only [List.getElem?_cons_zero, Option.some.injEq] at e
        subst e
        exact ⟨d, v, rfl, h1, r1⟩
      | succ i =>
        simp only [List.getElem?_cons_succ] at e ⊢
        exact reps_get h2 r2 e
theorem reps_len {L : Lay} {F : Hp} : ∀ {ds : List D} {vs : List V}, Reps L F ds vs → ds.length = vs.length
  | [], vs, h => by rw [show vs = [] from h]; rfl
  | d :: ds, vs, ⟨v, vr, e', h1, h2⟩ => by subst e'; simp [reps_len h2]
def pairT (T : D → D → Bool) (xs ys : List D) (i : Nat) : Bool := match xs[i]?, ys[i]? with
  | some a, some b => T a b
  | _, _ => true
theorem eqNs_all {T : D → D → Bool} : ∀ (xs ys : List D), ((List.range (min xs.length ys.length)).all (pairT T xs ys) && xs.length == ys.length) = eqNs T xs ys
  | [], [] => rfl
  | [], _ :: _ => by simp [eqNs]
  | _ :: _, [] => by simp [eqNs]
  | x :: xs, y :: ys => by
    have e : min (x :: xs).length (y :: ys).length = min xs.length ys.length + 1 := by simp only [List.length_cons]; omega
    have e2 : ((x :: xs).length == (y :: ys).length) = (xs.length == ys.length) := by simp
    rw [e, List.range_succ_eq_map, List.all_cons, List.all_map, e2, eqNs, ← eqNs_all xs ys, Bool.and_assoc]
    rfl
end
section
variable {X : Cx} {P : PP} {Γ : Fns} {Xp : XP} {a b : E} {x y : Expr} {n c f : Nat} {fd : FuncData} {ps : List Str} {neg : Bool} {pos : Pos}
/-- the call of an own == -/
theorem own_call {A : Around} {pins : List (Addr × Obj)} {σ : L2.St} {H : Hp} {s : Shared} {env : Env} {F : Hp} {v1 v2 : V} {u1 u2 : Value} {o1 o2 : Op} {R : Bool → Env → Prop} {Q : Bool → Hp → Prop}
    (Dk : DefOk X.prog X.w X.K X.mg X.base n (P.L.fn f) fd ps (lift P.L (Γ.f f))) (hg : A.guards = some []) (hr : Room n A) (e0 : Env0 X.prog X.w X.K X.mg X.base A X.stack s H) (tk : Takes X (WXo P Xp)) (hb : BindOk X.K fd ps 2 [] [.inl 0, .inl 1])
    (I : Inv X pins σ H s) (ex : EX P σ H env F) (r1 : RelV v1 u1) (r2 : RelV v2 u2) (p1 : OpR P F σ v1 o1) (p2 : OpR P F σ v2 o2) (w : ownC Γ neg f Xp R o1 o2 env)
    (k : ∀ b env' H' F', R (if neg = true then !b else b) env' → LeH F F' → EX P σ H' env' F' → Q b H') :
    wpAny (model X.prog X.w) A (call (.ref (P.L.fn f)) [u1, u2]) (BlB fun r s' => ∃ H', Inv X pins σ H' s' ∧ Q r H') X.xe s := by
  refine wpAny_mono (call_coreA (A := A) (us := [u1, u2]) (ws := []) (kws := []) (R := fun r env' => ∃ b, r = .val (.bl b) ∧ R (if neg = true then !b else b) env') (Q := fun v H' => ∃ b, v = .bl b ∧ Q b H') Dk hg hr e0 tk hb I ex (vs := [v1, v2]) (.cons r1 (.cons r2 .nil)) rfl rfl (.cons p1 (.cons p2 .nil)) w
    fun r env' v H' F' hR m ev => ?_) (fun v s' z => ?_) fun _ _ z => z
  · obtain ⟨b, rfl, hR⟩ := hR
    obtain ⟨A, e', z⟩ := ev
    obtain rfl : v = .bl b := z
    exact ⟨b, rfl, k b env' H' F' hR m ⟨A, e'⟩⟩
  · obtain ⟨z, H', I', rz, b, rfl, q⟩ := z
    exact ⟨b, rz, H', I', q⟩
theorem own_core (hK : X.K = P.L.K) (hW : X.w = P.L.w) {pins : List (Addr × Obj)} {σ : L2.St} {H : Hp} {s : Shared} {env : Env} {F : Hp} {v1 v2 : V} {u1 u2 : Value} {o1 o2 : Op} {R : Bool → Env → Prop} {Q : VK}
    (Dk : DefOk X.prog X.w X.K X.mg X.base n (P.L.fn f) fd ps (lift P.L (Γ.f f))) (hg : X.A.guards = some []) (hr : Room (n + 1) X.A) (hu : X.A.units + 150 < cLine) (tk : Takes X (WXo P Xp)) (hb : BindOk X.K fd ps 2 [] [.inl 0, .inl 1]) (O : OwnB X.K (P.L.cls c) (P.L.fn f))
    (I : Inv X pins σ H s) (ex : EX P σ H env F) (r1 : RelV v1 u1) (r2 : RelV v2 u2) (p1 : OpR P F σ v1 o1) (p2 : OpR P F σ v2 o2) (w : ownW Γ neg c f Xp R o1 o2 env)
    (k : ∀ r env' H' F', R r env' → LeH F F' → EX P σ H' env' F' → Q (.bl r) H') :
    wpAny (model X.prog X.w) X.A (compareOp (opN neg) u1 u2) (BlB fun r s' => ∃ H', Inv X pins σ H' s' ∧ Q (.bl r) H') X.xe s := by
  rcases w with ⟨i1, i2, w⟩ | w | ⟨rfl, i1, i2, w⟩ | ⟨xs, ys, T, q1, q2, ⟨a1, a2⟩, hT, hf, hR⟩
  · obtain ⟨fs1, e1⟩ := isIns_eq i1
    obtain ⟨q1, dx1, vs1, rfl, h1, _, _, _⟩ := (ex.res p1 e1).ins ex.sub
    obtain rfl : u1 = Value.ref q1 := r1
    obtain ⟨mA, J, _⟩ := ins_get I.hok h1
    obtain ⟨od, J, _⟩ := J.look
    have ht : ∃ tb, PySem.W.Looks (model X.prog X.w) s.heap (typeOf u2) tb ∧ PySem.W.notFirst X.K (P.L.cls c) tb = true := by
      cases e2 : res env o2 with
      | none => rw [e2] at i2; simp [cmO, isData] at i2
      | some d =>
        rw [e2] at i2
        cases hd : isIns c (some d) with
        | true =>
          obtain ⟨fs2, e3⟩ := isIns_eq hd
          cases e3
          obtain ⟨q2, dx2, vs2, rfl, h2, _, _, _⟩ := (ex.res p2 e2).ins ex.sub
          obtain rfl : u2 = Value.ref q2 := r2
          obtain ⟨mB, J', _⟩ := ins_get I.hok h2
          obtain ⟨od', J', _⟩ := J'.look
          exact ⟨_, J'.type, by simp [PySem.W.notFirst]⟩
        | false =>
          have i3 : isData (some d) = true := by
            cases d <;> first
              | exact i2
              | (simp [cmO] at i2; simp [isIns, i2] at hd)
          obtain ⟨T, id, hm, ht, _⟩ := data_type I hK i3 ((ex.res p2 e2).now ex.sub) r2
          exact ⟨_, typeIs_looks ht, notFirst_type hm⟩
    obtain ⟨tb, ht, hn⟩ := ht
    cases neg with
    | false =>
      exact rc_own (op := .Eq) (by omega) I.kIn J ht hn (try_own I.kIn J O.eq O.fn (own_call Dk hg (hr.mono (Nat.le_succ _)) I.env0 tk hb I ex (show RelV (.ref q1) (.ref q1) from rfl) r2 p1 p2 w fun b env' H' F' hR m ee => k _ env' H' F' hR m ee))
    | true =>
      refine own_ne (by omega) I.kIn J ht hn O.eq O.fn O.ne O.ob ?_
      exact own_call (A := X.A.in1) (Q := fun r H' => Q (.bl (!r)) H') Dk hg hr.in1 I.env0.in1 tk hb I ex (show RelV (.ref q1) (.ref q1) from rfl) r2 p1 p2 w fun b env' H' F' hR m ee => k _ env' H' F' hR m ee
  · refine wpAny_mono (op_cmp hK hW hu (opN neg) pins s σ H v1 v2 u1 u2 (fun v H' => ∃ b, v = .bl b ∧ Q (.bl b) H') I r1 r2 (cmp_core ex p1 p2 w fun b hb => ⟨b, rfl, k b env H F hb (LeH.refl F) ex⟩)) (fun v s' z => ?_) fun _ _ z => z
    obtain ⟨x, H', I', rx, b, rfl, q⟩ := z
    cases rx
    exact ⟨b, rfl, H', I', q⟩
  · obtain ⟨fs2, e2⟩ := isIns_eq i2
    obtain ⟨q2, dx2, vs2, rfl, h2, _, _, _⟩ := (ex.res p2 e2).ins ex.sub
    obtain rfl : u2 = Value.ref q2 := r2
    obtain ⟨mB, J', _⟩ := ins_get I.hok h2
    have hx := J'.obj
    obtain ⟨od', J', _⟩ := J'.look
    cases e1 : res env o1 with
    | none => rw [e1] at i1; simp [isData] at i1
    | some d =>
      rw [e1] at i1
      obtain ⟨T, id, hm, ht, Sl, hd⟩ := data_type I hK i1 ((ex.res p1 e1).now ex.sub) r1
      exact rc_back (dx := dx2) (by omega) I.kIn J' ht Sl (hd X.A _ _ _ _ hx (O.no T hm)) (O.no T hm) O.eq O.fn (own_call Dk hg (hr.mono (Nat.le_succ _)) I.env0 tk hb I ex (show RelV (.ref q2) (.ref q2) from rfl) r1 p2 p1 w fun b env' H' F' hR m ee => k _ env' H' F' hR m ee)
  · have h1 : Rep P.L F (.tup xs) v1 := by
      obtain ⟨A, e⟩ := id ex
      rcases e.res p1 q1 with t | ⟨b, o', _, z, _⟩
      · exact t
      · cases o' <;> cases z
    have h2 : Rep P.L F (.tup ys) v2 := by
      obtain ⟨A, e⟩ := id ex
      rcases e.res p2 q2 with t | ⟨b, o', _, z, _⟩
      · exact t
      · cases o' <;> cases z
    obtain ⟨l, vs, e1, s1, rp1⟩ := id h1
    obtain ⟨m, ws, e2, s2, rp2⟩ := id h2
    subst e1 e2
    cases r1
    cases r2
    obtain ⟨its, rv, ⟨o, t1, t2, n', t3⟩, _⟩ := I.tuple (by rw [hK]; exact sqT_mono ex.sub s1)
    obtain ⟨its2, rv2, ⟨oo, t1', t2', n2', t3'⟩, _⟩ := I.tuple (by rw [hK]; exact sqT_mono ex.sub s2)
    have L1 : its.length = xs.length := by rw [← rv.length, reps_len rp1]
    have L2' : its2.length = ys.length := by rw [← rv2.length, reps_len rp2]
    let J : Shared → Prop := fun s' => ∃ H' F', Inv X pins σ H' s' ∧ EX P σ H' env F' ∧ LeH F F'
    have eo : opN neg = opT neg := rfl
    have main := rc_tupB (prog := X.prog) (w := X.w) (A := X.A) (E := X.xe) (s := s) (neg := neg) (e := pairT T xs ys) (J := J) (Q := fun r s' => ∃ H', Inv X pins σ H' s' ∧ Q (.bl r) H') (by omega) t1 t1' t2 t3 t2' t3' ⟨H, F, I, ex, LeH.refl F⟩ (fun i k1 k2 s' hj => ?_) (fun s' hj => ?_)
    · rw [eo]
      cases neg <;> exact main
    · obtain ⟨H', F', I', e', mm⟩ := hj
      have k1' : i < its.length := by simpa using k1
      have k2' : i < its2.length := by simpa using k2
      obtain ⟨da, va, ga, ra, la⟩ := reps_get rp1 rv (List.getElem?_eq_getElem k1')
      obtain ⟨db, vb, gb, rb, lb⟩ := reps_get rp2 rv2 (List.getElem?_eq_getElem k2')
      have ma : da ∈ xs := List.mem_of_getElem? ga
      have mb : db ∈ ys := List.mem_of_getElem? gb
      have fa := List.all_eq_true.mp a1 da ma
      have fb := List.all_eq_true.mp a2 db mb
      have ep : pairT T xs ys i = T da db := by simp only [pairT, ga, gb]
      rw [ep]
      simp only [List.getElem_toArray]
      have ia : isIns c (some da) = true := by cases da <;> simp [flatI] at fa <;> simp [isIns, fa.1]
      have ib : isIns c (some db) = true := by cases db <;> simp [flatI] at fb <;> simp [isIns, fb.1]
      obtain ⟨fsa, ea⟩ := isIns_eq ia
      obtain ⟨fsb, eb⟩ := isIns_eq ib
      cases ea
      cases eb
      obtain ⟨qa, dxa, fva, vsa, rfl, ha, _⟩ := id ra
      obtain ⟨qb, dxb, fvb, vsb, rfl, hb', _⟩ := id rb
      rw [show its[i] = Value.ref qa from la, show its2[i] = Value.ref qb from lb]
      by_cases hq : qa = qb
      · subst hq
        have := inst_one fa fb ra rb
        cases this
        refine SeqAt.EqAt.same (A := X.A.in1) (s := s') (.ref qa) X.prog X.w X.xe _ ⟨(hT _ ma).symm, H', F', I', e', mm⟩
      · obtain ⟨mA, J1, _⟩ := ins_get I'.hok (e'.sub _ _ (mm _ _ ha))
        obtain ⟨od1, J1, _⟩ := J1.look
        obtain ⟨mB, J2, _⟩ := ins_get I'.hok (e'.sub _ _ (mm _ _ hb'))
        obtain ⟨od2, J2, _⟩ := J2.look
        refine GQ.eqBool_refG hq (wpAny_mono (rc_own (op := .Eq) (Q := fun r s2 => r = T (.ins c fsa) (.ins c fsb) ∧ J s2) (by show X.A.units + 1 < _; omega) I'.kIn J1 J2.type (by simp [PySem.W.notFirst]) (try_own I'.kIn J1 O.eq O.fn ?_)) (fun v s2 z => z) fun _ _ z => z)
        have hl : lent env [.d (.ins c fsa), .d (.ins c fsb)] [.inl 0, .inl 1] = [] := by simp [lent]
        have bk : ∀ os : List OV, back env [] os = env := fun os => by cases os <;> rfl
        refine wpAny_mono (own_call (A := X.A.in1) (neg := false) (o1 := .d (.ins c fsa)) (o2 := .d (.ins c fsb)) (R := fun r env' => r = T (.ins c fsa) (.ins c fsb) ∧ env' = env) (Q := fun r H2 => r = T (.ins c fsa) (.ins c fsb) ∧ ∃ F2, EX P σ H2 env F2 ∧ LeH F F2) Dk hg hr.in1 I'.env0.in1 tk hb I' e' (show RelV (.ref qa) (.ref qa) from rfl) (show RelV (.ref qb) (.ref qb) from rfl) (Rep.mono mm _ _ ra) (Rep.mono mm _ _ rb)
          ⟨[.val (.ins c fsa), .val (.ins c fsb)], rfl, by rw [hl]; exact List.nodup_nil, ?_⟩ fun b env' H2 F2 hR' m2 ee => ?_) (fun v s2 z => ?_) fun _ _ z => z
        · rw [hl]
          simp only [bk]
          have := hf _ ma _ mb
          simpa using this
        · obtain ⟨e4, rfl⟩ := hR'
          exact ⟨by simpa using e4, F2, ee, mm.trans m2⟩
        · obtain ⟨r, rfl, H2, I2, e4, F2, ee, m3⟩ := z
          exact ⟨r, rfl, e4, H2, F2, I2, ee, m3⟩
    · obtain ⟨H', F', I', e', mm⟩ := hj
      refine ⟨H', I', k _ env H' F' ?_ mm e'⟩
      have := eqNs_all (T := T) xs ys
      simp only [List.size_toArray, L1, L2', this]
      exact hR
theorem e_own (hK : X.K = P.L.K) (hW : X.w = P.L.w) (Dk : DefOk X.prog X.w X.K X.mg X.base n (P.L.fn f) fd ps (lift P.L (Γ.f f))) (hg : X.A.guards = some []) (hr : Room (n + 1) X.A) (hu : X.A.units + 150 < cLine) (tk : Takes X (WXo P Xp)) (hb : BindOk X.K fd ps 2 [] [.inl 0, .inl 1]) (O : OwnB X.K (P.L.cls c) (P.L.fn f))
    (ha : PE X x (tO P Γ Xp a)) (hy : PE X y (tO P Γ Xp b)) (hm : behindInMarks (opN neg) y = false) : PE X (.Compare x [opN neg] [y] pos) (tE P Γ Xp (.own neg c f a b)) := ⟨fun pins s σ H Q I h => by
  obtain ⟨env, F, R, ex, w, k⟩ := h
  simp only [wE] at w
  refine wpAny_Compare1 (binT (R := fun v1 v2 H2 => ∃ env2 F2 o1 o2, EX P σ H2 env2 F2 ∧ LeH F F2 ∧ OpR P F2 σ v1 o1 ∧ OpR P F2 σ v2 o2 ∧ ownW Γ neg c f Xp (fun r env3 => R (.val (.bl r)) env3) o1 o2 env2) ha hy I
    ⟨env, F, _, ex, w, fun o1 env1 v1 H1 F1 w1 m1 e1 p1 => ⟨env1, F1, _, e1, w1, fun o2 env2 v2 H2 F2 w2 m2 e2 p2 => ⟨env2, F2, o1, o2, e2, m1.trans m2, p1.mono m2, p2, w2⟩⟩⟩
    fun v u s2 z1 z2 H2 I2 r1 r2 ⟨env2, F2, o1, o2, e2, m, p1, p2, w2⟩ => ?_) hm
  refine wpAny_mono (own_core hK hW (Q := Q) Dk hg hr hu tk hb O I2 e2 r1 r2 p1 p2 w2 fun r env' H' F' hR m' e' => k _ env' _ H' F' hR (m.trans m') (e'.pure rfl)) (fun v s' z => ?_) fun _ _ z => z
  obtain ⟨r, rfl, H', I', q⟩ := z
  exact ⟨.bl r, H', I', rfl, q⟩⟩
theorem t_own (hK : X.K = P.L.K) (hW : X.w = P.L.w) (Dk : DefOk X.prog X.w X.K X.mg X.base n (P.L.fn f) fd ps (lift P.L (Γ.f f))) (hg : X.A.guards = some []) (hr : Room (n + 1) X.A) (hu : X.A.units + 150 < cLine) (tk : Takes X (WXo P Xp)) (hb : BindOk X.K fd ps 2 [] [.inl 0, .inl 1]) (O : OwnB X.K (P.L.cls c) (P.L.fn f))
    (ha : PE X x (tO P Γ Xp a)) (hy : PE X y (tO P Γ Xp b)) (hm : behindInMarks (opN neg) y = false) : PT X (.Compare x [opN neg] [y] pos) (tT P Γ Xp (.own neg c f a b)) := ⟨fun pins s σ H Q I h => by
  obtain ⟨env, F, R, ex, w, k⟩ := h
  simp only [wT] at w
  refine wpAny_isTrue_Compare1 (binT (R := fun v1 v2 H2 => ∃ env2 F2 o1 o2, EX P σ H2 env2 F2 ∧ LeH F F2 ∧ OpR P F2 σ v1 o1 ∧ OpR P F2 σ v2 o2 ∧ ownW Γ neg c f Xp R o1 o2 env2) ha hy I
    ⟨env, F, _, ex, w, fun o1 env1 v1 H1 F1 w1 m1 e1 p1 => ⟨env1, F1, _, e1, w1, fun o2 env2 v2 H2 F2 w2 m2 e2 p2 => ⟨env2, F2, o1, o2, e2, m1.trans m2, p1.mono m2, p2, w2⟩⟩⟩
    fun v u s2 z1 z2 H2 I2 r1 r2 ⟨env2, F2, o1, o2, e2, m, p1, p2, w2⟩ => ?_) hm
  refine wpAny_mono (own_core hK hW (Q := fun v H' => ∃ r, v = .bl r ∧ Q r H') Dk hg hr hu tk hb O I2 e2 r1 r2 p1 p2 w2 fun r env' H' F' hR m' e' => ⟨r, rfl, k _ env' H' F' hR (m.trans m') e'⟩) (fun v s' z => ?_) fun _ _ z => z
  obtain ⟨r, rfl, H', I', r', e, q⟩ := z
  cases e
  exact wpAny_truthy_bool ⟨H', I', q⟩⟩
end
end G
/-! S8: repr(x), str(x), len(x) of an instance by its class's own method. -/
namespace G
open PySem PySem.Spec PySem.Calls L2 PyProof.Rows Builtin.Str
section
variable {prog : Program} {w : World} {A : Around} {E : Value → Shared → Prop} {s : Shared} {K : PySem.W.Frag} {x C f : Addr} {ox : Obj} {od : Option Obj}
/-- a text comes out -/
def StB (Q : Str → Shared → Prop) (v : Value) (s' : Shared) : Prop := ∃ m t, v = .str m t ∧ Q m s'
/-- a number from 0 comes out -/
def LnB (Q : Int → Shared → Prop) (v : Value) (s' : Shared) : Prop := ∃ n t, v = .int n t ∧ (0 ≤ n ∧ n < 2 ^ 63) ∧ Q n s'
theorem own_repr {Q : Str → Shared → Prop} (hu : A.in1.units < cLine) (X : K.In s.heap) (I : PySem.W.InstAt s.heap x ox C od) (hs : PySem.W.findIn K (.ref C) "__repr__" = some (some (.ref f))) (hf : PySem.W.isFn K (.ref f) = true)
    (h : wpAny (model prog w) A.in1 (call (.ref f) [.ref x]) (StB Q) E s) : wpAny (model prog w) A (call (.builtin "repr") [.ref x]) (StB Q) E s := by
  refine PySem.Calls.call_function_entry PySem.F.kind_repr PySem.F.plain_repr PySem.F.entry_repr (PySem.F.args_repr1 (.ref x)) ?_
  unfold Builtin.«repr»
  refine wpAny_bind (m := oneArg "repr" ⟨[.ref x], []⟩) (wpAny_pure ?_)
  refine wpAny_bind (wpAny_cRoomFor hu (wpAny_bind (wpAny_bind (I.type.here ((PySem.W.looks_findIn X hs).here ?_)))))
  show wpAny _ _ (if (some (Value.ref f)).isNone = true then _ else _) _ _ s
  rw [if_neg (fun z => by cases z)]
  refine wpAny_bind (m := callSpecialIfBound? (.ref x) "__repr__" []) (PySem.W.ifBound_K X I hs hf (wpAny_mono h (fun v s1 hv => ?_) fun _ _ z => z))
  obtain ⟨m, t, rfl, q⟩ := hv
  refine wpAny_bind (wpAny_isInstance (T := "str") (b := true) (typeIs_str s1 m t) isSubtype_str_str ?_)
  exact wpAny_pure ⟨_, rfl, m, t, rfl, q⟩
theorem own_len {Q : Int → Shared → Prop} (X : K.In s.heap) (I : PySem.W.InstAt s.heap x ox C od) (hs : PySem.W.findIn K (.ref C) "__len__" = some (some (.ref f))) (hf : PySem.W.isFn K (.ref f) = true)
    (h : wpAny (model prog w) A.in1 (call (.ref f) [.ref x]) (LnB fun n s' => Q n { s' with toks := s'.toks + 1 }) E s) : wpAny (model prog w) A (call (.builtin "len") [.ref x]) (LnB Q) E s := by
  refine PySem.Calls.call_function_entry PySem.kind_len PySem.plain_len PySem.entry_len (PySem.args_len1 (.ref x)) ?_
  unfold Builtin.«len»
  refine wpAny_bind (m := oneArg "len" ⟨[.ref x], []⟩) (wpAny_pure ?_)
  refine wpAny_bind (m := callSpecial? (.ref x) "__len__" []) (PySem.W.special_fn X I hs (beq_iff_eq.mp hf) (wpAny_mono h (fun v s1 hv => ?_) fun _ _ z => z))
  obtain ⟨n, t, rfl, ⟨h0, h1⟩, q⟩ := hv
  refine wpAny_bind (wpAny_holding (wpAny_pure (wpAny_bind (wpAny_letGo ?_))))
  show wpAny _ _ (if n < 0 then _ else _) _ _ s1
  rw [if_neg (Int.not_lt.mpr h0)]
  show wpAny _ _ (if n ≥ 2 ^ 63 then _ else _) _ _ s1
  rw [if_neg (Int.not_le.mpr h1)]
  exact wpAny_bind (wpAny_mkInt (wpAny_pure ⟨_, rfl, n, _, rfl, ⟨h0, h1⟩, q⟩))
theorem own_str {Q : Str → Shared → Prop} (hu : A.in1.in1.units < cLine) (X : K.In s.heap) (I : PySem.W.InstAt s.heap x ox C od) (hs : PySem.W.findIn K (.ref C) "__str__" = some (some (.ref f))) (hf : PySem.W.isFn K (.ref f) = true)
    (h : wpAny (model prog w) A.in1.in1 (call (.ref f) [.ref x]) (StB Q) E s) : wpAny (model prog w) A (call (.type "str") [.ref x]) (StB Q) E s := by
  have key : wpAny (model prog w) A.in1.in1 (Builtin.Str.strOf (.ref x)) (StB Q) E s := by
    unfold Builtin.Str.strOf
    rw [show isExactStr (.ref x) = false from rfl]
    refine wpAny_bind (m := cRoomFor _ _) (wpAny_cRoomFor hu (wpAny_bind (m := callSpecial? (.ref x) "__str__" []) (PySem.W.special_fn X I hs (beq_iff_eq.mp hf) (wpAny_mono h (fun v s1 hv => ?_) fun _ _ z => z))))
    obtain ⟨m, t, rfl, q⟩ := hv
    exact wpAny_pure ⟨m, t, rfl, q⟩
  refine callType_codes (T := "str") (Bi := Builtin.«object.__init__») (Q₁ := StB Q) PySem.F.called_str (PySem.F.typeCall_str_1 (.ref x)) PySem.F.entry_object_init (codeAny_of_tree ?_) ?_
  · show wpAny _ A.in1.in1 (do checkBuiltinCall "str.__new__" ⟨[.type "str", .ref x], []⟩; again (.builtin "str.__new__" ⟨[.type "str", .ref x], []⟩)) _ _ s
    refine wpAny_bind (wpAny_of_eq (PySem.F.newCall_str_1 (.ref x)) (wpAny_pure ⟨plainId_quiet (by decide +kernel) _, codeAny_builtin PySem.F.entry_str_new ?_⟩))
    rw [Around.under_plainId (by decide +kernel) _, str_new_tree]
    exact wpAny_bind (wpAny_pure (wpAny_bind (wpAny_of_eq isSubtype_str_str (wpAny_bind (wpAny_mono key (fun _ _ z => wpAny_pure z) fun _ _ z => z)))))
  · intro obj s1 hq
    obtain ⟨m, t, rfl, q⟩ := hq
    refine ⟨typeIs_str s1 m t, PySem.F.args_object_init_2 (.str m t) (.ref x), ?_⟩
    exact object_init_meets PySem.F.called_str.init.lookup PySem.F.called_str.made (by decide) prog w A.in1 _ s1 ⟨typeIs_str s1 m t, rfl, m, t, rfl, q⟩
end
def spN : SP → Str
  | .repr => "__repr__"
  | .str => "__str__"
  | .len => "__len__"
def spG : SP → Str
  | .repr => "repr"
  | .str => "str"
  | .len => "len"
/-- the def of a special method -/
structure SpcB (K : PySem.W.Frag) (C f : Addr) (k : SP) : Prop where
  at_ : PySem.W.findIn K (.ref C) (spN k) = some (some (.ref f))
  fn : PySem.W.isFn K (.ref f) = true
section
variable {X : Cx} {P : PP} {Γ : Fns} {Xp : XP} {a : E} {x : Expr} {n c f : Nat} {fd : FuncData} {ps : List Str} {p pos : Pos}
theorem room2 {n : Nat} {A : Around} (r : Room (n + 1) A) : Room n A.in1.in1 :=
  ⟨r.hd, by have := r.dp; show A.depth + 3 * n + 5 < _; omega, by have := r.un; show A.units + 1 + 1 + 16 * n + 200 < _; omega⟩
/-- the call of the method's def, its answer as it must be -/
theorem spc_run {A : Around} {k : SP} {pins : List (Addr × Obj)} {σ : L2.St} {H : Hp} {s : Shared} {env : Env} {F : Hp} {q : Addr} {o : Op} {R : PostE} {Q : VK}
    (Dk : DefOk X.prog X.w X.K X.mg X.base n (P.L.fn f) fd ps (lift P.L (Γ.f f))) (hg : A.guards = some []) (hr : Room n A) (e0 : Env0 X.prog X.w X.K X.mg X.base A X.stack s H) (tk : Takes X (WXo P Xp)) (hb : BindOk X.K fd ps 1 [] [.inl 0])
    (I : Inv X pins σ H s) (ex : EX P σ H env F) (p1 : OpR P F σ (.ref q) o) (w : spcW Γ k c f Xp R o env) (kk : ∀ r env' v H' F', R r env' → LeH F F' → EXv P σ H' env' F' v r → Q v H') :
    wpAny (model X.prog X.w) A (call (.ref (P.L.fn f)) [.ref q]) (fun u s' => ∃ v H', Inv X pins σ H' s' ∧ RelV v u ∧ Q v H' ∧ (match k with | .len => ∃ n : Int, v = .int n ∧ 0 ≤ n ∧ n < 2 ^ 63 | _ => ∃ m : Str, v = .str m)) X.xe s := by
  refine wpAny_mono (call_coreA (A := A) (us := [.ref q]) (ws := []) (kws := []) (R := fun r env' => spW k r fun r => R r env') (Q := fun v H' => Q v H' ∧ (match k with | .len => ∃ n : Int, v = .int n ∧ 0 ≤ n ∧ n < 2 ^ 63 | _ => ∃ m : Str, v = .str m)) Dk hg hr e0 tk hb I ex (vs := [.ref q]) (.cons (show RelV (.ref q) (.ref q) from rfl) .nil) rfl rfl (.cons p1 .nil) w.2
    fun r env' v H' F' hR m ev => ?_) (fun u s' z => ?_) fun _ _ z => z
  · cases k with
    | len =>
      obtain ⟨n, rfl, h01, hR⟩ := hR
      obtain rfl : v = .int n := let ⟨_, _, z⟩ := ev; z
      exact ⟨kk _ env' _ H' F' hR m ev, n, rfl, h01⟩
    | repr =>
      obtain ⟨m', rfl, hR⟩ := hR
      obtain rfl : v = .str m' := let ⟨_, _, z⟩ := ev; z.1
      exact ⟨kk _ env' _ H' F' hR m ev, m', rfl⟩
    | str =>
      obtain ⟨m', rfl, hR⟩ := hR
      obtain rfl : v = .str m' := let ⟨_, _, z⟩ := ev; z.1
      exact ⟨kk _ env' _ H' F' hR m ev, m', rfl⟩
  · obtain ⟨v, H', I', rz, q1, q2⟩ := z
    exact ⟨v, H', I', rz, q1, q2⟩
theorem spc_core {k : SP} {pins : List (Addr × Obj)} {σ : L2.St} {H : Hp} {s : Shared} {env : Env} {F : Hp} {v1 : V} {u1 : Value} {o : Op} {R : PostE} {Q : VK}
    (Dk : DefOk X.prog X.w X.K X.mg X.base n (P.L.fn f) fd ps (lift P.L (Γ.f f))) (hg : X.A.guards = some []) (hr : Room (n + 1) X.A) (hu : X.A.units + 150 < cLine) (tk : Takes X (WXo P Xp)) (hb : BindOk X.K fd ps 1 [] [.inl 0]) (O : SpcB X.K (P.L.cls c) (P.L.fn f) k)
    (I : Inv X pins σ H s) (ex : EX P σ H env F) (r1 : RelV v1 u1) (p1 : OpR P F σ v1 o) (w : spcW Γ k c f Xp R o env) (kk : ∀ r env' v H' F', R r env' → LeH F F' → EXv P σ H' env' F' v r → Q v H') :
    wpAny (model X.prog X.w) X.A (call (match k with | .repr => .builtin "repr" | .str => .type "str" | .len => .builtin "len") [u1]) (EP X pins σ Q) X.xe s := by
  obtain ⟨fs1, e1⟩ := isIns_eq w.1
  obtain ⟨q, dx, vs1, rfl, h1, _, _, _⟩ := (ex.res p1 e1).ins ex.sub
  obtain rfl : u1 = Value.ref q := r1
  obtain ⟨mA, J, _⟩ := ins_get I.hok h1
  obtain ⟨od, J, _⟩ := J.look
  cases k with
  | repr =>
    refine wpAny_mono (own_repr (Q := fun m s' => ∃ H', Inv X pins σ H' s' ∧ Q (.str m) H') (by show X.A.units + 1 < cLine; omega) I.kIn J O.at_ O.fn (wpAny_mono (spc_run (A := X.A.in1) (k := .repr) Dk hg hr.in1 I.env0.in1 tk hb I ex p1 w kk) (fun u s' z => ?_) fun _ _ z => z)) (fun u s' z => ?_) fun _ _ z => z
    · obtain ⟨v, H', I', rz, q1, m, rfl⟩ := z
      obtain ⟨t, rfl⟩ := rz
      exact ⟨m, t, rfl, H', I', q1⟩
    · obtain ⟨m, t, rfl, H', I', q1⟩ := z
      exact ⟨.str m, H', I', ⟨t, rfl⟩, q1⟩
  | str =>
    refine wpAny_mono (own_str (Q := fun m s' => ∃ H', Inv X pins σ H' s' ∧ Q (.str m) H') (by show X.A.units + 1 + 1 < cLine; omega) I.kIn J O.at_ O.fn (wpAny_mono (spc_run (A := X.A.in1.in1) (k := .str) Dk hg (room2 hr) I.env0.in1.in1 tk hb I ex p1 w kk) (fun u s' z => ?_) fun _ _ z => z)) (fun u s' z => ?_) fun _ _ z => z
    · obtain ⟨v, H', I', rz, q1, m, rfl⟩ := z
      obtain ⟨t, rfl⟩ := rz
      exact ⟨m, t, rfl, H', I', q1⟩
    · obtain ⟨m, t, rfl, H', I', q1⟩ := z
      exact ⟨.str m, H', I', ⟨t, rfl⟩, q1⟩
  | len =>
    refine wpAny_mono (own_len (Q := fun m s' => ∃ H', Inv X pins σ H' s' ∧ Q (.int m) H') I.kIn J O.at_ O.fn (wpAny_mono (spc_run (A := X.A.in1) (k := .len) Dk hg hr.in1 I.env0.in1 tk hb I ex p1 w kk) (fun u s' z => ?_) fun _ _ z => z)) (fun u s' z => ?_) fun _ _ z => z
    · obtain ⟨v, H', I', rz, q1, m, rfl, h01⟩ := z
      obtain ⟨t, rfl⟩ := rz
      exact ⟨m, t, rfl, h01, H', I'.tok _, q1⟩
    · obtain ⟨m, t, rfl, h01, H', I', q1⟩ := z
      exact ⟨.int m, H', I', ⟨t, rfl⟩, q1⟩
theorem e_spc {k : SP} (Dk : DefOk X.prog X.w X.K X.mg X.base n (P.L.fn f) fd ps (lift P.L (Γ.f f))) (hg : X.A.guards = some []) (hr : Room (n + 1) X.A) (hu : X.A.units + 150 < cLine) (tk : Takes X (WXo P Xp)) (hb : BindOk X.K fd ps 1 [] [.inl 0]) (O : SpcB X.K (P.L.cls c) (P.L.fn f) k)
    (hgl : Gl X (spG k)) (hm : X.mg (spG k) = none) (ha : PE X x (tO P Γ Xp a)) (hs : starEach [x] X.env = [(false, eval x X.env)]) : PE X (.Call (.Name (spG k) p) [x] [] pos) (tE P Γ Xp (.spc k c f a)) := ⟨fun pins s σ H Q I h => by
  obtain ⟨env, F, R, ex, w, kk⟩ := h
  simp only [wE] at w
  have pa : PA X [x] (tOs P Γ Xp [a]) := os_cons ha os_nil hs
  have run : ∀ u, (∀ v1 u1 o env1 H1 F1 s1, Inv X pins σ H1 s1 → RelV v1 u1 → EX P σ H1 env1 F1 → OpR P F1 σ v1 o → spcW Γ k c f Xp R o env1 → LeH F F1 → wpAny (model X.prog X.w) X.A (call u [u1]) (EP X pins σ Q) X.xe s1) →
      wpAny (model X.prog X.w) X.A (spliced (backTo pos (starEach [x] X.env))) (fun us s1 => wpAny (model X.prog X.w) X.A (call u us) (EP X pins σ Q) X.xe s1) X.xe s := fun u hu' => by
    refine thn (pa.run pos pins s σ H (fun vs H1 => ∀ us s1, Inv X pins σ H1 s1 → Vals vs us → wpAny (model X.prog X.w) X.A (call u us) (EP X pins σ Q) X.xe s1) I ⟨env, F, fun os env1 => match os with | [o] => spcW Γ k c f Xp R o env1 | _ => False, ex, by simp only [wOs]; exact w, fun os env' vs H' F' q m e p l us s1 I1 rv => ?_⟩) fun us s1 ⟨vs, H1, I1, rv, q⟩ => q us s1 I1 rv
    match os, q with
    | [o], q =>
      cases p with
      | cons p1 t =>
        cases t
        cases rv with
        | cons r1 t =>
          cases t
          exact hu' _ _ o env' H' F' s1 I1 r1 e p1 q m
  have he : starEach [x] X.env = (false, eval x X.env) :: starEach [] X.env := by rw [hs]; rfl
  cases k with
  | repr =>
    refine wpAny_Call_Name_kw (ld_blt I hgl hm (show bootBuiltins "repr" = some (.builtin "repr") by decide +kernel) ?_ (by decide) (by decide))
    exact PyProof.Rows.callWith_builtin1 (run (.builtin "repr") fun v1 u1 o env1 H1 F1 s1 I1 r1 e1 p1 w1 m => spc_core (k := .repr) Dk hg hr hu tk hb O I1 e1 r1 p1 w1 fun r env' v H' F' hR m' e' => kk r env' v H' F' hR (m.trans m') e') he (by rfl)
  | str =>
    refine wpAny_Call_Name_kw (ld_blt I hgl hm (show bootBuiltins "str" = some (.type "str") by decide +kernel) ?_ (by decide) (by decide))
    exact PyProof.Rows.callWith_type1 (run (.type "str") fun v1 u1 o env1 H1 F1 s1 I1 r1 e1 p1 w1 m => spc_core (k := .str) Dk hg hr hu tk hb O I1 e1 r1 p1 w1 fun r env' v H' F' hR m' e' => kk r env' v H' F' hR (m.trans m') e') he (by rfl)
  | len =>
    refine wpAny_Call_Name_kw (ld_blt I hgl hm (show bootBuiltins "len" = some (.builtin "len") by decide +kernel) ?_ (by decide) (by decide))
    exact PyProof.Rows.callWith_builtin1 (run (.builtin "len") fun v1 u1 o env1 H1 F1 s1 I1 r1 e1 p1 w1 m => spc_core (k := .len) Dk hg hr hu tk hb O I1 e1 r1 p1 w1 fun r env' v H' F' hR m' e' => kk r env' v H' F' hR (m.trans m') e') he (by rfl)⟩
end
end G
/-! S13: repr of a tuple with instances within: their class's own repr, behind the tuple's guard. -/
namespace G
open PySem PySem.Spec PySem.Calls L2 PyProof.Rows Builtin.Str
section
variable {prog : Program} {w : World} {A : Around} {E : Value → Shared → Prop} {s : Shared} {K : PySem.W.Frag} {x C f : Addr} {ox : Obj} {od : Option Obj}
/-- an instance's own repr, within another's -/
theorem own_reprUnder {Q : Str → Shared → Prop} {base : Nat} (hb : base ≤ sizeLine) (hu : A.units < cLine) (X : K.In s.heap) (I : PySem.W.InstAt s.heap x ox C od) (hs : PySem.W.findIn K (.ref C) "__repr__" = some (some (.ref f))) (hf : PySem.W.isFn K (.ref f) = true)
    (h : wpAny (model prog w) A (call (.ref f) [.ref x]) (StB Q) E s) : wpAny (model prog w) A (pyReprUnder base (.ref x)) Q E s := by
  refine wpAny_pyReprUnder_ref hb ?_
  unfold pyReprObjUnder pyReprObjBy
  refine wpAny_bind (wpAny_cRoomFor hu (wpAny_bind (wpAny_bind (I.type.here ((PySem.W.looks_findIn X hs).here ?_)))))
  show wpAny _ _ (if (some (Value.ref f)).isNone = true then _ else _) _ _ s
  rw [if_neg (fun z => by cases z)]
  have key : ∀ {Q' : Option Value → Shared → Prop}, (∀ v s', StB Q v s' → Q' (some v) s') → wpAny (model prog w) A (callSpecialIfBoundBy? (fun g first => match reprUnder? g, first with
    | some twin, [self] => call twin [self, rawInt base]
    | _, _ => call g (first ++ [])) (.ref x) "__repr__") Q' E s := fun {Q'} hQ => by
    simp only [callSpecialIfBoundBy?, bindSpecialIfBound?]
    refine wpAny_holding (wpAny_bind (wpAny_bind (wpAny_bind (I.type.here ((PySem.W.looks_findIn X hs).here ?_)))))
    refine wpAny_bind (wpAny_askSetting (wpAny_ite ?_))
    have fin : wpAny (model prog w) A (call (.ref f) ([.ref x] ++ []) >>= fun v => pure (some v)) Q' E s := wpAny_bind (wpAny_mono h (fun v s' h' => wpAny_pure (hQ v s' h')) fun _ _ h' => h')
    split
    · exact wpAny_bind ((PySem.W.bind_fn X _ (beq_iff_eq.mp hf)).here (wpAny_pure (by exact fin)))
    · exact wpAny_tryCatch (wpAny_bind ((PySem.W.bind_fn X _ (beq_iff_eq.mp hf)).here (wpAny_pure (by exact fin))))
  refine wpAny_bind (key fun v s1 hv => ?_)
  obtain ⟨m, t, rfl, q⟩ := hv
  refine wpAny_bind (wpAny_isInstance (T := "str") (b := true) (typeIs_str s1 m t) isSubtype_str_str ?_)
  exact wpAny_pure ⟨m, t, rfl, q⟩
end
/-! a tuple's repr: J holds between its items -/
section
variable {prog : Program} {w : World} {J : Shared → Prop} {E : Value → Shared → Prop}
def ReprJ (prog : Program) (w : World) (J : Shared → Prop) (E : Value → Shared → Prop) (ok : Around → List Code → Prop) (x : Value) (t : Str) : Prop :=
  ∀ (base : Nat), base + t.length ≤ sizeLine → ∀ (A : Around) (g : List Code) (s : Shared) (Q : Str → Shared → Prop), A.guards = some g → ok A g → J s → (∀ s', J s' → Q t s') → wpAny (model prog w) A (pyReprUnder base x) Q E s
inductive ReprAllJ (prog : Program) (w : World) (J : Shared → Prop) (E : Value → Shared → Prop) (ok : Around → List Code → Prop) : List Value → List Str → Prop
  | nil : ReprAllJ prog w J E ok [] []
  | cons {x : Value} {t : Str} {l : List Value} {ts : List Str} : ReprJ prog w J E ok x t → ReprAllJ prog w J E ok l ts → ReprAllJ prog w J E ok (x :: l) (t :: ts)
theorem ReprAllJ.length_eq {ok : Around → List Code → Prop} : ∀ {l : List Value} {ts : List Str}, ReprAllJ prog w J E ok l ts → ts.length = l.length
  | _, _, .nil => rfl
  | _, _, .cons _ h => by simp [h.length_eq]
theorem wpAny_tupFoldJ {A : Around} {g : List Code} {ok : Around → List Code → Prop} (hg : A.guards = some g) (hok : ok A g) : ∀ (l : List Value) (ts : List Str) (acc : Array Str) (n : Nat) (s : Shared) (Q : (Array Str × Nat) → Shared → Prop), ReprAllJ prog w J E ok l ts → n + piled ts ≤ sizeLine →
    J s → (∀ s', J s' → Q ⟨acc ++ ts.toArray, n + piled ts⟩ s') → wpAny (model prog w) A (forIn l (⟨acc, n⟩ : (Array Str × Nat)) tupBody) Q E s := by
  intro l
  induction l with
  | nil =>
    intro ts acc n s Q hT _ hj h
    cases hT
    have h0 := h s hj
    simp only [List.forIn_nil]
    exact wpAny_pure (by simpa [piled] using h0)
  | cons x l ih =>
    intro ts acc n s Q hT hn hj h
    cases hT with
    | cons hx hl =>
      rename_i t ts'
      rw [piled_cons] at hn
      rw [List.forIn_cons]
      refine wpAny_bind (wpAny_bind (hx (n + 1) (by omega) _ _ _ _ hg hok hj fun s' hj' => wpAny_pure ?_))
      refine ih ts' (acc.push t) (n + (t.length + 2)) _ Q hl (by omega) hj' (fun s'' hj'' => ?_)
      have h1 := h s'' hj''
      have e : n + piled (t :: ts') = n + (t.length + 2) + piled ts' := by rw [piled_cons]; omega
      rw [e] at h1
      simpa using h1
theorem wpOwn_tuple_reprAtJ {a : Addr} {o : Obj} {items : Array Value} {n : Nat} {ts : List Str} {s : Shared} {ok : Around → List Code → Prop}
    (ha : s.heap.get? a = some o) (hd : o.data = .seq items n) (hT : ReprAllJ prog w J E ok items.toList ts)
    {A : Around} {g : List Code} {R : Result → Shared → Prop} {base : Nat} {id : String} {rest : List Value}
    (hcg : (Code.builtin id ⟨.ref a :: rest, []⟩).isGuard = true) (hok : ok (A.under (.builtin id ⟨.ref a :: rest, []⟩)) (.builtin id ⟨.ref a :: rest, []⟩ :: g))
    (hg : A.guards = some g) (hca : Clear g a) (hj : J s) (hjt : ∀ s tk, J s → J { s with toks := tk })
    (hR : ∀ s' u, J s' → R (.ok (.ret (.str (tupleText ts) u))) s') (hE : ∀ e s', E e s' → R (.error e) s')
    (hsz : base + (tupleText ts).length ≤ sizeLine) :
    wpOwn (model prog w) A (.builtin id ⟨.ref a :: rest, []⟩) (Builtin.tupleReprAt base ⟨[.ref a], []⟩) (fun fin s' => match fin with | .done f => R (.ok f) s' | .again c' => c'.quiet = true ∧ codeAny (model prog w) A c' R s') (fun e s' => R (.error e) s') s := by
  have hlen : ts.length = items.size := by simpa using hT.length_eq
  have hp := piled_le_tupleText ts
  have hsz0 : (tupleText ts).length ≤ sizeLine := by omega
  rw [tuple_repr_tree, tupleReprUnderWay_eq]
  refine wpOwn_bind (wpOwn_stackTailAny hg (tupGuardF_off _) (tupGuardF_pos _) ?_)
  have hn : (g.any fun c => tupGuardF (.ref a) (c, default)) = false := by
    rw [List.any_eq_false]
    intro c hcm
    rw [tupGuardF_of_clear hca c hcm]
    exact Bool.false_ne_true
  rw [hn]
  refine wpOwn_of_wpAny ?_
  show wpAny _ _ (tupleReprRest base (.ref a)) _ _ s
  unfold tupleReprRest Builtin.Tuple.tupleItemsOf
  refine wpAny_bind (wpAny_bind (wpAny_seqItems ha hd (wpAny_pure ?_)))
  rw [← Array.forIn_toList]
  refine wpAny_bind (wpAny_mono (wpAny_tupFoldJ (guards_under_guard hcg hg) hok _ ts _ _ _ (fun r s' => r = ⟨#[] ++ ts.toArray, base + piled ts⟩ ∧ J s') hT (by omega) hj fun s' hj' => ⟨rfl, hj'⟩) (fun r s' hr => ?_) fun e s' he => hE e s' he)
  obtain ⟨rfl, hj'⟩ := hr
  refine wpAny_bind (wpAny_mkStr (wpAny_pure ?_) (by simpa [tupleText, hlen] using hsz0))
  have h1 := hR { s' with toks := s'.toks + 1 } s'.toks (hjt _ _ hj')
  simpa [tupleText, hlen] using h1
/-- what the tuple's guard leaves -/
def OkUp (J : Shared → Prop) (a : Addr) (ok' ok : Around → List Code → Prop) : Prop := ∀ A g s, ok' A g → J s → A.units < cLine ∧ Clear g a ∧ ∀ id rest, (id = "tuple.__repr__" ∨ id = "tuple.__repr__.under") → ok (A.under (.builtin id ⟨.ref a :: rest, []⟩)) (.builtin id ⟨.ref a :: rest, []⟩ :: g)
theorem call_tuple_reprJ {a : Addr} {ts : List Str} {s : Shared} {ok' ok : Around → List Code → Prop} {A : Around} {g : List Code} {Q : Value → Shared → Prop}
    (hJ : ∀ s, J s → ∃ o n items, s.heap.get? a = some o ∧ o.cls = .type "tuple" ∧ o.data = .seq items n ∧ ReprAllJ prog w J E ok items.toList ts) (hjt : ∀ s tk, J s → J { s with toks := tk }) (up : OkUp J a ok' ok)
    (hg : A.guards = some g) (hok : ok' A g) (hj : J s) (hQ : ∀ s' u, J s' → Q (.str (tupleText ts) u) s') (hsz : (tupleText ts).length ≤ sizeLine) : wpAny (model prog w) A (call (.builtin "tuple.__repr__") [.ref a]) Q E s := by
  obtain ⟨o, n, items, ha, hc, hd, hT⟩ := hJ s hj
  obtain ⟨hu, hca, hup⟩ := up A g s hok hj
  exact wpAny_call (codeAny_call_builtin_own (Code.quiet_builtin _ (by decide +kernel)) F.entry_tuple_repr (F.slot_tuple_repr.check _ _ _ _ _ _ _ _ ⟨o, ha, hc⟩ (F.args_tuple_repr_1 _)
    (wpOwn_tuple_reprAtJ (base := 0) (R := callEnd Q E) ha hd hT (isGuard_tuple_repr _) (hup _ _ (.inl rfl)) hg hca hj hjt hQ (fun _ _ z => z) (by omega))))
theorem ReprJ.tuple {a : Addr} {ts : List Str} {ok' ok : Around → List Code → Prop}
    (hJ : ∀ s, J s → ∃ o n items, s.heap.get? a = some o ∧ o.cls = .type "tuple" ∧ o.data = .seq items n ∧ ReprAllJ prog w J E ok items.toList ts) (hjt : ∀ s tk, J s → J { s with toks := tk }) (up : OkUp J a ok' ok) : ReprJ prog w J E ok' (.ref a) (tupleText ts) := by
  intro base hb A g s Q hg hok hj hQ
  obtain ⟨o, n, items, ha, hc, hd, hT⟩ := hJ s hj
  obtain ⟨hu, hca, hup⟩ := up A g s hok hj
  refine wpAny_pyReprUnder_ref (by omega) (wpAny_pyReprObjUnder_twin (twin := "tuple.__repr__.under") ⟨o, ha, hc⟩ F.slot_tuple_repr rfl hu ?_)
  exact call_twin_own (F.quiet_tuple_repr_under _) F.entry_tuple_repr_under F.check_tuple_repr_under ⟨o, ha, hc⟩ F.slot_tuple_repr (F.args_tuple_repr_1 _)
    (wpOwn_tuple_reprAtJ (R := callEnd _ E) ha hd hT (isGuard_tuple_repr_under _) (hup _ _ (.inr rfl)) hg hca hj hjt (fun s' u hj' => ⟨⟨_, _, rfl⟩, _, _, rfl, hQ s' hj'⟩) (fun _ _ z => z) hb)
theorem repr_tupleJ {a : Addr} {ts : List Str} {s : Shared} {ok' ok : Around → List Code → Prop} {A : Around} {g : List Code} {Q : Value → Shared → Prop}
    (hJ : ∀ s, J s → ∃ o n items, s.heap.get? a = some o ∧ o.cls = .type "tuple" ∧ o.data = .seq items n ∧ ReprAllJ prog w J E ok items.toList ts) (hjt : ∀ s tk, J s → J { s with toks := tk }) (up : OkUp J a ok' ok)
    (hg : A.guards = some g) (hok : ok' A.in1 g) (hu : A.in1.units < cLine) (hj : J s) (hQ : ∀ s' u, J s' → Q (.str (tupleText ts) u) s') (hsz : (tupleText ts).length ≤ sizeLine) : wpAny (model prog w) A (call (.builtin "repr") [.ref a]) Q E s := by
  obtain ⟨o, n, items, ha, hc, hd, hT⟩ := hJ s hj
  exact call_repr_slot hu ⟨o, ha, hc⟩ F.slot_tuple_repr (call_tuple_reprJ hJ hjt up hg hok hj (fun s' u hj' => ⟨_, _, rfl, hQ s' u hj'⟩) hsz)
end
end G
/-! S14: data with instances of a class within: how deep they stand, that what holds one is not plain. -/
namespace G
open PySem PySem.Spec PySem.Calls L2 PyProof.Rows Builtin.Str
mutual
theorem plain_of {c : Nat} : ∀ {d : D}, nestD c d = true → hasI d = false → plainR d = true
  | .non, _, _ => rfl
  | .bl _, _, _ => rfl
  | .int _, _, _ => rfl
  | .str _, _, _ => rfl
  | .lst _, h, _ => by simpa only [nestD] using h
  | .dct _ _ _, h, _ => by simpa only [nestD] using h
  | .fn _, h, _ => by simpa only [nestD] using h
  | .scr _, h, _ => by simpa only [nestD] using h
  | .exn _, h, _ => by simpa only [nestD] using h
  | .ins _ _, _, h => by simp [hasI] at h
  | .tup ds, h, h' => by
    simp only [nestD] at h
    simp only [hasI] at h'
    simp only [plainR]
    exact plains_of h h'
theorem plains_of {c : Nat} : ∀ {ds : List D}, nestDs c ds = true → hasIs ds = false → plainRs ds = true
  | [], _, _ => rfl
  | d :: ds, h, h' => by
    simp only [nestDs, Bool.and_eq_true] at h
    simp only [hasIs, Bool.or_eq_false_iff] at h'
    simp only [plainRs, Bool.and_eq_true]
    exact ⟨plain_of h.1 h'.1, plains_of h.2 h'.2⟩
end
/-- the class of its object -/
def clsV (L : Lay) : D → Value
  | .tup _ => .type "tuple"
  | .lst _ => .type "list"
  | .dct _ _ _ => .type "dict"
  | .ins c _ => .ref (L.cls c)
  | _ => .none
section
variable {X : Cx} {pins : List (Addr × Obj)} {σ : L2.St} {H : Hp} {s : Shared} {P : PP}
theorem rep_ref (I : Inv X pins σ H s) (hK : X.K = P.L.K) {c : Nat} {a : Addr} : ∀ {d : D}, nestD c d = true → Rep P.L H d (.ref a) → ∃ o, s.heap.get? a = some o ∧ o.cls = clsV P.L d
  | .non, _, h => by cases (show V.ref a = V.non from h)
  | .bl b, _, h => by cases (show V.ref a = V.bl b from h)
  | .int i, _, h => by cases (show V.ref a = V.int i from h)
  | .str x, _, h => by cases (show V.ref a = V.str x from h.1)
  | .fn _, h, _ => by simp [nestD, plainR] at h
  | .scr _, h, _ => by simp [nestD, plainR] at h
  | .exn _, h, _ => by simp [nestD, plainR] at h
  | .tup ds, _, ⟨b, vs, e, h, _⟩ => by
    cases e
    obtain ⟨its, rv, ⟨o, e1, e2, n, e3⟩, _⟩ := I.tuple (by rw [hK]; exact h)
    exact ⟨o, e1, e2⟩
  | .lst ds, _, ⟨b, vs, e, h, _⟩ => by
    cases e
    obtain ⟨z, its, n, rv, hl, e⟩ := I.lstM h
    exact ⟨_, e, rfl⟩
  | .dct w ks ds, p, ⟨b, ws, e, h, _⟩ => by
    cases e
    have p' : w = false ∧ ks.length = ds.length ∧ plainRs ds = true := by simpa [nestD, plainR] using p
    obtain ⟨rfl, _, _⟩ := p'
    rcases h.2 with ⟨_, hd⟩ | ⟨z, _⟩
    · obtain ⟨hz, hs, kvs, rel, o, es, ep, e1, e2, _⟩ := dk_of I.hok hd
      exact ⟨o, e1, e2.1⟩
    · cases z
  | .ins c' ds, _, ⟨b, dx, fvs, vs, e, h, _⟩ => by
    cases e
    obtain ⟨mA, J, _⟩ := ins_get I.hok h
    exact ⟨_, J.obj, rfl⟩
/-- what is no container has no instance -/
theorem atom_of {c : Nat} {F : Hp} {v : V} (hv : ∀ a, v ≠ .ref a) : ∀ {d : D}, nestD c d = true → Rep P.L F d v → hasI d = false ∧ lev d = 0
  | .non, _, _ => ⟨rfl, rfl⟩
  | .bl _, _, _ => ⟨rfl, rfl⟩
  | .int _, _, _ => ⟨rfl, rfl⟩
  | .str _, _, _ => ⟨rfl, rfl⟩
  | .lst _, _, _ => ⟨rfl, rfl⟩
  | .dct _ _ _, _, _ => ⟨rfl, rfl⟩
  | .fn _, _, _ => ⟨rfl, rfl⟩
  | .scr _, _, _ => ⟨rfl, rfl⟩
  | .exn _, _, _ => ⟨rfl, rfl⟩
  | .tup _, _, ⟨a, _, e, _⟩ => absurd e (hv a)
  | .ins _ _, _, ⟨a, _, _, _, e, _⟩ => absurd e (hv a)
theorem lev_leaf (I : Inv X pins σ H s) (hK : X.K = P.L.K) {c : Nat} {d d' : D} {v : V} (ht : ∀ ds, d ≠ .tup ds) (p : nestD c d = true) (p' : nestD c d' = true) (h : Rep P.L H d v) (h' : Rep P.L H d' v) : hasI d = hasI d' ∧ lev d = lev d' := by
  by_cases hv : ∃ a, v = .ref a
  · obtain ⟨a, rfl⟩ := hv
    obtain ⟨o, e1, e2⟩ := rep_ref I hK p h
    obtain ⟨o', e1', e2'⟩ := rep_ref I hK p' h'
    rw [e1] at e1'
    cases e1'
    rw [e2] at e2'
    cases d <;> cases d' <;> first
      | exact ⟨rfl, rfl⟩
      | exact absurd rfl (ht _)
      | exact absurd e2' (by simp [clsV])
  · have hv' : ∀ a, v ≠ .ref a := fun a e => hv ⟨a, e⟩
    obtain ⟨a1, a2⟩ := atom_of hv' p h
    obtain ⟨b1, b2⟩ := atom_of hv' p' h'
    exact ⟨a1.trans b1.symm, a2.trans b2.symm⟩
mutual
theorem lev_uni (I : Inv X pins σ H s) (hK : X.K = P.L.K) {c : Nat} : ∀ (d d' : D) {v : V}, nestD c d = true → nestD c d' = true → Rep P.L H d v → Rep P.L H d' v → hasI d = hasI d' ∧ lev d = lev d'
  | .tup ds, d', v, p, p', ⟨a, vs, e, h, r⟩, h' => by
    subst e
    obtain ⟨o, e1, e2⟩ := rep_ref I hK p ⟨a, vs, rfl, h, r⟩
    obtain ⟨o', e1', e2'⟩ := rep_ref I hK p' h'
    rw [e1] at e1'
    cases e1'
    rw [e2] at e2'
    cases d' with
    | tup ds' =>
      obtain ⟨b, vs', e, k, r'⟩ := h'
      cases e
      obtain rfl := I.tuple_inj (by rw [hK]; exact h) (by rw [hK]; exact k)
      have q := levs_uni I hK ds ds' (by simpa only [nestD] using p) (by simpa only [nestD] using p') r r'
      simp only [hasI, lev]
      rw [q.1, q.2]
      exact ⟨rfl, rfl⟩
    | _ => exact absurd e2' (by simp [clsV])
  | .non, _, _, p, p', h, h' => lev_leaf I hK (by simp) p p' h h'
  | .bl _, _, _, p, p', h, h' => lev_leaf I hK (by simp) p p' h h'
  | .int _, _, _, p, p', h, h' => lev_leaf I hK (by simp) p p' h h'
  | .str _, _, _, p, p', h, h' => lev_leaf I hK (by simp) p p' h h'
  | .lst _, _, _, p, p', h, h' => lev_leaf I hK (by simp) p p' h h'
  | .dct _ _ _, _, _, p, p', h, h' => lev_leaf I hK (by simp) p p' h h'
  | .ins _ _, _, _, p, p', h, h' => lev_leaf I hK (by simp) p p' h h'
  | .fn _, _, _, p, p', h, h' => lev_leaf I hK (by simp) p p' h h'
  | .scr _, _, _, p, p', h, h' => lev_leaf I hK (by simp) p p' h h'
  | .exn _, _, _, p, p', h, h' => lev_leaf I hK (by simp) p p' h h'
theorem levs_uni (I : Inv X pins σ H s) (hK : X.K = P.L.K) {c : Nat} : ∀ (ds ds' : List D) {vs : List V}, nestDs c ds = true → nestDs c ds' = true → Reps P.L H ds vs → Reps P.L H ds' vs → hasIs ds = hasIs ds' ∧ levs ds = levs ds'
  | [], [], _, _, _, _, _ => ⟨rfl, rfl⟩
  | [], _ :: _, vs, _, _, h, ⟨_, _, e, _⟩ => by rw [show vs = [] from h] at e; cases e
  | _ :: _, [], vs, _, _, ⟨_, _, e, _⟩, h => by rw [show vs = [] from h] at e; cases e
  | d :: ds, d' :: ds', vs, p, p', ⟨v, r, e, h1, h2⟩, ⟨v', r', e', h1', h2'⟩ => by
    subst e
    cases e'
    simp only [nestDs, Bool.and_eq_true] at p p'
    have a := lev_uni I hK d d' p.1 p'.1 h1 h1'
    have b := levs_uni I hK ds ds' p.2 p'.2 h2 h2'
    simp only [hasIs, levs]
    rw [a.1, a.2, b.1, b.2]
    exact ⟨rfl, rfl⟩
end
mutual
/-- what holds an instance is no plain data -/
theorem no_reads (I : Inv X pins σ H s) (hK : X.K = P.L.K) {c : Nat} : ∀ (d : D) {v : V} {u : Value}, nestD c d = true → hasI d = true → Rep P.L H d v → RelV v u → ∀ q as, ¬ Reads s.heap u q as
  | .tup ds, v, u, p, hi, ⟨a, vs, e, h, r⟩, rv, q, as, rd => by
    subst e
    cases rv
    obtain ⟨its, rvs, ⟨o, e1, e2, n, e3⟩, _⟩ := I.tuple (by rw [hK]; exact h)
    cases rd with
    | list h1 h2 h3 h4 => rw [e1] at h1; cases h1; rw [e2] at h2; simp at h2
    | tuple h1 h2 h3 h4 =>
      rw [e1] at h1
      cases h1
      rw [e3] at h3
      injection h3 with h5 h6
      subst h5
      exact nos_reads I hK ds (by simpa only [nestD] using p) (by simpa only [hasI] using hi) r rvs _ _ (by simpa using h4)
    | dict h1 h2 h3 h4 h5 => rw [e1] at h1; cases h1; rw [e2] at h2; simp at h2
  | .ins c' fs, v, u, p, _, ⟨a, dx, fvs, vs, e, h, _⟩, rv, q, as, rd => by
    subst e
    cases rv
    obtain ⟨mA, J, _⟩ := ins_get I.hok h
    have e1 := J.obj
    cases rd with
    | list h1 h2 h3 h4 => rw [e1] at h1; cases h1; cases h2
    | tuple h1 h2 h3 h4 => rw [e1] at h1; cases h1; cases h2
    | dict h1 h2 h3 h4 h5 => rw [e1] at h1; cases h1; cases h2
  | .non, _, _, _, hi, _, _, _, _, _ => by simp [hasI] at hi
  | .bl _, _, _, _, hi, _, _, _, _, _ => by simp [hasI] at hi
  | .int _, _, _, _, hi, _, _, _, _, _ => by simp [hasI] at hi
  | .str _, _, _, _, hi, _, _, _, _, _ => by simp [hasI] at hi
  | .lst _, _, _, _, hi, _, _, _, _, _ => by simp [hasI] at hi
  | .dct _ _ _, _, _, _, hi, _, _, _, _, _ => by simp [hasI] at hi
  | .fn _, _, _, _, hi, _, _, _, _, _ => by simp [hasI] at hi
  | .scr _, _, _, _, hi, _, _, _, _, _ => by simp [hasI] at hi
  | .exn _, _, _, _, hi, _, _, _, _, _ => by simp [hasI] at hi
theorem nos_reads (I : Inv X pins σ H s) (hK : X.K = P.L.K) {c : Nat} : ∀ (ds : List D) {vs : List V} {us : List Value}, nestDs c ds = true → hasIs ds = true → Reps P.L H ds vs → Vals vs us → ∀ qs as, ¬ ReadsAll s.heap us qs as
  | [], _, _, _, hi, _, _, _, _, _ => by simp [hasIs] at hi
  | d :: ds, vs, us, p, hi, ⟨v, r, e, h1, h2⟩, rv, qs, as, rd => by
    subst e
    simp only [nestDs, Bool.and_eq_true] at p
    cases rv with
    | cons r1 r2 =>
      cases rd with
      | cons q1 q2 =>
        simp only [hasIs, Bool.or_eq_true] at hi
        rcases hi with hi | hi
        · exact no_reads I hK d p.1 hi h1 r1 _ _ q1
        · exact nos_reads I hK ds p.2 hi h2 r2 _ _ q2
end
end
end G
/-! S15: the parts' reprs: plain data, an instance, a tuple of both; the whole. -/
namespace G
open PySem PySem.Spec PySem.Calls L2 PyProof.Rows Builtin.Str
theorem under_depth {A : Around} {id : String} {args : Args} (h : id = "tuple.__repr__" ∨ id = "tuple.__repr__.under") : (A.under (.builtin id args)).depth ≤ A.depth + 1 := by
  rcases h with rfl | rfl
  · first | exact Nat.le_refl _ | exact Nat.le_succ _ | simp [Around.under, Code.weight, Code.isCreation, Code.isGuard, Code.isCaller, Code.frames, Code.isFrame, guardIds]
  · first | exact Nat.le_refl _ | exact Nat.le_succ _ | simp [Around.under, Code.weight, Code.isCreation, Code.isGuard, Code.isCaller, Code.frames, Code.isFrame, guardIds]
theorem under_units {A : Around} {id : String} {args : Args} (h : id = "tuple.__repr__" ∨ id = "tuple.__repr__.under") : (A.under (.builtin id args)).units = A.units + 1 := by
  rcases h with rfl | rfl
  · exact units_under_tuple_repr _ _
  · exact units_under_tuple_repr_under _ _
theorem under_frames {A : Around} {id : String} {args : Args} (h : id = "tuple.__repr__" ∨ id = "tuple.__repr__.under") : (A.under (.builtin id args)).frames = A.frames := by
  rcases h with rfl | rfl
  · first | rfl | simp [Around.under, Code.envs, Code.isFrame, pushEnvs]
  · first | rfl | simp [Around.under, Code.envs, Code.isFrame, pushEnvs]
section
variable {prog : Program} {w : World} {J : Shared → Prop} {E : Value → Shared → Prop} {ok : Around → List Code → Prop}
theorem ReprJ.plain {x : Value} {p : PyData} (hr : ∀ s, J s → ∃ as, Reads s.heap x p as ∧ sysModules ∉ as) (hs : p.showable = true) (hu : ∀ A g, ok A g → A.units + p.depth < cLine)
    (hcl : ∀ A g s, ok A g → J s → ∀ b q as, Reads s.heap (.ref b) q as → Clear g b) (hjk : ∀ s h' tk, J s → (∀ b o, s.heap.get? b = some o → h'.get? b = some o) → J { s with heap := h', toks := tk }) : ReprJ prog w J E ok x p.shown := by
  intro base hb A g s Q hg hok hj hQ
  obtain ⟨as, rd, ns⟩ := hr s hj
  obtain ⟨bs, hbs, k⟩ := ReprK.of_reads (prog := prog) (w := w) rd hs (fun _ => ns) (by omega)
  exact k base hb A g E s Q hg (fun b hm => let ⟨q, as, r, _⟩ := hbs b hm; hcl A g s hok hj b q as r) (hu A g hok) (fun _ _ e => e) fun h' tk kp => hQ _ (hjk _ _ _ hj kp)
theorem ReprJ.inst {K : PySem.W.Frag} {C f q : Addr} {t : Str} (hs : PySem.W.findIn K (.ref C) "__repr__" = some (some (.ref f))) (hf : PySem.W.isFn K (.ref f) = true) (hI : ∀ s, J s → K.In s.heap ∧ ∃ ox od, PySem.W.InstAt s.heap q ox C od) (hu : ∀ A g, ok A g → A.units < cLine)
    (hc : ∀ A g s, A.guards = some g → ok A g → J s → wpAny (model prog w) A (call (.ref f) [.ref q]) (StB fun m s' => m = t ∧ J s') E s) : ReprJ prog w J E ok (.ref q) t := by
  intro base hb A g s Q hg hok hj hQ
  obtain ⟨hk, ox, od, hi⟩ := hI s hj
  refine own_reprUnder (by omega) (hu A g hok) hk hi hs hf (wpAny_mono (hc A g s hg hok hj) (fun v s' z => ?_) fun _ _ z => z)
  obtain ⟨m, t', rfl, rfl, hj'⟩ := z
  exact ⟨_, _, rfl, hQ s' hj'⟩
theorem ReprJ.weaken {ok' : Around → List Code → Prop} {x : Value} {t : Str} (h : ReprJ prog w J E ok x t) (hw : ∀ A g, ok' A g → ok A g) : ReprJ prog w J E ok' x t :=
  fun base hb A g s Q hg hok hj hQ => h base hb A g s Q hg (hw A g hok) hj hQ
end
/-- room for k tuples and a call, the guards of tuples that hold more -/
structure OkN (X : Cx) (P : PP) (F : Hp) (c n k : Nat) (A : Around) (g : List Code) : Prop where
  hd : A.handled = none
  dp : A.depth + k + 3 * n + 5 < recursionLimit
  un : A.units + k + 16 * n + 200 < cLine
  fr : A.frames = some X.stack
  gs : ∀ id v rest kw, Code.builtin id ⟨v :: rest, kw⟩ ∈ g → ∃ b d0, v = .ref b ∧ nestD c d0 = true ∧ hasI d0 = true ∧ Rep P.L F d0 (.ref b) ∧ k < lev d0
theorem OkN.down {X : Cx} {P : PP} {F : Hp} {c n j k : Nat} {A : Around} {g : List Code} (h : OkN X P F c n k A g) (hj : j ≤ k) : OkN X P F c n j A g :=
  ⟨h.hd, by have := h.dp; omega, by have := h.un; omega, h.fr, fun id v rest kw hm => let ⟨b, d0, e, h1, h2, h3, h4⟩ := h.gs id v rest kw hm; ⟨b, d0, e, h1, h2, h3, by omega⟩⟩
section
variable {X : Cx} {pins : List (Addr × Obj)} {σ : L2.St} {P : PP} {F : Hp} {c n f : Nat} {T : D → Str} {J : Shared → Prop} {E : Value → Shared → Prop}
theorem lev_has : ∀ {d : D}, hasI d = false → lev d = 0
  | .tup ds, h => by
    simp only [hasI] at h
    simp [lev, h]
  | .non, _ => rfl
  | .bl _, _ => rfl
  | .int _, _ => rfl
  | .str _, _ => rfl
  | .lst _, _ => rfl
  | .dct _ _ _, _ => rfl
  | .ins _ _, _ => rfl
  | .fn _, _ => rfl
  | .scr _, _ => rfl
  | .exn _, _ => rfl
theorem up_of (hK : X.K = P.L.K) (hJ : ∀ s, J s → ∃ H', Inv X pins σ H' s ∧ LeH F H') {ds : List D} {a : Addr} {k : Nat} (p : nestD c (.tup ds) = true) (hi : hasIs ds = true) (hk : levs ds = k) (h : Rep P.L F (.tup ds) (.ref a)) : OkUp J a (OkN X P F c n (k + 1)) (OkN X P F c n k) := by
  intro A g s hok hj
  obtain ⟨H', I, m⟩ := hJ s hj
  refine ⟨by have := hok.un; omega, ?_, fun id rest hid => ⟨hok.hd, ?_, ?_, ?_, ?_⟩⟩
  · intro id v rest kw hm e
    obtain ⟨b, d0, e', h1, h2, h3, h4⟩ := hok.gs id v rest kw hm
    rw [e'] at e
    cases e
    have u := (lev_uni I hK d0 (.tup ds) h1 p (Rep.mono m _ _ h3) (Rep.mono m _ _ h)).2
    simp only [lev, hi, if_true] at u
    omega
  · have := under_depth (A := A) (args := ⟨.ref a :: rest, []⟩) hid
    have := hok.dp
    omega
  · rw [under_units hid]
    have := hok.un
    omega
  · rw [under_frames hid]
    exact hok.fr
  · intro id' v rest' kw hm
    rcases List.mem_cons.mp hm with e | hm
    · injection e with e1 e2
      injection e2 with e3 e4
      injection e3 with e5 e6
      subst e5
      exact ⟨a, .tup ds, rfl, p, by simpa only [hasI] using hi, h, by simp only [lev, hi, if_true]; omega⟩
    · obtain ⟨b, d0, e, h1, h2, h3, h4⟩ := hok.gs id' v rest' kw hm
      exact ⟨b, d0, e, h1, h2, h3, by omega⟩
theorem show_plain : ∀ {d : D}, hasI d = false → showN T d = (toPy d).shown
  | .tup ds, h => by
    simp only [hasI] at h
    simp only [showN, h]
    rfl
  | .non, _ => rfl
  | .bl _, _ => rfl
  | .int _, _ => rfl
  | .str _, _ => rfl
  | .lst _, _ => rfl
  | .dct _ _ _, _ => rfl
  | .ins _ _, h => by simp [hasI] at h
  | .fn _, _ => rfl
  | .scr _, _ => rfl
  | .exn _, _ => rfl
theorem nestS_plain : ∀ {d : D}, hasI d = false → nestS d = true → (toPy d).showable = true ∧ (toPy d).depth ≤ 60
  | .tup ds, h, p => by
    simp only [hasI] at h
    simp only [nestS, h] at p
    simpa using p
  | .non, _, p => by simpa [nestS] using p
  | .bl _, _, p => by simpa [nestS] using p
  | .int _, _, p => by simpa [nestS] using p
  | .str _, _, p => by simpa [nestS] using p
  | .lst _, _, p => by simpa [nestS] using p
  | .dct _ _ _, _, p => by simpa [nestS] using p
  | .ins _ _, h, _ => by simp [hasI] at h
  | .fn _, _, p => by simpa [nestS] using p
  | .scr _, _, p => by simpa [nestS] using p
  | .exn _, _, p => by simpa [nestS] using p
/-- an instance's own repr may be called -/
def CallI (X : Cx) (P : PP) (F : Hp) (c n f : Nat) (T : D → Str) (J : Shared → Prop) (E : Value → Shared → Prop) (x : D) : Prop :=
  ∀ q, Rep P.L F x (.ref q) → ∀ A g s, A.guards = some g → OkN X P F c n 0 A g → J s → wpAny (model X.prog X.w) A (call (.ref (P.L.fn f)) [.ref q]) (StB fun m s' => m = T x ∧ J s') E s
theorem plain_in (hK : X.K = P.L.K) (hsm : ∃ o, X.base.get? sysModules = some o) (hJ : ∀ s, J s → ∃ H', Inv X pins σ H' s ∧ LeH F H') (hjk : ∀ s h' tk, J s → (∀ b o, s.heap.get? b = some o → h'.get? b = some o) → J { s with heap := h', toks := tk })
    {d : D} {v : V} {u : Value} {k : Nat} (p : nestD c d = true) (ps : nestS d = true) (hi : hasI d = false) (h : Rep P.L F d v) (r : RelV v u) : ReprJ X.prog X.w J E (OkN X P F c n k) u (showN T d) := by
  rw [show_plain hi]
  obtain ⟨s1, s2⟩ := nestS_plain hi ps
  refine ReprJ.plain (fun s hj => ?_) s1 (fun A g hok => by have := hok.un; omega) (fun A g s hok hj b q as rd => ?_) hjk
  · obtain ⟨H', I, m⟩ := hJ s hj
    exact rep_reads I hK hsm d v u (plain_of p hi) (Rep.mono m _ _ h) r
  · obtain ⟨H', I, m⟩ := hJ s hj
    intro id v' rest kw hm e
    obtain ⟨b', d0, e', h1, h2, h3, h4⟩ := hok.gs id v' rest kw hm
    rw [e'] at e
    cases e
    exact no_reads I hK d0 h1 h2 (Rep.mono m _ _ h3) (show RelV (.ref b) (.ref b) from rfl) _ _ rd
mutual
theorem repr_in (hK : X.K = P.L.K) (hsm : ∃ o, X.base.get? sysModules = some o) (O : SpcB X.K (P.L.cls c) (P.L.fn f) .repr) (hJ : ∀ s, J s → ∃ H', Inv X pins σ H' s ∧ LeH F H') (hjk : ∀ s h' tk, J s → (∀ b o, s.heap.get? b = some o → h'.get? b = some o) → J { s with heap := h', toks := tk }) :
    ∀ (d : D) {v : V} {u : Value}, nestD c d = true → nestS d = true → Rep P.L F d v → RelV v u → (∀ x ∈ insts d, CallI X P F c n f T J E x) → ReprJ X.prog X.w J E (OkN X P F c n (lev d)) u (showN T d)
  | .tup ds, v, u, p, ps, h, r, hc => by
    by_cases hi : hasIs ds = true
    · obtain ⟨a, vs, e, h0, rp⟩ := id h
      subst e
      cases r
      simp only [showN, hi, if_true, lev]
      refine ReprJ.tuple (ok := OkN X P F c n (levs ds)) (fun s hj => ?_) (fun s tk hj => hjk s s.heap tk hj fun _ _ e => e) (up_of hK hJ p hi rfl h)
      obtain ⟨H', I, m⟩ := hJ s hj
      obtain ⟨its, rv, ⟨o, e1, e2, n', e3⟩, _⟩ := I.tuple (by rw [hK]; exact sqT_mono m h0)
      refine ⟨o, n', its.toArray, e1, e2, e3, ?_⟩
      exact reprs_in hK hsm O hJ hjk ds (by simpa only [nestD] using p) (by simpa [nestS, hi] using ps) rp rv (by simpa only [insts] using hc) (Nat.le_refl _)
    · exact plain_in hK hsm hJ hjk p ps (by simpa only [hasI, Bool.not_eq_true] using hi) h r
  | .ins c' fs, v, u, p, ps, h, r, hc => by
    obtain ⟨a, dx, fvs, vs, e, h0, _⟩ := id h
    subst e
    cases r
    have ec : c' = c := by simpa [nestD] using p
    subst ec
    refine ReprJ.inst O.at_ O.fn (fun s hj => ?_) (fun A g hok => by have := hok.un; omega) (fun A g s hg hok hj => hc _ (by simp [insts]) a h A g s hg (hok.down (Nat.zero_le _)) hj)
    obtain ⟨H', I, m⟩ := hJ s hj
    obtain ⟨mA, J1, _⟩ := ins_get I.hok (m _ _ h0)
    obtain ⟨od, J2, _⟩ := J1.look
    exact ⟨I.kIn, _, od, J2⟩
  | .non, _, _, p, ps, h, r, _ => plain_in hK hsm hJ hjk p ps rfl h r
  | .bl _, _, _, p, ps, h, r, _ => plain_in hK hsm hJ hjk p ps rfl h r
  | .int _, _, _, p, ps, h, r, _ => plain_in hK hsm hJ hjk p ps rfl h r
  | .str _, _, _, p, ps, h, r, _ => plain_in hK hsm hJ hjk p ps rfl h r
  | .lst _, _, _, p, ps, h, r, _ => plain_in hK hsm hJ hjk p ps rfl h r
  | .dct _ _ _, _, _, p, ps, h, r, _ => plain_in hK hsm hJ hjk p ps rfl h r
  | .fn _, _, _, p, _, _, _, _ => by simp [nestD, plainR] at p
  | .scr _, _, _, p, _, _, _, _ => by simp [nestD, plainR] at p
  | .exn _, _, _, p, _, _, _, _ => by simp [nestD, plainR] at p
theorem reprs_in (hK : X.K = P.L.K) (hsm : ∃ o, X.base.get? sysModules = some o) (O : SpcB X.K (P.L.cls c) (P.L.fn f) .repr) (hJ : ∀ s, J s → ∃ H', Inv X pins σ H' s ∧ LeH F H') (hjk : ∀ s h' tk, J s → (∀ b o, s.heap.get? b = some o → h'.get? b = some o) → J { s with heap := h', toks := tk }) :
    ∀ (ds : List D) {vs : List V} {us : List Value} {k : Nat}, nestDs c ds = true → nestSs ds = true → Reps P.L F ds vs → Vals vs us → (∀ x ∈ instss ds, CallI X P F c n f T J E x) → levs ds ≤ k → ReprAllJ X.prog X.w J E (OkN X P F c n k) us (showNs T ds)
  | [], vs, us, k, _, _, h, r, _, _ => by
    rw [show vs = [] from h] at r
    cases r
    exact .nil
  | d :: ds, vs, us, k, p, ps, ⟨v, vr, e, h1, h2⟩, r, hc, hk => by
    subst e
    simp only [nestDs, Bool.and_eq_true] at p
    simp only [nestSs, Bool.and_eq_true] at ps
    simp only [levs] at hk
    cases r with
    | cons r1 r2 =>
      refine .cons ((repr_in hK hsm O hJ hjk d p.1 ps.1 h1 r1 fun x hx => hc x (by simp only [instss]; exact List.mem_append_left _ hx)).weaken fun A g hok => hok.down (by omega)) (reprs_in hK hsm O hJ hjk ds p.2 ps.2 h2 r2 (fun x hx => hc x (by simp only [instss]; exact List.mem_append_right _ hx)) (by omega))
end
/-- repr of a tuple with instances within -/
theorem call_reprN (hK : X.K = P.L.K) (hsm : ∃ o, X.base.get? sysModules = some o) (O : SpcB X.K (P.L.cls c) (P.L.fn f) .repr) (hJ : ∀ s, J s → ∃ H', Inv X pins σ H' s ∧ LeH F H') (hjk : ∀ s h' tk, J s → (∀ b o, s.heap.get? b = some o → h'.get? b = some o) → J { s with heap := h', toks := tk })
    {ds : List D} {v : V} {u : Value} {A : Around} {s : Shared} {Q : Value → Shared → Prop} (p : nestD c (.tup ds) = true) (ps : nestS (.tup ds) = true) (hi : hasIs ds = true) (h : Rep P.L F (.tup ds) v) (r : RelV v u) (hc : ∀ x ∈ insts (.tup ds), CallI X P F c n f T J E x)
    (hg : A.guards = some []) (hk : lev (.tup ds) ≤ 2) (hr : Room (n + 1) A) (hfr : A.frames = some X.stack) (hj : J s) (hsz : (showN T (.tup ds)).length ≤ sizeLine) (hQ : ∀ s' t, J s' → Q (.str (showN T (.tup ds)) t) s') :
    wpAny (model X.prog X.w) A (call (.builtin "repr") [u]) Q E s := by
  obtain ⟨a, vs, e, h0, rp⟩ := id h
  subst e
  cases r
  simp only [showN, hi, if_true] at hsz hQ
  have hlev : levs ds + 1 ≤ 2 := by simpa only [lev, hi, if_true] using hk
  refine repr_tupleJ (ok := OkN X P F c n (levs ds)) (ok' := OkN X P F c n (levs ds + 1)) (fun s hj => ?_) (fun s tk hj => hjk s s.heap tk hj fun _ _ e => e) (up_of hK hJ p hi rfl h) hg ⟨hr.hd, ?_, ?_, hfr, fun id v rest kw hm => nomatch hm⟩ ?_ hj hQ hsz
  · obtain ⟨H', I, m⟩ := hJ s hj
    obtain ⟨its, rv, ⟨o, e1, e2, n', e3⟩, _⟩ := I.tuple (by rw [hK]; exact sqT_mono m h0)
    refine ⟨o, n', its.toArray, e1, e2, e3, ?_⟩
    exact reprs_in hK hsm O hJ hjk ds (by simpa only [nestD] using p) (by simpa [nestS, hi] using ps) rp rv (by simpa only [insts] using hc) (Nat.le_refl _)
  · have := hr.dp
    show A.depth + (levs ds + 1) + 3 * n + 5 < _
    omega
  · have := hr.un
    show A.units + 1 + (levs ds + 1) + 16 * n + 200 < _
    omega
  · have := hr.un
    show A.units + 1 < _
    omega
end
end G
/-! S16: repr(x), x a tuple with instances of a class within. -/
namespace G
open PySem PySem.Spec PySem.Calls L2 PyProof.Rows Builtin.Str
section
variable {X : Cx} {P : PP} {Γ : Fns} {Xp : XP} {a : E} {x : Expr} {n c f : Nat} {fd : FuncData} {ps : List Str} {p pos : Pos}
theorem nst_core {pins : List (Addr × Obj)} {σ : L2.St} {H : Hp} {s : Shared} {env : Env} {F : Hp} {v1 : V} {u1 : Value} {o : Op} {R : RV → Prop} {Q : VK}
    (hK : X.K = P.L.K) (hsm : ∃ o, X.base.get? sysModules = some o) (Dk : DefOkG (fun g => ∃ l, g = some l) X.prog X.w X.K X.mg X.base n (P.L.fn f) fd ps (lift P.L (Γ.f f))) (hb : BindOk X.K fd ps 1 [] [.inl 0]) (O : SpcB X.K (P.L.cls c) (P.L.fn f) .repr)
    (hg : X.A.guards = some []) (hr : Room (n + 1) X.A) (tk : Takes X (WXo P Xp))
    (I : Inv X pins σ H s) (ex : EX P σ H env F) (r1 : RelV v1 u1) (p1 : OpR P F σ v1 o) (w : nstW Γ c f Xp (res env o) R env) (kk : ∀ r v H' F', R r → LeH F F' → EXv P σ H' env F' v r → Q v H') :
    wpAny (model X.prog X.w) X.A (call (.builtin "repr") [u1]) (EP X pins σ Q) X.xe s := by
  rcases w with ⟨d, e1, ⟨q1, q2, q3, q4⟩, hR⟩ | ⟨ds, T, e1, ⟨q1, q2, q3, q4, q5⟩, hf, hR⟩
  · obtain ⟨A, e⟩ := id ex
    exact call_reprD hK hsm hg (by have := hr.un; omega) pins s σ H [v1] [u1] Q I (.cons r1 .nil) ⟨v1, d, rfl, q1, (e.res p1 e1).now e.sub, q2, q3, q4, kk _ _ H F hR (LeH.refl F) ⟨A, e, rfl, q4⟩⟩
  have h : Rep P.L F (.tup ds) v1 := by
    obtain ⟨A, e⟩ := id ex
    rcases e.res p1 e1 with t | ⟨b, o', _, z, _⟩
    · exact t
    · cases o' <;> cases z
  let J : Shared → Prop := fun s' => ∃ H' F', Inv X pins σ H' s' ∧ EX P σ H' env F' ∧ LeH F F'
  have hJ : ∀ s', J s' → ∃ H', Inv X pins σ H' s' ∧ LeH F H' := fun s' ⟨H', F', I', e', m⟩ => ⟨H', I', m.trans e'.sub⟩
  have hjk : ∀ s' h' tk, J s' → (∀ b o, s'.heap.get? b = some o → h'.get? b = some o) → J { s' with heap := h', toks := tk } := fun s' h' tk ⟨H', F', I', e', m⟩ kp => ⟨H', F', I'.kept kp, e', m⟩
  have hc : ∀ y ∈ insts (.tup ds), CallI X P F c n f T J X.xe y := by
    intro y hy q hq A g s' hg' hok ⟨H', F', I', e', m⟩
    have e0 : Env0 X.prog X.w X.K X.mg X.base A X.stack s' H' := ⟨hok.fr, I'.env0.mod, I'.env0.bs, I'.env0.bsz, I'.env0.funs, I'.env0.frf, I'.env0.hok, I'.env0.bare⟩
    have hroom : Room n A := ⟨hok.hd, by have := hok.dp; omega, by have := hok.un; omega⟩
    have hl : lent env [.d y] [.inl 0] = [] := by simp [lent]
    refine wpAny_mono (call_coreA (A := A) (us := [.ref q]) (ws := []) (kws := []) (os := [.d y]) (R := fun r env' => r = .val (.str (T y)) ∧ env' = env) (Q := fun v H2 => v = .str (T y) ∧ ∃ F2, EX P σ H2 env F2 ∧ LeH F F2) Dk ⟨g, hg'⟩ hroom e0 tk hb I' e' (vs := [.ref q]) (.cons (show RelV (.ref q) (.ref q) from rfl) .nil) rfl rfl (.cons (Rep.mono m _ _ hq) .nil)
      ⟨[.val y], rfl, by rw [hl]; exact List.nodup_nil, ?_⟩ fun r env' v H2 F2 hR m2 ev => ?_) (fun u s2 z => ?_) fun _ _ z => z
    · rw [hl]
      have bk : ∀ os : List OV, back env [] os = env := fun os => by cases os <;> rfl
      simp only [bk]
      have := hf y hy
      simpa using this
    · obtain ⟨rfl, rfl⟩ := hR
      obtain ⟨A2, ee, z⟩ := ev
      exact ⟨z.1, F2, ⟨A2, ee⟩, m.trans m2⟩
    · obtain ⟨v, H2, I2, rz, ⟨rfl, F2, ee, m3⟩⟩ := z
      obtain ⟨t, rfl⟩ := rz
      exact ⟨_, t, rfl, rfl, H2, F2, I2, ee, m3⟩
  refine call_reprN (pins := pins) (σ := σ) hK hsm O hJ hjk q1 q2 q3 h r1 hc hg q4 hr I.ok.frames ⟨H, F, I, ex, LeH.refl F⟩ q5 fun s' t ⟨H', F', I', e', m⟩ => ⟨.str _, H', I', ⟨t, rfl⟩, kk _ _ H' F' hR m ?_⟩
  obtain ⟨A', e2⟩ := e'
  exact ⟨A', e2, rfl, q5⟩
theorem e_nst (hK : X.K = P.L.K) (hsm : ∃ o, X.base.get? sysModules = some o) (Dk : DefOkG (fun g => ∃ l, g = some l) X.prog X.w X.K X.mg X.base n (P.L.fn f) fd ps (lift P.L (Γ.f f))) (hb : BindOk X.K fd ps 1 [] [.inl 0]) (O : SpcB X.K (P.L.cls c) (P.L.fn f) .repr)
    (hg : X.A.guards = some []) (hr : Room (n + 1) X.A) (tk : Takes X (WXo P Xp)) (hgl : Gl X "repr") (hm : X.mg "repr" = none) (ha : PE X x (tO P Γ Xp a)) (hs : starEach [x] X.env = [(false, eval x X.env)]) :
    PE X (.Call (.Name "repr" p) [x] [] pos) (tE P Γ Xp (.hot (.nst c f) a)) := ⟨fun pins s σ H Q I h => by
  obtain ⟨env, F, R, ex, w, kk⟩ := h
  simp only [wE] at w
  have pa : PA X [x] (tOs P Γ Xp [a]) := os_cons ha os_nil hs
  have run : wpAny (model X.prog X.w) X.A (spliced (backTo pos (starEach [x] X.env))) (fun us s1 => wpAny (model X.prog X.w) X.A (call (.builtin "repr") us) (EP X pins σ Q) X.xe s1) X.xe s := by
    refine thn (pa.run pos pins s σ H (fun vs H1 => ∀ us s1, Inv X pins σ H1 s1 → Vals vs us → wpAny (model X.prog X.w) X.A (call (.builtin "repr") us) (EP X pins σ Q) X.xe s1) I ⟨env, F, fun os env1 => match os with | [o] => nstW Γ c f Xp (res env1 o) (fun r => R r env1) env1 | _ => False, ex, by simp only [wOs]; exact w, fun os env' vs H' F' q m e p l us s1 I1 rv => ?_⟩) fun us s1 ⟨vs, H1, I1, rv, q⟩ => q us s1 I1 rv
    match os, q with
    | [o], q =>
      cases p with
      | cons p1 t =>
        cases t
        cases rv with
        | cons r1 t =>
          cases t
          exact nst_core hK hsm Dk hb O hg hr tk I1 e r1 p1 q fun r v H2 F2 hR m2 e2 => kk r env' v H2 F2 hR (m.trans m2) e2
  have he : starEach [x] X.env = (false, eval x X.env) :: starEach [] X.env := by rw [hs]; rfl
  refine wpAny_Call_Name_kw (ld_blt I hgl hm (show bootBuiltins "repr" = some (.builtin "repr") by decide +kernel) ?_ (by decide) (by decide))
  exact PyProof.Rows.callWith_builtin1 run he (by rfl)⟩
end
end G
/-! S9: raise C("..."), C an exception class of the program without an own __init__, under ValueError. -/
namespace G
open PySem PySem.Spec L2
/-- such a class -/
structure XcOk (K : PySem.W.Frag) (mg : Str → Option Value) (C : Addr) (g : Str) : Prop where
  nm : mg g = some (.ref C)
  ex : PySem.W.excIn K C [.type "ValueError", .type "Exception", .type "BaseException", .type "object"] "ValueError.__new__" = true
  kp : PySem.W.keepIn K (.ref C) = true
  sb : PySem.W.subIn K (.ref C) (.type "BaseException") = some true
  ty : PySem.W.typeIn K (.ref C) = some (.type "type")
def asRaise : Stmt → Option (Str × Pos × Str × Nat × Pos × Pos × Pos)
  | .Raise (some (.Call (.Name g p) [.Constant (.str m) j p2] [] pos)) none pos2 => some (g, p, m, j, p2, pos, pos2)
  | _ => none
theorem asRaise_eq {s : Stmt} {g p m j p2 pos pos2} (h : asRaise s = some (g, p, m, j, p2, pos, pos2)) : s = .Raise (some (.Call (.Name g p) [.Constant (.str m) j p2] [] pos)) none pos2 := by
  unfold asRaise at h
  split at h <;> simp at h
  obtain ⟨rfl, rfl, rfl, rfl, rfl, rfl, rfl⟩ := h
  rfl
section
variable {X : Cx} {P : PP} {Γ : Fns} {Xp : XP} {g m : Str} {c j : Nat} {p p2 pos pos2 : Pos}
theorem s_raise (hc : X.calm = true) (tk : Takes X (WXo P Xp)) (T : XcOk X.K X.mg (P.L.xc c) g) (hg : Gl X g) (hdb : (g == ("__debug__" : Str)) = false) :
    PS X (.Raise (some (.Call (.Name g p) [.Constant (.str m) j p2] [] pos)) none pos2) (tS P Γ Xp (.raise c)) :=
  ps_imp (ps_raise hc tk (pmk_own PySem.F.excBase_ValueError T.ex T.nm T.kp (raises_own T.sb T.ty) hg hdb)) fun Dn σ H h => by
    obtain ⟨env, F, k, ex, w, _⟩ := h
    simp only [wS] at w
    exact ⟨env, F, ⟨c, []⟩, ex, ⟨rfl, .inl ⟨rfl, rfl⟩⟩, w⟩
end
end G
/-! T1: list.count, list.index of truths; isinstance and fields of a held exception. -/
namespace G
open PySem PySem.Spec L2 PyProof.Rows
theorem cnt_bools {b : Bool} : ∀ {bs : List Bool} {us : List Value}, Vals (bs.map V.bl) us → us.countP (eqU (.bl b)) = bs.count b
  | [], us, r => by cases r; rfl
  | c :: bs, us, r => by
    cases r with
    | cons h t =>
      cases h
      rw [List.countP_cons, List.count_cons, cnt_bools t]
      rfl
theorem flat_bools : ∀ bs : List Bool, (bs.map V.bl).all flatV = true
  | [] => rfl
  | b :: bs => by rw [List.map_cons, List.all_cons, flat_bools bs]; rfl
section
variable {X : Cx}
def rCntB (K : PySem.W.Frag) : V → List V → Hp → VK → Prop := fun x xs H Q => ∃ (q : Addr) (bs : List Bool) (b : Bool), x = .ref q ∧ xs = [.bl b] ∧ SqL K H q (bs.map V.bl) ∧ Q (.int (bs.count b : Nat)) H
theorem mt_cntB : MtR X "list.count" (rCntB X.K) := by
  intro pins s σ H x xs v us Q I rx rxs ⟨q, bs, b, ex, exs, hs, k⟩
  subst ex exs
  obtain ⟨u, rfl, ru⟩ := rxs.one
  obtain rfl : v = Value.ref q := rx
  obtain ⟨its, rv, ⟨⟨oc, od, oa, os⟩, n, ho, e1, e2, e3⟩, _⟩ := I.list hs
  dsimp only at e1 e3
  subst e1 e3
  refine call_meets PySem.F.slot_list_count ⟨_, ho, rfl⟩ PySem.F.entry_list_count (PySem.F.args_list_count_2 _ _) (SeqAt.list_countAt q its.toArray n od os u (eqU (.bl b)))
    ⟨ho, fun y hy => mem_eqAt ru rfl rv (flat_bools bs) y (by simpa using hy), .int (bs.count b : Nat), H, I.tok _, ⟨s.toks, ?_⟩, k⟩
  rw [show its.toArray.toList.countP (eqU (.bl b)) = bs.count b from cnt_bools rv]
end
section
variable {X : Cx} {P : PP} {Γ : Fns} {Xp : XP} {pos apos : Pos} {y z : Expr} {a b : E}
theorem reps_bools {L : Lay} {F : Hp} : ∀ {bs : List Bool} {vs : List V}, Reps L F (bs.map D.bl) vs → vs = bs.map V.bl
  | [], _, h => h
  | b :: bs, _, ⟨v, r, e, h1, h2⟩ => by
    subst e
    rw [show v = V.bl b from h1, reps_bools h2]
    rfl
/-- the receiver, the argument: what the call finds -/
theorem bm_two {m : BM} (hm : ∀ d, bmTy m d = true → ∃ ds, d = .lst ds) {r : V → List V → Hp → VK → Prop}
    (hr : ∀ (x y : Option D) (R : RV → Prop), bmW m [x, y] R → ∃ (bs : List Bool) (c : Bool), x = some (.lst (bs.map .bl)) ∧ y = some (.bl c) ∧
      ∀ (p : Addr) (H : Hp) (Q : VK), H p = some (.lst (bs.map V.bl)) → (∀ i : Int, R (.val (.int i)) → Q (.int i) H) → r (.ref p) [.bl c] H Q) :
    ∀ σ H Q, tE P Γ Xp (.bm m a [b]) σ H Q → tBM X.K "list" r (tO P Γ Xp a) (tOs P Γ Xp [b]) σ H Q := fun σ H Q h => by
  obtain ⟨env, F, R, ex, w, k⟩ := h
  simp only [wE] at w
  refine ⟨env, F, _, ex, w, fun o env1 v H1 F1 w1 m1 e1 p1 => ?_⟩
  obtain ⟨d, hd, ht, w1⟩ := w1
  obtain ⟨ds, rfl⟩ := hm d ht
  obtain ⟨p, vs, rfl, hp, _⟩ := (e1.res p1 hd).lst e1.sub
  refine ⟨.inl ⟨rfl, vs, .inl (.inl hp)⟩, env1, F1, _, e1, w1, fun os env2 ws H2 F2 w2 m2 e2 p2 l2 => ?_⟩
  cases p2 with
  | nil => simp at l2
  | cons p2 t =>
    cases t with
    | cons _ _ => simp at l2
    | nil =>
      obtain ⟨bs, c, q1, q2, q3⟩ := hr _ _ _ w2
      obtain ⟨p', vs2, h1, h2, h3⟩ := (e2.res (p1.mono m2) q1).lst e2.sub
      cases h1
      rw [(e2.res p2 q2).bl]
      rw [reps_bools h3] at h2
      exact q3 p H2 Q h2 fun i hi => k _ env2 _ H2 F2 hi (m1.trans m2) (e2.pure rfl)
theorem e_cnt (hK : X.K = P.L.K) (ho : PE X z (tO P Γ Xp a)) (ha : PA X [y] (tOs P Γ Xp [b])) (hb : attributeBase z "count" X.env (eval z X.env) = eval z X.env) (hline : (apos.endLine == pos.line) = true)
    (hst : starEach [y] X.env = (false, eval y X.env) :: starEach [] X.env) : PE X (.Call (.Attribute z "count" apos) [y] [] pos) (tE P Γ Xp (.bm .count a [b])) :=
  pe_imp (pe_bm PySem.F.plainAttrs_list PySem.F.slot_list_count PySem.F.type_list_count mt_cntB ho ha hb (few_args (pos := pos) (env := X.env) (args := [y]) (by rw [hst]; rfl) (by simp)) hline hst rfl)
    (bm_two (fun d h => by cases d <;> first | exact ⟨_, rfl⟩ | cases h) fun x y R ⟨bs, c, h1, h2, w⟩ => ⟨bs, c, h1, h2, fun p H Q hp k => ⟨p, bs, c, rfl, rfl, .inl (.inl hp), k _ w⟩⟩)
theorem e_ixb (hK : X.K = P.L.K) (ho : PE X z (tO P Γ Xp a)) (ha : PA X [y] (tOs P Γ Xp [b])) (hb : attributeBase z "index" X.env (eval z X.env) = eval z X.env) (hline : (apos.endLine == pos.line) = true)
    (hst : starEach [y] X.env = (false, eval y X.env) :: starEach [] X.env) : PE X (.Call (.Attribute z "index" apos) [y] [] pos) (tE P Γ Xp (.bm .index a [b])) :=
  pe_imp (pe_bm PySem.F.plainAttrs_list PySem.F.slot_list_index PySem.F.type_list_index mt_index ho ha hb (few_args (pos := pos) (env := X.env) (args := [y]) (by rw [hst]; rfl) (by simp)) hline hst rfl)
    (bm_two (fun d h => by cases d <;> first | exact ⟨_, rfl⟩ | cases h) fun x y R ⟨bs, c, j, h1, h2, hj, hno, w⟩ => ⟨bs, c, h1, h2, fun p H Q hp k => by
      refine ⟨p, _, .bl c, j, .bl c, rfl, rfl, .inl (.inl hp), rfl, flat_bools bs, by rw [List.getElem?_map, hj]; rfl, by cases c <;> rfl, fun m z hm hz => ?_, k _ w⟩
      rw [List.getElem?_map] at hz
      cases q : bs[m]? with
      | none => rw [q] at hz; cases hz
      | some d =>
        rw [q] at hz
        cases hz
        have := hno m hm
        rw [q] at this
        cases c <;> cases d <;> first | rfl | exact absurd rfl this⟩)
end
end G
/-! C0: what may be asked of a held exception. -/
namespace G
open PySem PySem.Spec L2 PyProof.Rows
/-- the exception at ad is x (of a class without fields), as the context holds it -/
structure Held (X : Cx) (L : Lay) (ad : Addr) (x : Exn) : Prop where
  pin : ∃ (oe : Obj) (vs : Array Value), (ad, oe) ∈ X.pn ∧ oe.data = .fields vs ∧ Zc (.ref (L.xc x.c)) none oe
/-- isinstance of an exception that the context holds -/
theorem call_isH {X : Cx} {a D : Addr} {oe : Obj} (hp : (a, oe) ∈ X.pn) (C : ExcC X.K D) (hz : Zc (.ref D) none oe) (hf : ∃ vs, oe.data = .fields vs) : CallR X (.builtin "isinstance") (rIsE X.K D a) := by
  intro pins s σ H xs us Q I rs ⟨c, cv, b, e1, hcv, e2, k⟩
  subst e1
  obtain ⟨u1, u2, rfl, r1, r2⟩ := rs.two
  obtain rfl : u1 = Value.ref a := r1
  obtain rfl := hcv _ r2
  obtain ⟨at_, _⟩ := I.pin (a, oe) (List.mem_append_left _ hp)
  obtain ⟨vs, hv⟩ := hf
  have J : PySem.W.InstAt s.heap a oe D none := ⟨at_, hz.1, by unfold PySem.W.notCls; rw [hv] <;> rfl, by rw [hz.2]; exact True.intro⟩
  exact PySem.W.kia_one (PySem.W.handS_kitx_exc C.hg C.hk C.hs C.hd C.ha C.hn C.ht C.hm) I.kIn J e2 (fun z => nomatch z) fun tk => ⟨.bl b, H, I.kept (t' := tk) fun _ _ z => z, rfl, k⟩
section
variable {X : Cx} {P : PP} {Γ : Fns} {Xp : XP} {pos p : Pos} {x y : Expr} {a : E} {ad : Addr} {xn : Exn}
theorem Top.exn {F H : Hp} {v : V} (t : Top P F H (.exn ad) v) : v = .ref ad := by
  rcases t with e | ⟨_, o, _, q, _⟩
  · exact e
  · cases o <;> cases q
/-- isinstance(e, C) -/
theorem e_isx {c : Nat} {cV : V} {cv : Value} (hx : Γ.hx = some (ad, xn)) (hel : Held X P.L ad xn) (C : ExcC X.K (P.L.xc xn.c)) (hk : PySem.W.kitOne X.K (.ref (P.L.xc xn.c)) cv = some (subX xn.c c)) (hcv : ∀ u, RelV cV u → u = cv)
    (hg : Gl X "isinstance") (hm : X.mg "isinstance" = none) (ha : PE X x (tO P Γ Xp a)) (hy : PE X y (tC cV)) (he : starEach [x, y] X.env = (false, eval x X.env) :: starEach [y] X.env) (he2 : starEach [y] X.env = (false, eval y X.env) :: starEach [] X.env) :
    PE X (.Call (.Name "isinstance" p) [x, y] [] pos) (tE P Γ Xp (.hot (.isx c) a)) := by
  obtain ⟨oe, vs, h1, h2, h3⟩ := hel.pin
  refine pe_imp (pe_callB (call_isH h1 C h3 ⟨vs, h2⟩) hg hm (by decide +kernel) (pa_cons ha (pa_cons hy pa_nil he2) he) (by decide) (by decide) he (by rw [he2]; rfl)) fun σ H Q hq => ?_
  obtain ⟨env, F, R, ex, w, k⟩ := hq
  simp only [wE] at w
  refine ⟨env, F, _, ex, w, fun o1 env1 v1 H1 F1 w1 m1 e1 p1 => ?_⟩
  obtain ⟨ad', x', q1, q2, w1⟩ := w1
  rw [hx] at q2
  cases q2
  rw [Top.exn (e1.res p1 q1)]
  exact ⟨cV, cv, _, rfl, hcv, hk, k _ _ _ H1 F1 w1 m1 (e1.pure rfl)⟩
end
/-- the classes without fields -/
def plX : List Nat := [2, 3, 4, 5, 6, 7, 8, 9, 10, 11, 12, 13, 14, 15, 16, 17]
theorem plX_of {c : Nat} (h : 2 ≤ c ∧ c ≤ 17) : c ∈ plX := by
  obtain ⟨h1, h2⟩ := h
  have : c = 2 ∨ c = 3 ∨ c = 4 ∨ c = 5 ∨ c = 6 ∨ c = 7 ∨ c = 8 ∨ c = 9 ∨ c = 10 ∨ c = 11 ∨ c = 12 ∨ c = 13 ∨ c = 14 ∨ c = 15 ∨ c = 16 ∨ c = 17 := by omega
  simp only [plX, List.mem_cons, List.not_mem_nil, or_false]
  exact this
/-- what is known of their names: no globals; classes of exceptions -/
structure HU where
  nog : List Str
  xcl : List (Nat × Str)
  /-- defs of this kind that are called in turn -/
  hfs : List (Nat × Str) := []
/-- the def that tells what a lambda gives (v: ("told", r); else [r]), by the words' def f; its names -/
structure SaidT where
  v : Bool
  f : Nat
  gs : Str
  ac : Str
  fo : Str
  ex : Str
  kx : Str
  ce : Str
  cm : Str
  N : List Str
  io : Nat
  ie : Nat
/-- what a def promises that is called with a held exception -/
structure HotOk (p : Program) (w : World) (mg : Str → Option Value) (base : Heap) (L : Lay) (n : Nat) (f : Addr) (fd : FuncData) (ps : List Str) (m : Nat → Exn → (RV → Prop) → Prop) : Prop where
  run : ∀ (A : Around) (outer : List PySem.Env) (s : Shared) (H : Hp) (args : Args) (Q : VK) (E : XK) (a : Addr) (oe : Obj) (x : Exn) (F : Hp) (R : RV → Prop), L2H.RoomH n A → L2H.PinOk outer H s (a, oe) → (∃ vs, oe.data = .fields vs) → Zc (.ref (L.xc x.c)) none oe → x.c ∈ plX →
    Env0 p w L.K mg base A outer s H → BindsTo s fd args (ps.zip [.ref a]) → LeH F H → TabF L F H → m a x R →
    (∀ r v F' H', R r → LeH F F' → LeH F' H' → Kept F H F' H' [] → TabF L F' H' → RetR L H F' H' v r → Q v H') → codeAny (model p w) A (.call (.ref f) args) (CR (L2.CX p w) outer p w H s Q E) s
section
variable {L : Lay} {Z : Cx} {n f : Nat} {fd : FuncData} {g kx ex : Str} {m : Nat → Exn → (RV → Prop) → Prop} {a : Addr} {oe : Obj} {i : Nat} {q q2 pos : Pos}
/-- what the call in the suite asks -/
def tHot (L : Lay) (N : List Str) (m : Nat → Exn → (RV → Prop) → Prop) (a : Addr) (cls : Value) (d : Option Addr) (i : Nat) : TE := fun σ H Q => (σ.length = N.length → σ[i]? = some (some (.ref a))) ∧
  ∃ (x : Exn) (F : Hp) (R : RV → Prop), cls = .ref (L.xc x.c) ∧ d = none ∧ x.c ∈ plX ∧ LeH F H ∧ TabF L F H ∧ m a x R ∧ ∀ r v F' H', R r → LeH F F' → LeH F' H' → Kept F H F' H' [] → TabF L F' H' → RetR L H F' H' v r → Q v H'
theorem pe_hot {cls : Value} {d : Option Addr} (F : HotOk Z.prog Z.w Z.mg Z.base L n f fd [g] m) (hK : Z.K = L.K) (hr : L2H.RoomH n Z.A) (hp : (a, oe) ∈ Z.pn) (hz : Zc cls d oe) (hof : ∃ vs, oe.data = .fields vs) (hg : Gl Z kx) (hm : Z.mg kx = some (.ref f)) (hk : PySem.W.keepIn Z.K (.ref f) = true) (hb : L2.Binds Z.K fd [g] [])
    (hN : Z.N[i]? = some ex) (hv : Vis Z.env.scope ex) (h1 : (kx == ("__debug__" : Str)) = false) (h2 : (ex == ("__debug__" : Str)) = false) (h3 : (ex == ("__classdict__" : Str)) = false) :
    PE Z (.Call (.Name kx q) [.Name ex q2] [] pos) (tHot L Z.N m a cls d i) := by
  constructor
  intro pins s σ H Q I ⟨hs, x, F0, R, hc, hd, hxl, sub, tf, mW, kR⟩
  subst hc hd
  refine wpAny_Call_Name_kw (ld_glob I hg hm ?_ h1)
  have pa : PA Z [.Name ex q2] _ := pa_cons (pe_var hN hv h2 h3) pa_nil rfl
  refine PySem.W.callWith_K (h₀ := Z.base) I.ok.mod.kin hk (thn (pa.run pos pins s σ H (fun vs H1 => vs = [.ref a] ∧ H1 = H) I ⟨.ref a, hs I.len, rfl, rfl⟩) fun us s1 ⟨vs, H1, I1, rv, e1, e2⟩ => ⟨I1.kIn, ?_⟩) rfl rfl
  subst e1
  rw [e2] at I1
  cases rv with
  | cons r1 t =>
    cases t
    cases r1
    have P1 := I1.pin (a, oe) (List.mem_append_left _ hp)
    have hpin : L2H.PinOk Z.stack H s1 (a, oe) := ⟨P1.1, P1.2.1, fun z => (List.mem_cons.mp (I1.stkSub _ z)).elim P1.2.2.1 P1.2.2.2.1, P1.2.2.2.2⟩
    have bt := hb s1 [.ref a] I1.kIn rfl
    rw [List.append_nil] at bt
    have e0 := I1.env0
    rw [hK] at e0
    refine wpAny_call (codeAny_mono (F.run Z.A Z.stack s1 H ⟨[.ref a], []⟩ Q C8.E0 a oe x F0 R hr hpin hof hz hxl e0 bt sub tf mW kR) fun r s2 out => ?_)
    match r, out with
    | .error e, out => exact passes_call LamX.takes0 (fun _ _ _ _ z => z) pins σ H s1 e s2 I1 out
    | .ok (.ret u), out => exact I1.after out
    | .ok .next, out => exact out.elim
    | .ok .brk, out => exact out.elim
    | .ok .cont, out => exact out.elim
end
section
variable {P : PP} {A : Nat → Addr} {σ : L2.St} {H H' : Hp} {env : Env} {F F' : Hp}
/-- an answer of what was called -/
theorem ER.ret (e : ER P A σ H env F) {is : List Nat} {outs : List OV} {v : V} {r : RV} (nd : is.Nodup) (hi : ∀ i ∈ is, ∃ o, ownish env[i]? = some o)
    (m : LeH F F') (s : LeH F' H') (kp : Kept F H F' H' (is.map A)) (os : Outs P.L F' H' (is.map A) outs) (tf : TabF P.L F' H') (rr : RetR P.L H F' H' v r) : EXv P σ H' (G.back env is outs) F' v r := by
  refine ⟨A, e.back nd hi m s kp os tf, ?_⟩
  cases r with
  | val d => exact rr
  | fr o =>
    obtain ⟨q1, rfl, q2, q3⟩ := rr
    refine ⟨q1, rfl, q2, ?_, fun i u hu => ?_⟩
    · cases z : P.O q1 with
      | none => rfl
      | some w =>
        obtain ⟨ps, rfl⟩ := q3 w (e.fr q1 w z).1
        exact absurd z (e.tb.no q1 ps)
    · obtain ⟨o', ho'⟩ := ownish_back hi hu
      obtain ⟨w, hw⟩ := (e.own i o' ho').2.1.there
      intro z
      obtain ⟨ps, rfl⟩ := q3 w (z ▸ hw)
      exact (((e.own i o' ho').2.1.plain hw).1 ps) rfl
/-- a call that lends nothing -/
theorem ex_ret0 (e : ER P A σ H env F) {v : V} {r : RV} (m : LeH F F') (s : LeH F' H') (kp : Kept F H F' H' []) (tf : TabF P.L F' H') (rr : RetR P.L H F' H' v r) : EXv P σ H' env F' v r :=
  e.ret (is := []) (outs := []) List.nodup_nil (fun i h => by cases h) m s kp .nil tf rr
end
section
variable {X : Cx} {P : PP} {Γ : Fns} {Xp : XP} {pos q q2 : Pos} {ad : Addr} {xn : Exn} {n m i : Nat} {f : Addr} {fd : FuncData} {g kx ex : Str}
/-- kx(e), e the held exception -/
theorem e_hc (hx : Γ.hx = some (ad, xn)) (hxl : xn.c ∈ plX) (F : HotOk X.prog X.w X.mg X.base P.L n f fd [g] (Γ.h m)) (hK : X.K = P.L.K) (hr : L2H.RoomH n X.A) (hel : Held X P.L ad xn) (hg : Gl X kx) (hm : X.mg kx = some (.ref f)) (hk : PySem.W.keepIn X.K (.ref f) = true) (hb : L2.Binds X.K fd [g] [])
    (hN : X.N[i]? = some ex) (hv : Vis X.env.scope ex) (h1 : (kx == ("__debug__" : Str)) = false) (h2 : (ex == ("__debug__" : Str)) = false) (h3 : (ex == ("__classdict__" : Str)) = false) :
    PE X (.Call (.Name kx q) [.Name ex q2] [] pos) (tE P Γ Xp (.hot (.hc m) (.ref i))) := by
  obtain ⟨oe, vs, p1, p2, p3⟩ := hel.pin
  refine pe_imp (pe_hot F hK hr p1 p3 ⟨vs, p2⟩ hg hm hk hb hN hv h1 h2 h3) fun σ H Q h => ?_
  obtain ⟨env, F0, R, exx, w, k⟩ := h
  simp only [wE, opd] at w
  split at w
  · rename_i z he
    obtain ⟨ad', x', q1, q2, w⟩ := w
    rw [hx] at q2
    cases q2
    obtain ⟨v, hv'⟩ := exx.slot he
    obtain ⟨A, e⟩ := exx
    have hvr := Top.exn (e.res (o := .slot i) hv' q1)
    subst hvr
    refine ⟨fun _ => hv', xn, F0, _, rfl, rfl, hxl, e.sub, ⟨e.tb.tabs, e.tb.nf⟩, w, fun r v F' H' hr m s kp tf rr => ?_⟩
    exact k r env v H' F' hr m (ex_ret0 e m s kp tf rr)
  · exact w.elim
end
end G
/-! S11: what is so at a def's entry, at its end. -/
namespace G
open PySem PySem.Spec L2

def notTbl : HO → Bool
  | .tbl _ => false
  | _ => true
theorem notTbl_of {o : HO} (h : ∀ ps, o ≠ .tbl ps) : notTbl o = true := by
  cases o <;> first
    | rfl
    | exact absurd rfl (h _)
/-- the context that a def's body runs in -/
def bodyP (L : Lay) (F H : Hp) (vs : List V) (as : List EV) : PP where
  L := L
  O := fun a => if F a = none ∧ a ∉ borA vs as ∧ (H a).all notTbl = true then H a else none
  B := fun i => adr (vs[i]?.getD .non)
  isB := fun i => match as[i]? with
    | some (.bor _) => true
    | _ => false
  F0 := F
theorem bor_mem : ∀ {vs : List V} {as : List EV} {i : Nat} {v : V} {o : OV}, vs[i]? = some v → as[i]? = some (.bor o) → adr v ∈ borA vs as
  | [], _, _, _, _, h, _ => by simp at h
  | _ :: _, [], _, _, _, _, h => by simp at h
  | w :: vs, a :: as, 0, v, o, h, k => by
    simp at h k
    subst h; subst k
    exact List.mem_cons_self ..
  | w :: vs, a :: as, i + 1, v, o, h, k => by
    have := bor_mem (i := i) (vs := vs) (as := as) (by simpa using h) (by simpa using k)
    cases a <;> first
      | exact this
      | exact List.mem_cons_of_mem _ this
theorem mem_bor : ∀ {vs : List V} {as : List EV} {p : Addr}, p ∈ borA vs as → ∃ (i : Nat) (v : V) (o : OV), vs[i]? = some v ∧ as[i]? = some (EV.bor o) ∧ adr v = p
  | [], _, _, h => by simp [borA] at h
  | _ :: _, [], _, h => by simp [borA] at h
  | w :: vs, a :: as, p, h => by
    have up : p ∈ borA vs as → ∃ (i : Nat) (v : V) (o : OV), (w :: vs)[i]? = some v ∧ (a :: as)[i]? = some (EV.bor o) ∧ adr v = p := fun h => by
      obtain ⟨i, v, o, h1, h2, h3⟩ := mem_bor h
      exact ⟨i + 1, v, o, by simpa using h1, by simpa using h2, h3⟩
    cases a with
    | val d => exact up h
    | own o => exact up h
    | bor o =>
      rcases List.mem_cons.mp h with e | h
      · exact ⟨0, w, o, rfl, rfl, e.symm⟩
      · exact up h
theorem bor_ne : ∀ {vs : List V} {as : List EV} {i j : Nat} {v w : V} {o u : OV}, (borA vs as).Nodup → vs[i]? = some v → vs[j]? = some w → as[i]? = some (.bor o) → as[j]? = some (.bor u) → i ≠ j → adr v ≠ adr w
  | [], _, _, _, _, _, _, _, _, h, _, _, _, _ => by simp at h
  | _ :: _, [], _, _, _, _, _, _, _, _, _, h, _, _ => by simp at h
  | x :: vs, a :: as, 0, 0, _, _, _, _, _, _, _, _, _, n => absurd rfl n
  | x :: vs, a :: as, 0, j + 1, v, w, o, u, nd, h1, h2, h3, h4, _ => by
    simp at h1 h3
    subst h1; subst h3
    intro e
    have := bor_mem (vs := vs) (as := as) (i := j) (by simpa using h2) (by simpa using h4)
    rw [← e] at this
    exact (List.nodup_cons.mp (show (adr x :: borA vs as).Nodup from nd)).1 this
  | x :: vs, a :: as, i + 1, 0, v, w, o, u, nd, h1, h2, h3, h4, _ => by
    simp at h2 h4
    subst h2; subst h4
    intro e
    have := bor_mem (vs := vs) (as := as) (i := i) (by simpa using h1) (by simpa using h3)
    rw [e] at this
    exact (List.nodup_cons.mp (show (adr x :: borA vs as).Nodup from nd)).1 this
  | x :: vs, a :: as, i + 1, j + 1, v, w, o, u, nd, h1, h2, h3, h4, n => by
    have nd' : (borA vs as).Nodup := by
      cases a with
      | val d => exact nd
      | own o => exact nd
      | bor o => exact (List.nodup_cons.mp (show (adr x :: borA vs as).Nodup from nd)).2
    exact bor_ne (i := i) (j := j) nd' (by simpa using h1) (by simpa using h2) (by simpa using h3) (by simpa using h4) (fun z => n (by rw [z]))
theorem bors_nil : ∀ {env : Env}, (∀ (i : Nat) (o : OV), env[i]? ≠ some (some (.bor o))) → bors env = []
  | [], _ => rfl
  | e :: env, h => by
    have t : bors env = [] := bors_nil fun i o q => h (i + 1) o (by simpa using q)
    cases e with
    | none => exact t
    | some e => cases e with
      | val d => exact t
      | own o => exact t
      | bor o => exact absurd rfl (h 0 o)
theorem outs_of {L : Lay} {F H : Hp} : ∀ {vs : List V} {as : List EV} {env : Env}, vs.length = as.length → (∀ i : Nat, (∃ o : OV, env[i]? = some (some (.bor o))) ↔ ∃ o : OV, as[i]? = some (.bor o)) →
    (∀ (i : Nat) (o : OV) (v : V), env[i]? = some (some (.bor o)) → vs[i]? = some v → OwnAt L F H (adr v) o) → Outs L F H (borA vs as) (bors env)
  | [], _ :: _, _, h, _, _ => by simp at h
  | _ :: _, [], _, h, _, _ => by simp at h
  | [], [], env, _, h, _ => by
    rw [bors_nil (env := env) fun i o q => by
      obtain ⟨u, z⟩ := (h i).mp ⟨o, q⟩
      simp at z]
    exact .nil
  | v :: vs, a :: as, [], _, h, _ => by
    have : borA (v :: vs) (a :: as) = [] := List.eq_nil_iff_forall_not_mem.mpr fun p hp => by
      obtain ⟨i, w, o, _, q, _⟩ := mem_bor hp
      obtain ⟨u, z⟩ := (h i).mpr ⟨o, q⟩
      simp at z
    rw [this]
    exact .nil
  | v :: vs, a :: as, e :: env, h1, h3, h4 => by
    have t : Outs L F H (borA vs as) (bors env) := outs_of (by simpa using h1) (fun i => by simpa using h3 (i + 1)) fun i o w q z => h4 (i + 1) o w (by simpa using q) (by simpa using z)
    have h0 := h3 0
    simp only [List.getElem?_cons_zero] at h0
    cases a with
    | bor o =>
      obtain ⟨u, z⟩ := h0.mpr ⟨o, rfl⟩
      cases z
      exact .cons (h4 0 u v rfl rfl) t
    | val d =>
      cases e with
      | none => exact t
      | some e => cases e with
        | val d => exact t
        | own o => exact t
        | bor o =>
          obtain ⟨u, z⟩ := h0.mp ⟨o, rfl⟩
          cases z
    | own d =>
      cases e with
      | none => exact t
      | some e => cases e with
        | val d => exact t
        | own o => exact t
        | bor o =>
          obtain ⟨u, z⟩ := h0.mp ⟨o, rfl⟩
          cases z
theorem ArgsR.get {L : Lay} {F H : Hp} : ∀ {vs : List V} {as : List EV} {i : Nat} {a : EV}, ArgsR L F H vs as → as[i]? = some a → ∃ v, vs[i]? = some v ∧ ArgR L F H v a
  | _, _, _, _, .nil, h => by simp at h
  | _, _, 0, _, .cons h t, e => by simp at e; subst e; exact ⟨_, rfl, h⟩
  | _, _, i + 1, _, .cons h t, e => by
    obtain ⟨v, h1, h2⟩ := ArgsR.get (i := i) t (by simpa using e)
    exact ⟨v, by simpa using h1, h2⟩
theorem start_env {as : List EV} {m : Nat} {i : Nat} {z : EV} (h : (as.map some ++ List.replicate m none)[i]? = some (some z)) : as[i]? = some z := by
  by_cases hi : i < as.length
  · rw [List.getElem?_append_left (by simpa using hi), List.getElem?_map] at h
    cases e : as[i]? with
    | none => rw [e] at h; cases h
    | some a => rw [e] at h; cases h; rfl
  · rw [List.getElem?_append_right (by simpa using hi), List.getElem?_replicate] at h
    split at h <;> cases h
theorem env_start {as : List EV} {m : Nat} {i : Nat} {z : EV} (h : as[i]? = some z) : (as.map some ++ List.replicate m none)[i]? = some (some z) := by
  have hi := (List.getElem?_eq_some_iff.mp h).1
  rw [List.getElem?_append_left (by simpa using hi), List.getElem?_map, h]
  rfl
theorem start_st {N : List Str} {vs : List V} {i : Nat} {v : V} (h : vs[i]? = some v) : (L2.start N vs)[i]? = some (some v) := by
  unfold L2.start
  have hi := (List.getElem?_eq_some_iff.mp h).1
  rw [List.getElem?_append_left (by simpa using hi), List.getElem?_map, h]
  rfl
/-- the entry -/
theorem er_start {L : Lay} {F H : Hp} {vs : List V} {as : List EV} {N : List Str} {m : Nat} (sub : LeH F H) (tf : TabF L F H) (r : ArgsR L F H vs as) (nd : (borA vs as).Nodup) (hn : as.length + m = N.length) :
    EX (bodyP L F H vs as) (L2.start N vs) H (as.map some ++ List.replicate m none) F := by
  have lvs : vs.length = as.length := Paired.length r
  have ow : ∀ (i : Nat) (o : OV), ownish (as.map some ++ List.replicate m none)[i]? = some o → as[i]? = some (.bor o) ∧ ∃ p, vs[i]? = some (.ref p) ∧ OwnAt L F H p o := fun i o q => by
    rcases ownish_some q with q | q
    · obtain ⟨v, _, h⟩ := r.get (start_env q)
      exact h.elim
    · have q := start_env q
      obtain ⟨v, h1, p, rfl, h2⟩ := r.get q
      exact ⟨q, p, h1, h2⟩
  refine ⟨fun i => adr (vs[i]?.getD .non), ⟨sub, LeH.refl F, fun a o q => ?_, ?_, fun i d q => ?_, fun i o q => ?_, fun i j o u q1 q2 n => ?_, fun i o q => rfl, fun i => ?_, ⟨tf.tabs, tf.nf, fun a ps q => ?_⟩⟩⟩
  · have q : (if F a = none ∧ a ∉ borA vs as ∧ (H a).all notTbl = true then H a else none) = some o := q
    split at q
    · rename_i z
      exact ⟨q, z.1⟩
    · cases q
  · unfold L2.start
    rw [List.length_append, List.length_append, List.length_map, List.length_map, List.length_replicate, List.length_replicate]
    omega
  · obtain ⟨v, h1, h2⟩ := r.get (start_env q)
    exact ⟨v, start_st h1, h2⟩
  · obtain ⟨h0, p, h1, h2⟩ := ow i o q
    show _ ∧ OwnAt L F H (adr (vs[i]?.getD .non)) o ∧ (if F (adr (vs[i]?.getD .non)) = none ∧ adr (vs[i]?.getD .non) ∉ borA vs as ∧ (H (adr (vs[i]?.getD .non))).all notTbl = true then H (adr (vs[i]?.getD .non)) else none) = none
    rw [h1]
    refine ⟨start_st h1, h2, if_neg fun z => z.2.1 ?_⟩
    exact bor_mem h1 h0
  · obtain ⟨h0, p, h1, h2⟩ := ow i o q1
    obtain ⟨k0, p', k1, k2⟩ := ow j u q2
    show adr (vs[i]?.getD .non) ≠ adr (vs[j]?.getD .non)
    rw [h1, k1]
    exact bor_ne nd h1 k1 h0 k0 n
  · show (match as[i]? with | some (.bor _) => true | _ => false) = true ↔ _
    constructor
    · intro h
      split at h
      · rename_i o q
        exact ⟨o, env_start q⟩
      · cases h
    · rintro ⟨o, q⟩
      rw [start_env q]
  · have q : (if F a = none ∧ a ∉ borA vs as ∧ (H a).all notTbl = true then H a else none) = some (.tbl ps) := q
    split at q
    · rename_i z
      rw [q] at z
      cases z.2.2
    · cases q
/-- what is so at the end -/
theorem er_end {L : Lay} {F H : Hp} {vs : List V} {as : List EV} {σ : L2.St} {H' F' : Hp} {env : Env} {A : Nat → Addr} (lv : vs.length = as.length) (e : ER (bodyP L F H vs as) A σ H' env F') :
    LeH F F' ∧ LeH F' H' ∧ Kept F H F' H' (borA vs as) ∧ Outs L F' H' (borA vs as) (bors env) ∧ TabF L F' H' := by
  have hb : ∀ i : Nat, (∃ o : OV, env[i]? = some (some (.bor o))) ↔ ∃ o : OV, as[i]? = some (.bor o) := fun i => by
    rw [← e.isb i]
    show (match as[i]? with | some (.bor _) => true | _ => false) = true ↔ _
    constructor
    · intro h
      split at h
      · rename_i o q
        exact ⟨o, q⟩
      · cases h
    · rintro ⟨o, q⟩
      rw [q]
  refine ⟨e.le0, e.sub, fun a o h1 h2 h3 h4 => ?_, outs_of lv hb fun i o v q z => ?_, ⟨e.tb.tabs, e.tb.nf⟩⟩
  · exact e.fr a o (show (if F a = none ∧ a ∉ borA vs as ∧ (H a).all notTbl = true then H a else none) = some o by rw [if_pos ⟨h2, h3, by rw [h1]; exact notTbl_of h4⟩]; exact h1)
  · obtain ⟨_, h, _⟩ := e.own i o (by rw [q]; rfl)
    have hA : A i = adr (vs[i]?.getD .non) := e.bor i o q
    rw [hA, z] at h
    exact h
theorem ret_end {L : Lay} {F H : Hp} {vs : List V} {as : List EV} {σ : L2.St} {H' F' : Hp} {env : Env} {A : Nat → Addr} {v : V} {r : RV} (lv : vs.length = as.length) (e : ER (bodyP L F H vs as) A σ H' env F') (h : RVr (bodyP L F H vs as) A H' env F' v r) : RetR L H F' H' v r := by
  cases r with
  | val d => exact h
  | fr o =>
    obtain ⟨p, rfl, h1, h2, h3⟩ := h
    refine ⟨p, rfl, h1, fun u hu => ?_⟩
    have h2 : (if F p = none ∧ p ∉ borA vs as ∧ (H p).all notTbl = true then H p else none) = none := h2
    by_cases z1 : F p = none
    · by_cases z2 : p ∈ borA vs as
      · obtain ⟨i, w, o', q1, q2, q3⟩ := mem_bor z2
        have : (bodyP L F H vs as).isB i = true := by
          show (match as[i]? with | some (.bor _) => true | _ => false) = true
          rw [q2]
        obtain ⟨o2, q4⟩ := (e.isb i).mp this
        have hA : A i = adr (vs[i]?.getD .non) := e.bor i o2 q4
        rw [q1] at hA
        exact absurd (hA.trans q3) (h3 i o2 (by rw [q4]; rfl))
      · by_cases z3 : (H p).all notTbl = true
        · rw [if_pos ⟨z1, z2, z3⟩, hu] at h2
          cases h2
        · rw [hu] at z3
          cases u with
          | tbl ps => exact ⟨ps, rfl⟩
          | _ => exact absurd rfl z3
    · cases q : F p with
      | none => exact absurd q z1
      | some u =>
        have := e.le0 p u q
        rw [h1.none] at this
        cases this

end G
/-! C3: try: body / except A as n: .. / except B as n: .. -/
namespace G
open PySem PySem.Spec L2 PyProof.Rows
abbrev TSx := Addr → Value → Option Addr → TS
/-- behind a clause its name is gone -/
def goneD (i : Nat) (D : Ends) : Ends := { nx := fun σ H => D.nx (σ.set i none) H, rt := D.rt, bk := fun σ H => D.bk (σ.set i none) H, ct := fun σ H => D.ct (σ.set i none) H }
def wHds (K : PySem.W.Frag) (i : Nat) (Wo : WX) (D : Ends) : List (Value × TSx) → WX
  | [] => Wo
  | q :: r => fun cls d σ H => ∃ b, PySem.W.exmOne K cls q.1 = some b ∧ (b = true → ∀ a, H a = none → q.2 a cls d (goneD i D) (σ.set i (some (.ref a))) H) ∧ (b = false → wHds K i Wo D r cls d σ H)
inductive HdsA (X : Cx) (n : Str) : List ExceptHandler → List (Value × TSx) → Prop
  | nil : HdsA X n [] []
  | cons {x : Str} {c : Value} {ts : TSx} {b : Stmt} {bs : List Stmt} {p1 p2 : Pos} {hs : List ExceptHandler} {l : List (Value × TSx)} (nm : Names X x c)
      (st : ∀ (a : Addr) (oe : Obj) (cls : Value) (d : Option Addr) (pn : List (Addr × Obj)), Zc cls d oe → (∃ vs, oe.data = .fields vs) → PSs (X.suite a ((a, oe) :: pn)) (b :: bs) (ts a cls d)) (r : HdsA X n hs l) :
      HdsA X n (.ExceptHandler (some (.Name x p1)) (some n) (b :: bs) p2 :: hs) ((c, ts) :: l)
section
variable {X : Cx} {n : Str} {i : Nat} {body : List Stmt} {h₀ : ExceptHandler} {hs : List ExceptHandler} {l : List (Value × TSx)} {pos : Pos} {tb : WX → TS} {Wo : WX}
theorem ps_try_hds (stk : X.stack = X.env :: X.outer) (frm : X.env.frame = some X.env.locals) (nd : X.N.Nodup) (ni : X.N[i]? = some n) (nl : X.env.kindOf n = some .local) (tk : Takes X Wo)
    (bd : ∀ (W : WX) (pn : List (Addr × Obj)) (xe : Value → Shared → Prop), Takes (X.tr pn xe) W → PassesOwn (model X.prog X.w) X.A X.env xe → PSs (X.tr pn xe) body (tb W)) (hh : HdsA X n (h₀ :: hs) l) :
    PS X (.Try body (h₀ :: hs) [] [] pos) (fun D σ H => tb (wHds X.K i Wo D l) D σ H) := by
  constructor
  intro pins s σ H D I want
  have ok := I.ok
  have frames : X.A.frames = some (X.env :: X.outer) := by rw [ok.frames, stk]
  refine wpAny_Try_except (wpAny_mono ((bd (wHds X.K i Wo D l) (X.pn ++ pins) (fun e s1 => wpAny (model X.prog X.w) X.A (noteFrame e X.env)
    (fun _ s2 => wpAny (model X.prog X.w) X.A (setFlight e none) (fun _ s3 => wpAny (model X.prog X.w) X.A (handleBy e X.env (h₀ :: hs)) (L2.SP X pins D) X.xe s3) X.xe s2) X.xe s1)
    (fun u s' up => ?_) PassesOwn.looking).run [] s σ H D (I.toTry _) want) (fun f s1 out => ?_) fun _ _ z => z)
  rotate_left
  · match f, out with
    | .next, ⟨σ1, H1, J, q⟩ => exact wpAny_execs_nil ⟨σ1, H1, J.ofTry ok, q⟩
    | .brk, ⟨σ1, H1, J, q⟩ => exact ⟨σ1, H1, J.ofTry ok, q⟩
    | .cont, ⟨σ1, H1, J, q⟩ => exact ⟨σ1, H1, J.ofTry ok, q⟩
    | .ret u, ⟨v, σ1, H1, J, r, q⟩ => exact ⟨v, σ1, H1, J.ofTry ok, r, q⟩
  obtain ⟨a, B, sI, pins1, σ1, H1, cls, d, rfl, JT, nb, upS, sky, na, os, ag, w⟩ := up
  have J : Inv X pins σ1 H1 sI := JT.ofTry ok
  rw [show (X.tr (X.pn ++ pins) _).stack = X.env :: X.outer from stk] at sky
  show wpAny (model X.prog X.w) X.A (noteFrame (.ref a) X.env) _ _ _
  refine Sky.land Zc.steady frames frm sky fun g1 fly1 up1 => ?_
  have J1 : Inv X pins σ1 H1 { s' with heap := g1 } := J.landed nb fly1.1 (upS.trans up1) os ag
  obtain ⟨o1, vs1, at1, z1, dt1⟩ := fly1.there
  have out_ : a ∉ frs (X.env :: X.outer) := fun hm => by
    obtain ⟨_, o2, e2, no⟩ := fly1.2.2.1.mem hm
    rw [at1] at e2
    cases e2
    exact no _ dt1
  have nL : a ≠ X.env.locals := fun z => out_ (List.mem_filterMap.mpr ⟨X.env, List.mem_cons_self, by rw [frm, z]⟩)
  have nF : a ∉ X.fs := fun hm => by
    obtain ⟨e, he, q⟩ := List.mem_filterMap.mp hm
    exact out_ (List.mem_filterMap.mpr ⟨e, List.mem_cons_of_mem _ he, q⟩)
  have S1 := J1.suite at1 dt1 na nL nF
  have each : ∀ {hs' : List ExceptHandler} {l' : List (Value × TSx)}, HdsA X n hs' l' → wHds X.K i Wo D l' cls d σ1 H1 → wpAny (model X.prog X.w) X.A (handleBy (.ref a) X.env hs') (L2.SP X pins D) X.xe { s' with heap := g1 } := by
    intro hs' l' hk
    induction hk with
    | nil =>
      intro w
      refine wpAny_handleBy_nil ?_
      obtain ⟨_, _, _, o2, vs2, T, _, _, at2, _, dt2, tr2, _⟩ := id fly1
      unfold PySem.passOn
      refine wpAny_bind (wpAny_field at2 dt2 tr2 ?_)
      rw [if_neg (by simp)]
      have on : wpAny (model X.prog X.w) X.A (setFlight (.ref a) X.env.frame) (fun _ s2 => wpAny (model X.prog X.w) X.A (throw (.ref a) : Sem Flow) (L2.SP X pins D) X.xe s2) X.xe { s' with heap := g1 } := by
        rw [frm]
        exact HandSPX.setFlight_upZ fly1 fun g2 held up2 => wpAny_throw (tk _ _ ⟨a, B, sI, pins, σ1, H1, cls, d, rfl, J, nb, (upS.trans up1).trans up2, .inr (.inr (by rw [stk]; exact held)), na, os, ag, w⟩)
      first
        | exact wpAny_bind (wpAny_pure (wpAny_bind on))
        | exact wpAny_bind on
    | @cons x c ts b bs p1 p2 hs2 l2 nm st r ih =>
      intro w
      obtain ⟨t, ht, yes, no⟩ := w
      refine wpAny_handleBy_cons (codeAny_handlers_test ?_) (fun q => by cases q)
      have LT : PySem.W.Looks (model X.prog X.w) g1 (typeOf (.ref a)) cls := fun A Q E s k q => wpAny_typeOf_ref (k _ _ at1) (by rw [z1.1]; exact q)
      have named : ∀ {Q : Value → Shared → Prop} {E : Value → Shared → Prop}, Q c { s' with heap := g1 } → wpAny (model X.prog X.w) (X.A.mark (some (.ref a))) (eval (.Name x p1) X.env) Q E { s' with heap := g1 } := fun {Q E} q => by
        obtain ⟨gl, db, m | ⟨m, bv, nn⟩⟩ := nm
        · exact ld_glob (X := X.suite a ((a, o1) :: (X.pn ++ pins))) S1 gl m q db
        · exact ld_blt (X := X.suite a ((a, o1) :: (X.pn ++ pins))) S1 gl m bv q nn db
      refine named ((PySem.W.exm_one (M := model X.prog X.w) J1.kIn LT ht).here ?_)
      cases t with
      | false => exact ih (no rfl)
      | true =>
        refine codeAny_handlers_suite_as (HandSPX.lands_againZ fly1 fun g2 fly2 up2 => ?_)
        have J2 : Inv X pins σ1 H1 { s' with heap := g2 } := J.landed nb fly2.1 ((upS.trans up1).trans up2) os ag
        obtain ⟨o2, vs2, at2, z2, dt2⟩ := fly2.there
        refine store_ok (X := X.suite a ((a, o2) :: (X.pn ++ pins))) (v := .ref a) (J2.suite at2 dt2 na nL nF) nd ni (.inl nl) rfl (fun s3 S3 => ?_) (.inr nl)
        refine wpAny_mono ((st a o2 cls d (X.pn ++ pins) z2 ⟨_, dt2⟩).run [] s3 _ H1 _ S3 (yes rfl a na)) (fun f s4 out => ?_) fun _ _ z => z.elim
        have close : ∀ {σ4 : L2.St} {H4 : Hp} {Q : Shared → Prop}, Inv (X.suite a ((a, o2) :: (X.pn ++ pins))) [] σ4 H4 s4 → (∀ s5, Inv X pins (σ4.set i none) H4 s5 → Q s5) →
            wpAny (model X.prog X.w) X.A (do bindName X.env n .none; unbindBehindTheSuite X.env n p2) (fun _ s5 => Q s5) X.xe s4 := fun S4 k => gone_ok (S4.unsuite ok) nd ni nl k
        match f, out with
        | .next, ⟨σ4, H4, S4, q⟩ => exact close S4 fun s5 J5 => ⟨_, _, J5, q⟩
        | .brk, ⟨σ4, H4, S4, q⟩ => exact close S4 fun s5 J5 => ⟨_, _, J5, q⟩
        | .cont, ⟨σ4, H4, S4, q⟩ => exact close S4 fun s5 J5 => ⟨_, _, J5, q⟩
        | .ret u, ⟨v, σ4, H4, S4, r4, q⟩ => exact close S4 fun s5 J5 => ⟨_, _, _, J5, r4, q⟩
  exact each hh w
end
end G
/-! C5: a lambda without parameters, called by the def that got it; no guard stands. -/
namespace G
open PySem PySem.Spec L2 PyProof.Rows LamX
section
variable {X : Cx} {pins : List (Addr × Obj)} {σ : L2.St} {H : Hp} {s : Shared}
/-- the context of the def that got the lambda -/
abbrev gotCx (X : Cx) (Ng : List Str) (qg : Str) (sg : Scope) (g : Addr) (cdg : Value) (s : Shared) (H : Hp) (Eg : XK) : Cx := cxOf (L2.CX X.prog X.w) X.prog X.w X.K X.mg X.base Ng qg sg g cdg X.A X.stack s H Eg
theorem act {Eg : XK} {Ng : List Str} {qg : Str} {sg : Scope} {g f c' : Addr} {cdg pm ctv : Value} {params : Arguments} {body : Expr} {scope : Scope} {k i : Nat} {a : Str} {pn : List (Addr × Obj)} {xe : Value → Shared → Prop} {W : WX} {E : XK} {tb : TE} {p1 p2 : Pos}
    (I : Inv X pins σ H s) (gd : X.A.guards = some []) (LS : LamS X.env.scope scope) (at_ : s.heap.get? f = some (PySem.W.kla_obj "<lambda>" (X.env.qual ++ "<lambda>") params body scope (cloFrom X.env.cells scope.names []) pm c' ctv)) (no : H f = none) (nfr : f ∉ frs X.stack)
    (args : bindArgs (PySem.W.kla_fn "<lambda>" (X.env.qual ++ "<lambda>") params body scope (cloFrom X.env.cells scope.names []) pm (.ref c') ctv) ⟨[], []⟩ = pure [])
    (tk : Takes ((gotCx X Ng qg sg g cdg s H Eg).tr pn xe) W) (hW : ∀ cls d σ' H', E cls d H' → W cls d σ' H') (room : Room (k + 1) (X.A.deeper (envOfC qg sg s.heap.objs.size g cdg)))
    (bd : ∀ (A : Around) (outer : List PySem.Env) (s : Shared) (H : Hp), A.guards = some [] → Room k (A.deeper (lamEnv X scope s.heap.objs.size f c')) → PE (lamCx X A outer s H E scope f c') body tb)
    (hN : Ng[i]? = some a) (hv : Vis sg a) (h1 : (a == ("__debug__" : Str)) = false) (h2 : (a == ("__classdict__" : Str)) = false) :
    PE ((gotCx X Ng qg sg g cdg s H Eg).tr pn xe) (.Call (.Name a p1) [] [] p2) (fun σ' H' Q => (σ'.length = Ng.length → σ'[i]? = some (some (.ref f))) ∧ H' c' = some (CodeO c' (X.env.qual ++ "<lambda>")) ∧ tb σ H' Q) := by
  constructor
  intro pins' s' σ' H' Q J ⟨hs, hc, ht⟩
  have hs := hs J.len
  refine wpAny_Call_Name_kw (thn ((pe_var (pos := p1) (i := i) hN hv h1 h2).run pins' s' σ' H' (fun v H1 => v = .ref f ∧ H1 = H') J ⟨.ref f, hs, rfl, rfl⟩) fun u s1 ⟨v, H1, J1, r1, e1, e2⟩ => ?_)
  subst e1
  rw [e2] at J1
  obtain rfl : u = Value.ref f := r1
  have un : Un (frs X.stack) [] H H' s.heap s1.heap := J1.base
  have there := un.keep f _ at_ no nfr (fun z => by cases z)
  refine PySem.W.callWith_F0 ⟨_, _, _, _, there⟩ ?_
  obtain ⟨⟨oc, vs, t, c1, c2, c3⟩, _, _⟩ := J1.hok c' _ hc
  have run : codeAny (model X.prog X.w) (X.A.deeper (envOfC qg sg s.heap.objs.size g cdg)) (.call (.ref f) ⟨[], []⟩) (CR (L2.CX X.prog X.w) (envOfC qg sg s.heap.objs.size g cdg :: X.stack) X.prog X.w H' s1 Q E) s1 := by
    refine PySem.W.kla_callFunE room.depth there rfl LS.co LS.gen rfl ⟨c', oc, vs, t, rfl, c1, c2, c3⟩ ?_
    rw [args]
    refine wpAny_pure (wpAny_newFunctionEnv (fun y hy => (LS.own y hy).2) (fun y hy => by cases hy) (fun h₁ hns hsb => ⟨J1.nolimit.fresh _ hsb, ?_⟩) LS.kind)
    show codeAny _ _ (.expr body (lamEnv X scope s1.heap.objs.size f c')) _ _
    have kp : ∀ b o, s1.heap.get? b = some o → h₁.get? b = some o := fun b o e => hsb.extBut b o (Nat.ne_of_lt (Heap.lt_size e)) (Heap.get?_push_of_some _ e)
    have J2 : Inv (lamCx X (X.A.deeper (envOfC qg sg s.heap.objs.size g cdg)) (envOfC qg sg s.heap.objs.size g cdg :: X.stack) s1 H' E scope f c') [] σ H' { s1 with heap := h₁, toks := s1.toks + ([] : List (Str × Value)).length } :=
      lam_start2 I LS J1.env0 room.hd un hns kp
    refine PySem.W.kla_codeExpr (wpAny_mono ((bd (X.A.deeper (envOfC qg sg s.heap.objs.size g cdg)) _ s1 H' gd (room.deeper _)).run [] _ _ H' Q J2 ht) (fun v s2 out => ?_) fun _ _ z => z)
    obtain ⟨w, H2, J3, rv, q⟩ := out
    exact ⟨w, H2, J3.os, J3.bare, J3.base, J3.hok, rv, q⟩
  refine wpAny_call (codeAny_mono run fun r s2 out => ?_)
  match r, out with
  | .error e, out => exact passes_call tk hW pins' σ' H' s1 e s2 J1 out
  | .ok (.ret u), out => exact J1.after out
  | .ok .next, out => exact out.elim
  | .ok .brk, out => exact out.elim
  | .ok .cont, out => exact out.elim
end
end G
/-! C6: the body of the def that tells what a lambda gives, or the words of its refusal. -/
namespace G
open PySem PySem.Spec L2 PyProof.Rows LamX
section
variable {X : Cx} {P : PP} {Γ : Fns} {Xp : XP}
theorem ps_no {Z : Cx} {ss : List Stmt} : PSs Z ss (fun _ _ _ => False) := ⟨fun _ _ _ _ _ _ h => h.elim⟩
/-- what the lambda's body may let out -/
def outX (P : PP) (Xp : XP) : XK := fun cls d H => ∃ σ, WXo P Xp cls d σ H
/-- the exception wish of a told call -/
def xpSaid (Γ : Fns) (k : Nat) (R : PostE) : XP := fun x env => (2 ≤ x.c ∧ x.c ≤ 17 ∧ x.fs = []) ∧ ∀ ad, Γ.h k ad x fun r => R r env
/-- what is told -/
def tTold (v : Bool) (p : V) : (V → Hp → Prop) → Hp → Prop := fun Q H => ∀ a, H a = none →
  match v with
  | true => Q (.ref a) (upd H a (.tup [.str "told", p]))
  | false => Q (.ref a) (upd H a (.lst [p]))
def retE (v : Bool) (fo : Str) (p1 p2 p3 : Pos) (k1 k2 : Nat) : Expr := match v with
  | true => .Tuple [.Constant (.str "told") k1 p1, .Name fo p2] k2 p3
  | false => .List [.Name fo p2] p3
theorem pe_ret {Z : Cx} {v : Bool} {fo : Str} {p1 p2 p3 : Pos} {k1 k2 i : Nat} (h : PE Z (.Name fo p2) (tVar i)) : PE Z (retE v fo p1 p2 p3 k1 k2) (fun σ H Q => ∃ p, σ[i]? = some (some p) ∧ tTold v p Q H) := by
  cases v with
  | false =>
    refine pe_imp (pe_lst (pa_cons h pa_nil rfl)) fun σ H Q ⟨p, hp, q⟩ => ?_
    exact ⟨p, hp, by rw [sizeLine_eq]; simp, fun a ha => q a ha⟩
  | true =>
    refine pe_imp (pe_tup (pa_cons pe_str (pa_cons h pa_nil rfl) rfl)) fun σ H Q ⟨p, hp, q⟩ => ?_
    exact ⟨p, hp, by rw [sizeLine_eq]; simp, fun a ha => q a ha⟩
end
end G
/-! C7: the maker's things lent to a lambda's body, back again. -/
namespace G
open PySem PySem.Spec L2 PyProof.Rows LamX
def lendV (σ : L2.St) : List V := σ.map fun o => o.getD .non
def lendA (env : Env) : List EV := (lendE env).map fun o => o.getD (.val .non)
def lend1 : Option EV → Option EV
  | some (.own o) => some (.bor o)
  | x => x
theorem lendE_map : ∀ env : Env, lendE env = env.map lend1
  | [] => rfl
  | none :: r => by simp only [lendE, lend1, lendE_map r, List.map_cons]
  | some (.own o) :: r => by simp only [lendE, lend1, lendE_map r, List.map_cons]
  | some (.bor o) :: r => by simp only [lendE, lend1, lendE_map r, List.map_cons]
  | some (.val o) :: r => by simp only [lendE, lend1, lendE_map r, List.map_cons]
section
variable {env : Env} {i : Nat} {o : OV} {d : D} {A : Nat → Addr}
theorem lend_get : (lendE env)[i]? = env[i]?.map lend1 := by rw [lendE_map, List.getElem?_map]
theorem lend_bor : (lendE env)[i]? = some (some (.bor o)) ↔ ownish env[i]? = some o := by
  rw [lend_get]
  cases env[i]? with
  | none => exact ⟨(fun z => nomatch z), (fun z => nomatch z)⟩
  | some x => cases x with
    | none => exact ⟨(fun z => nomatch z), (fun z => nomatch z)⟩
    | some y => cases y with
      | val d => exact ⟨(fun z => nomatch z), (fun z => nomatch z)⟩
      | own u => exact ⟨fun z => by cases z; rfl, fun z => by cases z; rfl⟩
      | bor u => exact ⟨fun z => by cases z; rfl, fun z => by cases z; rfl⟩
theorem lend_own : ownish (lendE env)[i]? = ownish env[i]? := by
  rw [lend_get]
  cases env[i]? with
  | none => rfl
  | some x => cases x with
    | none => rfl
    | some y => cases y <;> rfl
theorem lend_val : (lendE env)[i]? = some (some (.val d)) ↔ env[i]? = some (some (.val d)) := by
  rw [lend_get]
  cases env[i]? with
  | none => exact ⟨(fun z => nomatch z), (fun z => nomatch z)⟩
  | some x => cases x with
    | none => exact ⟨(fun z => nomatch z), (fun z => nomatch z)⟩
    | some y => cases y with
      | val d => exact Iff.rfl
      | own u => exact ⟨(fun z => nomatch z), (fun z => nomatch z)⟩
      | bor u => exact ⟨(fun z => nomatch z), (fun z => nomatch z)⟩
theorem ownsE_mem : ∀ {env : Env} {k i : Nat}, i ∈ ownsE k env → ∃ j o, i = k + j ∧ ownish env[j]? = some o
  | [], _, _, h => by simp [ownsE] at h
  | x :: r, k, i, h => by
    have up : i ∈ ownsE (k + 1) r → ∃ j o, i = k + j ∧ ownish (x :: r)[j]? = some o := fun h => by
      obtain ⟨j, o, e, q⟩ := ownsE_mem h
      exact ⟨j + 1, o, by omega, by simpa using q⟩
    cases x with
    | none => exact up h
    | some y => cases y with
      | val d => exact up h
      | own o =>
        rcases List.mem_cons.mp h with e | h
        · exact ⟨0, o, e, rfl⟩
        · exact up h
      | bor o =>
        rcases List.mem_cons.mp h with e | h
        · exact ⟨0, o, e, rfl⟩
        · exact up h
theorem mem_ownsE : ∀ {env : Env} {k j : Nat} {o : OV}, ownish env[j]? = some o → k + j ∈ ownsE k env
  | [], _, _, _, h => by simp [ownish] at h
  | x :: r, k, 0, o, h => by
    rcases ownish_some h with e | e
    · simp at e; subst e; exact List.mem_cons_self ..
    · simp at e; subst e; exact List.mem_cons_self ..
  | x :: r, k, j + 1, o, h => by
    have q := mem_ownsE (k := k + 1) (env := r) (j := j) (o := o) (by simpa using h)
    have q : k + (j + 1) ∈ ownsE (k + 1) r := by rw [show k + (j + 1) = k + 1 + j by omega]; exact q
    cases x with
    | none => exact q
    | some y => cases y with
      | val d => exact q
      | own o => exact List.mem_cons_of_mem _ q
      | bor o => exact List.mem_cons_of_mem _ q
theorem ownsE_nd : ∀ {env : Env} {k : Nat}, (ownsE k env).Nodup
  | [], _ => by simp [ownsE]
  | x :: r, k => by
    have t := ownsE_nd (env := r) (k := k + 1)
    have n : k ∉ ownsE (k + 1) r := fun z => by
      obtain ⟨j, _, e, _⟩ := ownsE_mem z
      omega
    cases x with
    | none => exact t
    | some y => cases y with
      | val d => exact t
      | own o => exact List.nodup_cons.mpr ⟨n, t⟩
      | bor o => exact List.nodup_cons.mpr ⟨n, t⟩
theorem bor_lend : ∀ {env : Env} {σ : L2.St} {k : Nat}, env.length = σ.length → (∀ (i : Nat) (o : OV), ownish env[i]? = some o → σ[i]? = some (some (.ref (A (k + i))))) → borA (lendV σ) (lendA env) = (ownsE k env).map A
  | [], [], _, _, _ => rfl
  | [], _ :: _, _, h, _ => by simp at h
  | _ :: _, [], _, h, _ => by simp at h
  | x :: r, y :: s, k, hl, h => by
    have t : borA (lendV s) (lendA r) = (ownsE (k + 1) r).map A := bor_lend (by simpa using hl) fun i o q => by
      have := h (i + 1) o (by simpa using q)
      rw [show k + 1 + i = k + (i + 1) by omega]
      simpa using this
    cases x with
    | none => exact t
    | some z => cases z with
      | val d => exact t
      | own o =>
        have := h 0 o rfl
        simp at this
        subst this
        show A k :: borA (lendV s) (lendA r) = A k :: _
        rw [t]
      | bor o =>
        have := h 0 o rfl
        simp at this
        subst this
        show A k :: borA (lendV s) (lendA r) = A k :: _
        rw [t]
theorem lendA_get : (lendA env)[i]? = some (.bor o) ↔ (lendE env)[i]? = some (some (.bor o)) := by
  unfold lendA
  rw [List.getElem?_map]
  cases (lendE env)[i]? with
  | none => exact ⟨(fun z => nomatch z), (fun z => nomatch z)⟩
  | some x => cases x with
    | none => exact ⟨(fun z => nomatch z), (fun z => nomatch z)⟩
    | some y => exact ⟨fun z => by cases z; rfl, fun z => by cases z; rfl⟩
end
section
variable {P : PP} {A A' : Nat → Addr} {σ σ' : L2.St} {H H' : Hp} {env env' : Env} {F F' : Hp}
/-- what the lambda's body may take: all that the maker holds is lent -/
abbrev lendP (L : Lay) (F H : Hp) (σ : L2.St) (env : Env) : PP := bodyP L F H (lendV σ) (lendA env)
theorem ER.bor_lend (e : ER P A σ H env F) : borA (lendV σ) (lendA env) = (ownsE 0 env).map A := G.bor_lend e.len fun i o q => by rw [Nat.zero_add]; exact (e.own i o q).1
theorem er_lend (e : ER P A σ H env F) : ER (lendP P.L F H σ env) A σ H (lendE env) F := by
  refine ⟨e.sub, LeH.refl F, fun a o q => ?_, by rw [lendE_map, List.length_map]; exact e.len, fun i d q => e.val i d (lend_val.mp q), fun i o q => ?_, fun i j o u q1 q2 n => e.ne i j o u (by rw [← lend_own]; exact q1) (by rw [← lend_own]; exact q2) n, fun i o q => ?_, fun i => ?_, ⟨e.tb.tabs, e.tb.nf, fun a ps q => ?_⟩⟩
  · have q : (if F a = none ∧ a ∉ borA (lendV σ) (lendA env) ∧ (H a).all notTbl = true then H a else none) = some o := q
    split at q
    · rename_i z
      exact ⟨q, z.1⟩
    · cases q
  · rw [lend_own] at q
    obtain ⟨h1, h2, h3⟩ := e.own i o q
    refine ⟨h1, h2, ?_⟩
    show (if F (A i) = none ∧ A i ∉ borA (lendV σ) (lendA env) ∧ (H (A i)).all notTbl = true then H (A i) else none) = none
    rw [e.bor_lend]
    refine if_neg fun z => z.2.1 (List.mem_map.mpr ⟨i, ?_, rfl⟩)
    have := mem_ownsE (k := 0) q
    rwa [Nat.zero_add] at this
  · obtain ⟨h1, _, _⟩ := e.own i o (lend_bor.mp q)
    show A i = adr ((lendV σ)[i]?.getD .non)
    unfold lendV
    rw [List.getElem?_map, h1]
    rfl
  · show (match (lendA env)[i]? with | some (.bor _) => true | _ => false) = true ↔ _
    constructor
    · intro h
      split at h
      · rename_i o q
        exact ⟨o, lendA_get.mp q⟩
      · cases h
    · rintro ⟨o, q⟩
      rw [lendA_get.mpr q]
  · have q : (if F a = none ∧ a ∉ borA (lendV σ) (lendA env) ∧ (H a).all notTbl = true then H a else none) = some (.tbl ps) := q
    split at q
    · rename_i z
      rw [q] at z
      cases z.2.2
    · cases q
theorem lend_len (e : ER P A σ H env F) : (lendV σ).length = (lendA env).length := by
  unfold lendV lendA
  rw [List.length_map, List.length_map, lendE_map, List.length_map]
  exact e.len.symm
theorem owns_hi : ∀ i ∈ ownsE 0 env, ∃ o, ownish env[i]? = some o := fun i h => by
  obtain ⟨j, o, e, q⟩ := ownsE_mem h
  rw [Nat.zero_add] at e
  exact ⟨o, by rw [e]; exact q⟩
/-- all is back -/
theorem er_unlend (e : ER P A σ H env F) (e' : ER (lendP P.L F H σ env) A' σ' H' env' F') : LeH F F' ∧ ER P A σ H' (G.back env (ownsE 0 env) (bors env')) F' := by
  obtain ⟨h1, h2, h3, h4, h5⟩ := er_end (lend_len e) e'
  rw [e.bor_lend] at h3 h4
  exact ⟨h1, e.back ownsE_nd owns_hi h1 h2 h3 h4 h5⟩
theorem er_unlendV (e : ER P A σ H env F) {v : V} {r : RV} (e' : ER (lendP P.L F H σ env) A' σ' H' env' F') (rv : RVr (lendP P.L F H σ env) A' H' env' F' v r) : LeH F F' ∧ EXv P σ H' (G.back env (ownsE 0 env) (bors env')) F' v r := by
  obtain ⟨h1, h2, h3, h4, h5⟩ := er_end (lend_len e) e'
  have h6 := ret_end (lend_len e) e' rv
  rw [e.bor_lend] at h3 h4
  exact ⟨h1, e.ret ownsE_nd owns_hi h1 h2 h3 h4 h5 h6⟩
/-- what is told -/
theorem told_of {v : Bool} {r : RV} {x : V} {Q : VK} {R : PostE} (ex : EXv P σ H env F x r) (hR : R (toldR v r) env) (k : ∀ r env' u H' F', R r env' → LeH F F' → EXv P σ H' env' F' u r → Q u H') : tTold v x Q H := by
  obtain ⟨F1, m1, rp, e1⟩ := ex.freeze
  intro a ha
  cases v with
  | true =>
    have m2 : LeH F1 (upd F1 a (.tup [.str "told", x])) := LeH.upd (e1.nop ha)
    exact k _ env (.ref a) _ _ hR (m1.trans m2) ((e1.froze (o := .tup [.str "told", x]) ha).pure ⟨a, [.str "told", x], rfl, .inl (.inl upd_same), .str "told", [x], rfl, ⟨rfl, by decide +kernel⟩, x, [], rfl, Rep.mono m2 _ _ rp, rfl⟩)
  | false =>
    exact k _ env (.ref a) _ _ hR m1 (e1.fresh (ds := [r.toD]) ha ⟨x, [], rfl, rp, rfl⟩)
end
end G
/-! A9: the look that a tree stands for a piece of the text; every tree that passes keeps its meaning. -/
namespace G
open PySem PySem.Spec L2
mutual
def beqD : D → D → Bool
  | .non, .non => true
  | .bl a, .bl b => a == b
  | .int a, .int b => a == b
  | .str a, .str b => decide (a = b)
  | .tup a, .tup b => beqDs a b
  | .lst a, .lst b => beqDs a b
  | .fn a, .fn b => a == b
  | .dct a ks vs, .dct b ls ws => a == b && decide (ks = ls) && beqDs vs ws
  | _, _ => false
def beqDs : List D → List D → Bool
  | [], [] => true
  | x :: xs, y :: ys => beqD x y && beqDs xs ys
  | _, _ => false
end
mutual
theorem beqD_eq : ∀ {a b : D}, beqD a b = true → a = b
  | .non, b, h => by cases b <;> simp [beqD] at h; rfl
  | .bl _, b, h => by cases b <;> simp [beqD] at h; rw [h]
  | .int _, b, h => by cases b <;> simp [beqD] at h; rw [h]
  | .str _, b, h => by cases b <;> simp [beqD] at h; rw [h]
  | .tup _, b, h => by cases b <;> simp [beqD] at h; rw [beqDs_eq h]
  | .lst _, b, h => by cases b <;> simp [beqD] at h; rw [beqDs_eq h]
  | .fn _, b, h => by cases b <;> simp [beqD] at h; rw [h]
  | .dct _ _ _, b, h => by cases b <;> simp [beqD] at h; obtain ⟨⟨rfl, rfl⟩, h⟩ := h; rw [beqDs_eq h]
  | .ins _ _, b, h => by cases b <;> simp [beqD] at h
  | .scr _, b, h => by cases b <;> simp [beqD] at h
  | .exn _, b, h => by cases b <;> simp [beqD] at h
theorem beqDs_eq : ∀ {a b : List D}, beqDs a b = true → a = b
  | [], b, h => by cases b <;> simp [beqDs] at h; rfl
  | _ :: _, b, h => by
    cases b with
    | nil => simp [beqDs] at h
    | cons y ys =>
      simp only [beqDs, Bool.and_eq_true] at h
      rw [beqD_eq h.1, beqDs_eq h.2]
end
def beqSrc : List (Sum Nat D) → List (Sum Nat D) → Bool
  | [], [] => true
  | .inl a :: r, .inl b :: s => a == b && beqSrc r s
  | .inr a :: r, .inr b :: s => beqD a b && beqSrc r s
  | _, _ => false
theorem beqSrc_eq : ∀ {a b : List (Sum Nat D)}, beqSrc a b = true → a = b
  | [], b, h => by cases b <;> simp [beqSrc] at h; rfl
  | .inl a :: r, b, h => by
    cases b with
    | nil => simp [beqSrc] at h
    | cons y ys => cases y with
      | inl b => simp only [beqSrc, Bool.and_eq_true, beq_iff_eq] at h; rw [h.1, beqSrc_eq h.2]
      | inr b => simp [beqSrc] at h
  | .inr a :: r, b, h => by
    cases b with
    | nil => simp [beqSrc] at h
    | cons y ys => cases y with
      | inl b => simp [beqSrc] at h
      | inr b => simp only [beqSrc, Bool.and_eq_true] at h; rw [beqD_eq h.1, beqSrc_eq h.2]
/-- what is known of the text's names -/
structure Tx where
  fnm : List (Nat × Str)
  pats : List (Nat × Nat × List Str × List (Sum Nat D))
  cst : List (Str × D)
  nog : List Str
  /-- class, name, the def of __init__ -/
  cls : List (Nat × Str × Nat) := []
  /-- class, method, def -/
  mth : List (Nat × Str × Nat) := []
  /-- types that isinstance asks for -/
  tys : List Ty := []
  /-- lambdas may be made here -/
  lam : Bool := false
  /-- class, the def of its __eq__ -/
  own : List (Nat × Nat) := []
  /-- special method, class, its def -/
  spc : List (SP × Nat × Nat) := []
  /-- exception classes without fields, their names -/
  exc : List (Nat × Str) := []
  /-- defs that tell what a lambda gives -/
  said : List SaidT := []
  /-- defs that are called with a held exception -/
  hot : HU := ⟨[], [], []⟩
  /-- class, the def of its __repr__: called within a tuple's repr -/
  nst : List (Nat × Nat) := []
/-- no calls are made -/
def Tx.fr (U : Tx) : Bool := U.pats.isEmpty && U.nog.isEmpty && !U.lam
def visB (sc : Scope) (x : Str) : Bool := match sc.names.lookup x with
  | some .local => true
  | some .cell => true
  | some .free => true
  | _ => false
def locB (sc : Scope) (x : Str) : Bool := match sc.names.lookup x with
  | some .local => true
  | some .cell => true
  | _ => false
def gloB (sc : Scope) (x : Str) : Bool := match sc.names.lookup x with
  | some .globalImplicit => !(x == ("__debug__" : Str)) && !(x == ("__name__" : Str))
  | _ => false
def visN (sc : Scope) (N : List Str) (x : Str) (i : Nat) : Bool := decide (N[i]? = some x) && visB sc x && !(x == ("__debug__" : Str)) && !(x == ("__classdict__" : Str))
def constD : Const → D → Bool
  | .none, .non => true
  | .bool a, .bl b => a == b
  | .int a, .int b => a == b
  | .str a, .str b => decide (a = b) && decide (a.length ≤ line)
  | _, _ => false
/-- neither a slice nor a starred one nor a set's display -/
def okF : Expr → Bool
  | .Slice .. => false
  | .Starred .. => false
  | .Set .. => false
  | _ => true
/-- its truth is its value's truth -/
def okTv : Expr → Bool
  | .UnaryOp .Not _ _ => false
  | .BoolOp .. => false
  | .IfExp .. => false
  | .Compare .. => false
  | _ => true
def noComp : Expr → Bool
  | .ListComp .. => false
  | .SetComp .. => false
  | .DictComp .. => false
  | _ => true
def noTup : Expr → Bool
  | .Tuple .. => false
  | _ => true
def biN : BI → Option Str
  | .len => some "len"
  | .max2 => some "max"
  | .min2 => some "min"
  | .max1 => some "max"
  | .min1 => some "min"
  | .sum => some "sum"
  | .all => some "all"
  | .any => some "any"
  | .repr => some "repr"
  | .lst => some "list"
  | .tup => some "tuple"
  | .str => some "str"
  | .int => some "int"
  | .sorted => some "sorted"
theorem bi_boot : ∀ b n u, biN b = some n → biV b = some u → bootBuiltins n = some u := by
  intro b n u h1 h2
  cases b <;> first
    | (cases h1; cases h2; decide +kernel)
    | cases h1
mutual
def chkTg (st : Str → Bool) (N : List Str) : Tg → Expr → Bool
  | .nm i, .Name x _ => decide (N[i]? = some x) && st x
  | .tp ts, .Tuple es _ _ => chkTgs st N ts es
  | _, _ => false
def chkTgs (st : Str → Bool) (N : List Str) : List Tg → List Expr → Bool
  | [], [] => true
  | t :: ts, e :: es => chkTg st N t e && okF e && chkTgs st N ts es
  | _, _ => false
end
def ownsOf (N : List Str) (own : List Nat) : List (Str × Nat) := own.map fun i => (N[i]?.getD "", i)
def kwNames : List Keyword → Option (List Str)
  | [] => some []
  | ⟨some n, _, _⟩ :: r => (kwNames r).map fun t => n :: t
  | _ :: _ => none
def kwVals : List Keyword → List Expr
  | [] => []
  | ⟨_, v, _⟩ :: r => v :: kwVals r
def patIn (U : Tx) (f np : Nat) (kws : List Str) (src : List (Sum Nat D)) : Bool := U.pats.any fun q => q.1 == f && q.2.1 == np && decide (q.2.2.1 = kws) && beqSrc q.2.2.2 src
def isYes : T → Bool
  | .yes => true
  | _ => false
def asCallN : Expr → Option (Str × Pos × List Expr × List Keyword × Pos)
  | .Call (.Name g p) es kws pos => some (g, p, es, kws, pos)
  | _ => none
def asCallA : Expr → Option (Expr × Str × Pos × List Expr × Pos)
  | .Call (.Attribute z m apos) es [] pos => some (z, m, apos, es, pos)
  | _ => none
def asAttr : Expr → Option (Expr × Str × Pos)
  | .Attribute z m p => some (z, m, p)
  | _ => none
def asName : Expr → Option (Str × Pos)
  | .Name g p => some (g, p)
  | _ => none
def asSlc : Expr → Option (Expr × Option Expr × Option Expr × Pos × Pos)
  | .Subscript x (.Slice l h none p2) pos => some (x, l, h, p2, pos)
  | _ => none
def asRev : Expr → Option (Expr × Nat × Pos × Pos × Pos × Pos)
  | .Subscript x (.Slice none none (some (.UnaryOp .USub (.Constant (.int i) k p1) p2)) p3) pos => if i = 1 then some (x, k, p1, p2, p3, pos) else none
  | _ => none
def asFst : Expr → Option (List Expr × Pos)
  | .JoinedStr (v1 :: v2 :: r) pos => some (v1 :: v2 :: r, pos)
  | _ => none
def asFmt : Expr → Option (Expr × Pos)
  | .FormattedValue e i none pos => if i = -1 then some (e, pos) else none
  | _ => none
theorem asCallN_eq {e : Expr} {g p es kws pos} (h : asCallN e = some (g, p, es, kws, pos)) : e = .Call (.Name g p) es kws pos := by unfold asCallN at h; split at h <;> simp at h; obtain ⟨rfl, rfl, rfl, rfl, rfl⟩ := h; rfl
theorem asCallA_eq {e : Expr} {z m apos es pos} (h : asCallA e = some (z, m, apos, es, pos)) : e = .Call (.Attribute z m apos) es [] pos := by unfold asCallA at h; split at h <;> simp at h; obtain ⟨rfl, rfl, rfl, rfl, rfl⟩ := h; rfl
theorem asAttr_eq {e : Expr} {z m p} (h : asAttr e = some (z, m, p)) : e = .Attribute z m p := by unfold asAttr at h; split at h <;> simp at h; obtain ⟨rfl, rfl, rfl⟩ := h; rfl
theorem asName_eq {e : Expr} {g p} (h : asName e = some (g, p)) : e = .Name g p := by unfold asName at h; split at h <;> simp at h; obtain ⟨rfl, rfl⟩ := h; rfl
theorem asSlc_eq {e : Expr} {x l h p2 pos} (q : asSlc e = some (x, l, h, p2, pos)) : e = .Subscript x (.Slice l h none p2) pos := by unfold asSlc at q; split at q <;> simp at q; obtain ⟨rfl, rfl, rfl, rfl, rfl⟩ := q; rfl
theorem asRev_eq {e : Expr} {x k p1 p2 p3 pos} (q : asRev e = some (x, k, p1, p2, p3, pos)) : e = .Subscript x (.Slice none none (some (.UnaryOp .USub (.Constant (.int 1) k p1) p2)) p3) pos := by
  unfold asRev at q
  split at q
  · split at q
    · rename_i hi
      simp at q; obtain ⟨rfl, rfl, rfl, rfl, rfl, rfl⟩ := q; rw [hi]
    · cases q
  · cases q
theorem asFst_eq {e : Expr} {vs pos} (q : asFst e = some (vs, pos)) : ∃ v1 v2 r, vs = v1 :: v2 :: r ∧ e = .JoinedStr (v1 :: v2 :: r) pos := by unfold asFst at q; split at q <;> simp at q; obtain ⟨rfl, rfl⟩ := q; exact ⟨_, _, _, rfl, rfl⟩
theorem asFmt_eq {e : Expr} {x pos} (q : asFmt e = some (x, pos)) : e = .FormattedValue x (-1) none pos := by
  unfold asFmt at q
  split at q
  · split at q
    · rename_i hi
      simp at q; obtain ⟨rfl, rfl⟩ := q; rw [hi]
    · cases q
  · cases q
def asDsp : Expr → Option (Option (Expr × Expr) × Pos)
  | .Dict [] [] pos => some (none, pos)
  | .Dict [some x] [y] pos => some (some (x, y), pos)
  | _ => none
theorem asDsp_eq0 {e : Expr} {pos} (q : asDsp e = some (none, pos)) : e = .Dict [] [] pos := by unfold asDsp at q; split at q <;> simp at q; obtain rfl := q; rfl
theorem asDsp_eq1 {e x y : Expr} {pos} (q : asDsp e = some (some (x, y), pos)) : e = .Dict [some x] [y] pos := by unfold asDsp at q; split at q <;> simp at q; obtain ⟨⟨rfl, rfl⟩, rfl⟩ := q; rfl
def keyB : L2.Key → Expr → Bool
  | .inl i, .Constant (.int j) _ _ => i == j
  | .inr s, .Constant (.str r) _ _ => decide (s = r)
  | _, _ => false
def cnsB : D → Expr → Bool
  | d, .Constant c _ _ => constD c d
  | _, _ => false
def isTupE : Expr → Bool
  | .Tuple .. => true
  | _ => false
/-- the name of a type that is asked for -/
def tyNm : Ty → Option Str
  | .int => some "int"
  | .bool => some "bool"
  | .str => some "str"
  | .lst => some "list"
  | .tup => some "tuple"
  | .dct => some "dict"
  | .cls _ => none
def tyB (U : Tx) (sc : Scope) (t : Ty) (y : Expr) : Bool := match asName y with
  | some (g, _) => gloB sc g && (match t with
    | .cls c => U.cls.any fun q => q.1 == c && decide (q.2.1 = g)
    | _ => decide (tyNm t = some g) && U.nog.contains g)
  | none => false
/-- sorted(x, key=lambda ..) -/
def asSrt : Expr → Option (Pos × Expr × Arguments × Expr × Scope × Pos × Pos × Pos)
  | .Call (.Name g p) [x] [⟨some h, .Lambda params body scope lpos, kpos⟩] pos => if g = "sorted" ∧ h = "key" then some (p, x, params, body, scope, lpos, kpos, pos) else none
  | _ => none
theorem asSrt_eq {e : Expr} {p x params body scope lpos kpos pos} (q : asSrt e = some (p, x, params, body, scope, lpos, kpos, pos)) : e = .Call (.Name "sorted" p) [x] [⟨some "key", .Lambda params body scope lpos, kpos⟩] pos := by
  unfold asSrt at q
  split at q
  · split at q
    · rename_i z
      simp at q; obtain ⟨rfl, rfl, rfl, rfl, rfl, rfl, rfl, rfl⟩ := q; rw [z.1, z.2]
    · cases q
  · cases q
/-- f(lambda: ..) -/
def asSaidC : Expr → Option (Str × Pos × Arguments × Expr × Scope × Pos × Pos)
  | .Call (.Name g p) [.Lambda params body scope lpos] [] pos => some (g, p, params, body, scope, lpos, pos)
  | _ => none
theorem asSaidC_eq {e : Expr} {g p params body scope lpos pos} (q : asSaidC e = some (g, p, params, body, scope, lpos, pos)) : e = .Call (.Name g p) [.Lambda params body scope lpos] [] pos := by
  unfold asSaidC at q
  split at q <;> simp at q
  obtain ⟨rfl, rfl, rfl, rfl, rfl, rfl, rfl⟩ := q
  rfl
def noPar : Arguments → Bool
  | ⟨[], [], none, [], [], none, []⟩ => true
  | _ => false
theorem noPar_eq {p : Arguments} (h : noPar p = true) : p = ⟨[], [], none, [], [], none, []⟩ := by
  unfold noPar at h
  split at h
  · rfl
  · cases h
def srtB (N : List Str) (kf : KF) (sc : Scope) (params : Arguments) (body : Expr) (scope : Scope) : Bool := match onePar params with
  | some g => lamPB sc scope g && dunB g && (match kf with
    | .at1 => decide (asAt1 body = some g)
    | .wn w => (match asWn body with
      | some (y, g') => decide (g' = g) && dunB y && decide (N[w]? = some y) && decide (scope.names.lookup y = some .free)
      | none => false))
  | none => false
/-- list(range(x)), tuple(range(x)) -/
def asLrg : Expr → Option (Str × Pos × Str × Pos × Expr × Pos × Pos)
  | .Call (.Name g p) [.Call (.Name r p2) [x] [] q2] [] pos => some (g, p, r, p2, x, q2, pos)
  | _ => none
theorem asLrg_eq {e : Expr} {g p r p2 x q2 pos} (q : asLrg e = some (g, p, r, p2, x, q2, pos)) : e = .Call (.Name g p) [.Call (.Name r p2) [x] [] q2] [] pos := by
  unfold asLrg at q
  split at q <;> simp at q
  obtain ⟨rfl, rfl, rfl, rfl, rfl, rfl, rfl⟩ := q
  rfl
/-- f(x, k=y) -/
def asKw1 : Expr → Option (Str × Pos × Expr × Str × Expr × Pos × Pos)
  | .Call (.Name g p) [x] [⟨some h, y, kpos⟩] pos => some (g, p, x, h, y, kpos, pos)
  | _ => none
theorem asKw1_eq {e : Expr} {g p x h y kpos pos} (q : asKw1 e = some (g, p, x, h, y, kpos, pos)) : e = .Call (.Name g p) [x] [⟨some h, y, kpos⟩] pos := by
  unfold asKw1 at q
  split at q <;> simp at q
  obtain ⟨rfl, rfl, rfl, rfl, rfl, rfl, rfl⟩ := q
  rfl
def bmN : BM → Str
  | .upper => "upper"
  | .join => "join"
  | .split => "split"
  | .count => "count"
  | .index => "index"
  | .part => "partition"
mutual
def chkE (U : Tx) (N : List Str) : E → Scope → Expr → Bool
  | .var i, sc, .Name x _ => visN sc N x i
  | .ref i, sc, .Name x _ => visN sc N x i
  | .con d, sc, .Constant c _ _ => constD c d
  | .con d, sc, .Name x _ => gloB sc x && U.cst.any fun q => decide (q.1 = x) && beqD q.2 d
  | .bin op a b, sc, .BinOp x op' y _ => decide (op = op') && chkE U N a sc x && chkE U N b sc y
  | .neg a, sc, .UnaryOp .USub x _ => chkE U N a sc x
  | .cmp op a b, sc, .Compare x [op'] [y] _ => decide (op = op') && chkE U N a sc x && chkE U N b sc y && okF y
  | .chn o1 o2 a b c, sc, .Compare x [p1, p2] [y, z] _ => decide (o1 = p1) && decide (o2 = p2) && chkE U N a sc x && chkE U N b sc y && chkE U N c sc z && okF z
  | .and a b, sc, .BoolOp .And (x :: y :: r) pos => chkE U N a sc x && chkE U N b sc (match r with | [] => y | _ => .BoolOp .And (y :: r) pos)
  | .or a b, sc, .BoolOp .Or (x :: y :: r) pos => chkE U N a sc x && chkE U N b sc (match r with | [] => y | _ => .BoolOp .Or (y :: r) pos)
  | .not a, sc, .UnaryOp .Not x _ => chkE U N a sc x
  | .ite c a b, sc, .IfExp z x y _ => chkT U N c sc z && chkE U N a sc x && chkE U N b sc y
  | .tup ms, sc, .Tuple es _ _ => chkEs U N ms sc es && decide (ms.length ≤ 1000)
  | .lst ms, sc, .List es _ => chkEs U N ms sc es && decide (ms.length ≤ 1000)
  | .sub a b, sc, .Subscript x y _ => chkE U N a sc x && chkE U N b sc y && okF y
  | .call f ms src, sc, .Call (.Name g _) es kws _ => (U.fnm.any fun q => q.1 == f && decide (q.2 = g)) && gloB sc g && chkEs U N ms sc (es ++ kwVals kws) && (match kwNames kws with
    | some ks => patIn U f es.length ks src
    | none => false)
  | .bi b ms, sc, .Call (.Name g _) (x :: es) [] _ => decide (biN b = some g) && gloB sc g && U.nog.contains g && chkEs U N ms sc (x :: es)
  | .make c f ms src, sc, e => match asCallN e with
    | some (g, _, es, kws, _) => (U.cls.any fun q => q.1 == c && decide (q.2.1 = g) && q.2.2 == f) && gloB sc g && chkEs U N ms sc (es ++ kwVals kws) && (match kwNames kws with
      | some ks => patIn U f (es.length + 1) ks (.inl 0 :: shSrc src)
      | none => false)
    | none => false
  | .meth c f a ms src, sc, e => match asCallA e with
    | some (z, m, apos, es, pos) => (U.mth.any fun q => q.1 == c && decide (q.2.1 = m) && q.2.2 == f) && okB z && (apos.endLine == pos.line) && decide (es.length < 30) && chkE U N a sc z && chkEs U N ms sc es && patIn U f (es.length + 1) [] src && !((clsNm c).contains m)
    | none => false
  | .cv i fs ms, sc, e => match asCallN e with
    | some (g, _, x :: es, [], _) => visN sc N g i && chkEs U N ms sc (x :: es) && fs.all fun f => patIn U f ms.length [] (idSrc ms.length)
    | _ => false
  | .bm m a ms, sc, e => match asCallA e with
    | some (z, n, apos, es, pos) => decide (n = bmN m) && okB z && (apos.endLine == pos.line) && chkE U N a sc z && (match m with
      | .upper => es.isEmpty && (match ms with | [] => true | _ => false)
      | .join => chkEs U N ms sc es && es.length == 1
      | .split => chkEs U N ms sc es && es.length == 1
      | .part => chkEs U N ms sc es && es.length == 1
      | _ => false)
    | none => false
  | .fst ms, sc, e => match asFst e with
    | some (vs, _) => chkF U N ms sc vs
    | none => false
  | .dsp ks ds, sc, e => match asDsp e with
    | some (none, _) => (match ks, ds with | [], [] => true | _, _ => false)
    | some (some (x, y), _) => (match ks, ds with | [k], [d] => keyB k x && cnsB d y | _, _ => false)
    | none => false
  | .isi a t, sc, e => match asCallN e with
    | some (g, _, [x, y], [], _) => decide (g = ("isinstance" : Str)) && gloB sc g && U.nog.contains g && chkE U N a sc x && okF x && okF y && tyB U sc t y && U.tys.contains t
    | _ => false
  | .fld a f, sc, e => match asAttr e with
    | some (z, g, _) => decide (g = attrNm f) && okB z && chkE U N a sc z
    | none => false
  | .lm m i ms, sc, e => match asCallA e with
    | some (z, n, apos, es, pos) => (match asName z with
      | some (g, _) => decide (n = lmN m) && visN sc N g i && (apos.endLine == pos.line) && decide (es.length < 30) && chkEs U N ms sc es && (match m with
        | .pop => es.isEmpty
        | _ => !es.isEmpty)
      | none => false)
    | none => false
  | .own neg c f a b, sc, .Compare x [op'] [y] _ => decide (op' = opN neg) && (U.own.any fun q => q.1 == c && q.2 == f) && patIn U f 2 [] [.inl 0, .inl 1] && chkE U N a sc x && chkE U N b sc y && okF y
  | .spc k c f a, sc, e => match asCallN e with
    | some (g, _, [x], [], _) => decide (g = spG k) && gloB sc g && U.nog.contains g && (U.spc.any fun q => decide (q.1 = k) && (q.2.1 == c && q.2.2 == f)) && patIn U f 1 [] [.inl 0] && chkE U N a sc x && okF x
    | _ => false
  | .hot (.said v f) a, sc, e => match asSaidC e with
    | some (g, _, params, body, scope, _, _) => U.lam && gloB sc g && noPar params && LamX.lamSB sc scope && (U.said.any fun q => decide (q.v = v) && (q.f == f && decide (q.gs = g)) && U.hot.hfs.any fun z => z.1 == f && decide (z.2 = q.kx)) && chkE { U with lam := false } N a scope body
    | none => false
  | .hot (.nst c f) a, sc, e => match asCallN e with
    | some (g, _, [x], [], _) => decide (g = ("repr" : Str)) && gloB sc g && U.nog.contains g && (U.nst.any fun q => q.1 == c && q.2 == f) && chkE U N a sc x && okF x
    | _ => false
  | .srk kf a, sc, e => match asSrt e with
    | some (_, x, params, body, scope, _, _, _) => U.lam && gloB sc "sorted" && U.nog.contains "sorted" && chkE U N a sc x && okF x && srtB N kf sc params body scope
    | none => false
  | .xb k ms, sc, e => match k with
    | .lrng => (match asLrg e with
      | some (g, _, r, _, x, _, _) => decide (g = ("list" : Str)) && decide (r = ("range" : Str)) && gloB sc g && gloB sc r && U.nog.contains g && U.nog.contains r && chkEs U N ms sc [x]
      | none => false)
    | .trng => (match asLrg e with
      | some (g, _, r, _, x, _, _) => decide (g = ("tuple" : Str)) && decide (r = ("range" : Str)) && gloB sc g && gloB sc r && U.nog.contains g && U.nog.contains r && chkEs U N ms sc [x]
      | none => false)
    | .sum2 => (match asKw1 e with
      | some (g, _, x, h, y, _, _) => decide (g = ("sum" : Str)) && decide (h = ("start" : Str)) && gloB sc g && U.nog.contains g && chkEs U N ms sc [x, y]
      | none => false)
    | .min0 d => (match asKw1 e with
      | some (g, _, x, h, y, _, _) => decide (g = ("min" : Str)) && decide (h = ("default" : Str)) && gloB sc g && U.nog.contains g && cnsB d y && chkEs U N ms sc [x]
      | none => false)
  | .slc a lo hi, sc, e => match asSlc e with
    | some (x, l, h, _, _) => chkE U N a sc x && chkO U N lo sc l && chkO U N hi sc h
    | none => false
  | .rev a, sc, e => match asRev e with
    | some (x, _) => chkE U N a sc x
    | none => false
  | .lc elt t it cond own, sc, .ListComp x [⟨tg, iter, ifs, 0⟩] scope _ => chkI U N it sc tg iter && okF iter && chkTg (locB scope) N t tg && (slots t).all (fun i => own.contains i) && blkC N sc scope (ownsOf N own) &&
      chkE U N elt (relS scope sc) x && (match ifs with
        | [] => isYes cond
        | [c] => chkT U N cond (relS scope sc) c
        | _ => false)
  | _, _, _ => false
def chkT (U : Tx) (N : List Str) : T → Scope → Expr → Bool
  | .tv e, sc, x => chkE U N e sc x && okTv x
  | .and a b, sc, .BoolOp .And (x :: y :: r) pos => chkT U N a sc x && chkT U N b sc (match r with | [] => y | _ => .BoolOp .And (y :: r) pos)
  | .or a b, sc, .BoolOp .Or (x :: y :: r) pos => chkT U N a sc x && chkT U N b sc (match r with | [] => y | _ => .BoolOp .Or (y :: r) pos)
  | .not a, sc, .UnaryOp .Not x _ => chkT U N a sc x
  | .cmp op a b, sc, .Compare x [op'] [y] _ => decide (op = op') && chkE U N a sc x && chkE U N b sc y && okF y
  | .own neg c f a b, sc, .Compare x [op'] [y] _ => decide (op' = opN neg) && (U.own.any fun q => q.1 == c && q.2 == f) && patIn U f 2 [] [.inl 0, .inl 1] && chkE U N a sc x && chkE U N b sc y && okF y
  | .chn o1 o2 a b c, sc, .Compare x [p1, p2] [y, z] _ => decide (o1 = p1) && decide (o2 = p2) && chkE U N a sc x && chkE U N b sc y && chkE U N c sc z && okF z
  | _, _, _ => false
def chkI (U : Tx) (N : List Str) : I → Scope → Expr → Expr → Bool
  | .it e, sc, tg, x => chkE U N e sc x
  | .enm ms, sc, tg, e => match asCallN e with
    | some (g, _, [x], [], _) => decide (g = ("enumerate" : Str)) && gloB sc g && U.nog.contains g && chkEs U N ms sc [x] && isTupE tg
    | _ => false
  | .zip ms, sc, tg, e => match asCallN e with
    | some (g, _, [x, y], [], _) => decide (g = ("zip" : Str)) && gloB sc g && U.nog.contains g && chkEs U N ms sc [x, y] && isTupE tg
    | some (g, _, [x, y, z], [], _) => decide (g = ("zip" : Str)) && gloB sc g && U.nog.contains g && chkEs U N ms sc [x, y, z] && isTupE tg
    | _ => false
  | .rvd ms, sc, tg, e => match asCallN e with
    | some (g, _, [x], [], _) => decide (g = ("reversed" : Str)) && gloB sc g && U.nog.contains g && chkEs U N ms sc [x]
    | _ => false
  | .rng ms, sc, tg, .Call (.Name g _) es [] _ => decide (g = ("range" : Str)) && gloB sc g && U.nog.contains g && chkEs U N ms sc es && (es.length == 1 || es.length == 2)
  | _, _, _, _ => false
def chkF (U : Tx) (N : List Str) : List E → Scope → List Expr → Bool
  | [], sc, [] => true
  | m :: ms, sc, e :: es => (match asFmt e with
    | some (x, _) => chkE U N m sc x
    | none => partE e && chkE U N m sc e) && chkF U N ms sc es
  | _, _, _ => false
def chkO (U : Tx) (N : List Str) : O → Scope → Option Expr → Bool
  | .no, sc, none => true
  | .at e, sc, some x => chkE U N e sc x
  | _, _, _ => false
def chkEs (U : Tx) (N : List Str) : List E → Scope → List Expr → Bool
  | [], sc, [] => true
  | m :: ms, sc, e :: es => chkE U N m sc e && okF e && chkEs U N ms sc es
  | _, _, _ => false
end
theorem chk_xb0 {U : Tx} {N : List Str} {k : XBK} {ms : List E} {sc : Scope} {e : Expr} (h1 : asLrg e = none) (h2 : asKw1 e = none) : chkE U N (.xb k ms) sc e = false := by
  simp only [chkE, h1, h2]
  split <;> rfl
end G
/-! B0: what the looks give; every expression that passes keeps its meaning. -/
namespace G
open PySem PySem.Spec L2

/-! the def that tells -/
def actB (q : SaidT) : Stmt → Bool
  | .Assign [.Name g _] (.Call (.Name h _) [] [] _) _ => decide (g = q.fo) && decide (h = q.ac)
  | _ => false
theorem actB_eq {q : SaidT} {s : Stmt} (h : actB q s = true) : ∃ p1 p2 p3 p4, s = .Assign [.Name q.fo p1] (.Call (.Name q.ac p2) [] [] p3) p4 := by
  unfold actB at h
  split at h
  · simp only [Bool.and_eq_true, decide_eq_true_eq] at h
    obtain ⟨rfl, rfl⟩ := h
    exact ⟨_, _, _, _, rfl⟩
  · cases h
def hd1B (q : SaidT) : ExceptHandler → Bool
  | .ExceptHandler (some (.Name c _)) (some n) [.Return (some (.Call (.Name k _) [.Name e _] [] _)) _] _ => decide (c = q.ce) && decide (n = q.ex) && decide (k = q.kx) && decide (e = q.ex)
  | _ => false
theorem hd1B_eq {q : SaidT} {s : ExceptHandler} (h : hd1B q s = true) : ∃ p1 p2 p3 p4 p5 p6, s = .ExceptHandler (some (.Name q.ce p1)) (some q.ex) [.Return (some (.Call (.Name q.kx p2) [.Name q.ex p3] [] p4)) p5] p6 := by
  unfold hd1B at h
  split at h
  · simp only [Bool.and_eq_true, decide_eq_true_eq] at h
    obtain ⟨⟨⟨rfl, rfl⟩, rfl⟩, rfl⟩ := h
    exact ⟨_, _, _, _, _, _, rfl⟩
  · cases h
def hd2B (q : SaidT) : ExceptHandler → Bool
  | .ExceptHandler (some (.Name c _)) (some n) (_ :: _) _ => decide (c = q.cm) && decide (n = q.ex)
  | _ => false
theorem hd2B_eq {q : SaidT} {s : ExceptHandler} (h : hd2B q s = true) : ∃ p1 b bs p2, s = .ExceptHandler (some (.Name q.cm p1)) (some q.ex) (b :: bs) p2 := by
  unfold hd2B at h
  split at h
  · simp only [Bool.and_eq_true, decide_eq_true_eq] at h
    obtain ⟨rfl, rfl⟩ := h
    exact ⟨_, _, _, _, rfl⟩
  · cases h
def retB (q : SaidT) : Stmt → Bool
  | .Return (some (.Tuple [.Constant (.str t) _ _, .Name g _] _ _)) _ => q.v && decide (t = "told") && decide (g = q.fo)
  | .Return (some (.List [.Name g _] _)) _ => !q.v && decide (g = q.fo)
  | _ => false
theorem retB_eq {q : SaidT} {s : Stmt} (h : retB q s = true) : ∃ p1 p2 p3 k1 k2 p4, s = .Return (some (retE q.v q.fo p1 p2 p3 k1 k2)) p4 := by
  unfold retB at h
  split at h
  · simp only [Bool.and_eq_true, decide_eq_true_eq] at h
    obtain ⟨⟨h1, rfl⟩, rfl⟩ := h
    rw [h1]
    exact ⟨_, _, _, _, _, _, rfl⟩
  · rename_i g p p2 p3
    simp only [Bool.and_eq_true, decide_eq_true_eq, Bool.not_eq_true'] at h
    obtain ⟨h1, rfl⟩ := h
    rw [h1]
    exact ⟨p, p, p2, 0, 0, _, rfl⟩
  · cases h
def bodyB (q : SaidT) : List Stmt → Bool
  | [.Try [a] [h1, h2] [] [] _, r] => actB q a && hd1B q h1 && hd2B q h2 && retB q r
  | _ => false
theorem bodyB_eq {q : SaidT} {ss : List Stmt} (h : bodyB q ss = true) : ∃ a h1 h2 p r, ss = [.Try [a] [h1, h2] [] [] p, r] ∧ actB q a = true ∧ hd1B q h1 = true ∧ hd2B q h2 = true ∧ retB q r = true := by
  unfold bodyB at h
  split at h
  · simp only [Bool.and_eq_true] at h
    exact ⟨_, _, _, _, _, rfl, h.1.1.1, h.1.1.2, h.1.2, h.2⟩
  · cases h
def saidSh (q : SaidT) (sg : Scope) (bg : List Stmt) : Bool := bodyB q bg && (decide (q.N[0]? = some q.ac) && decide (q.N[q.io]? = some q.fo) && decide (q.N[q.ie]? = some q.ex)) &&
  (visN sg q.N q.ac 0 && visN sg q.N q.fo q.io && visN sg q.N q.ex q.ie) && (locB sg q.fo && decide (sg.names.lookup q.ex = some .local)) && (gloB sg q.kx && gloB sg q.ce && gloB sg q.cm)
structure SaidOk (L : Lay) (mg : Str → Option Value) (q : SaidT) : Prop where
  ex : ∃ (g CE CM : Addr) (pg : Arguments) (bg : List Stmt) (sg : Scope) (dV kV doc pm cdv ct oc : Value) (an od : Option Addr) (osl : Array (Option Value)),
    mg q.gs = some (.ref g) ∧ PySem.W.keepIn L.K (.ref g) = true ∧ L.K.lookup g = some ⟨oc, od, .func (PySem.W.fnOf q.gs q.gs pg bg sg dV kV doc pm an cdv ct), osl⟩ ∧ PySem.W.codeIn L.K cdv q.gs = true ∧ L2.Binds L.K (PySem.W.fnOf q.gs q.gs pg bg sg dV kV doc pm an cdv ct) [q.ac] [] ∧
    FnScope q.N [q.ac] sg ∧ saidSh q sg bg = true ∧ mg q.ce = some (.ref CE) ∧ (∀ c ∈ plX, PySem.W.exmOne L.K (.ref (L.xc c)) (.ref CE) = some true) ∧ mg q.cm = some (.ref CM)
/-- what is true of the module; calls n deep -/
structure GR (U : Tx) (L : Lay) (t : Text) (n : Nat) (p : Program) (w : World) (mg : Str → Option Value) (base : Heap) : Prop where
  nog : ∀ x ∈ U.nog, mg x = none
  cst : ∀ q ∈ U.cst, ∃ u v, mg q.1 = some u ∧ RelV v u ∧ ∀ F, Rep L F q.2 v
  fns : ∀ q ∈ U.fnm, mg q.2 = some (.ref (L.fn q.1))
  dfs : ∀ q ∈ U.pats, PySem.W.keepIn L.K (.ref (L.fn q.1)) = true ∧ ∃ fd ps, DefOk p w L.K mg base (4 * n) (L.fn q.1) fd ps (lift L (W t n q.1)) ∧ BindOk L.K fd ps q.2.1 q.2.2.1 q.2.2.2
  cls : ∀ q ∈ U.cls, Mk L.K (L.cls q.1) (L.fn q.2.2) ∧ L.kc q.1 = true ∧ mg q.2.1 = some (.ref (L.cls q.1))
  mth : ∀ q ∈ U.mth, Meth L.K (L.cls q.1) q.2.1 (L.fn q.2.2)
  cok : ∀ c, L.kc c = true → ClsOk L c
  isi : ∀ y ∈ U.tys, IsiOk L y
  ow : ∀ q ∈ U.own, OwnB L.K (L.cls q.1) (L.fn q.2)
  sp : ∀ q ∈ U.spc, SpcB L.K (L.cls q.2.1) (L.fn q.2.2) q.1
  xc : ∀ q ∈ U.exc, XcOk L.K mg (L.xc q.1) q.2
  hc : ∀ q ∈ U.hot.hfs, mg q.2 = some (.ref (L.fn q.1)) ∧ PySem.W.keepIn L.K (.ref (L.fn q.1)) = true ∧ ∃ fd g, HotOk p w mg base L n (L.fn q.1) fd [g] (Wh t n q.1) ∧ L2.Binds L.K fd [g] []
  sd : ∀ q ∈ U.said, SaidOk L mg q
  nr : ∀ q ∈ U.nst, SpcB L.K (L.cls q.1) (L.fn q.2) .repr ∧ ∃ fd ps, DefOkG (fun g => ∃ l, g = some l) p w L.K mg base (4 * n) (L.fn q.2) fd ps (lift L (W t n q.2)) ∧ BindOk L.K fd ps 1 [] [.inl 0]
  sm : ∃ o, base.get? sysModules = some o
  hw : w = L.w
  tu : ∀ p ∈ L.T, ∀ q ∈ L.T, p.1 = q.1 → p.2 = q.2
  tb : ∀ q ∈ L.C, LamX.TabB base mg q.1 q.2.1
theorem GR.withLam0 {U : Tx} {L : Lay} {t : Text} {n : Nat} {p : Program} {w : World} {mg : Str → Option Value} {base : Heap} (G : GR U L t n p w mg base) : GR { U with lam := false } L t n p w mg base :=
  ⟨G.nog, G.cst, G.fns, G.dfs, G.cls, G.mth, G.cok, G.isi, G.ow, G.sp, G.xc, G.hc, G.sd, G.nr, G.sm, G.hw, G.tu, G.tb⟩
/-- .. of a context -/
structure CO (U : Tx) (L : Lay) (t : Text) (n : Nat) (N : List Str) (sc : Scope) (X : Cx) : Prop where
  hN : X.N = N
  nd : X.N.Nodup
  sc : X.env.scope = sc
  K : X.K = L.K
  calm : X.calm = true
  gd : U.fr = false → X.A.guards = some []
  room : Room (4 * n + 1) X.A
  pas : PassesOwn (model X.prog X.w) X.A X.env X.xe
  gr : GR U L t n X.prog X.w X.mg X.base
  lm : U.lam = true → Room (4 * n + 3) X.A ∧ ∃ c Pt, X.env.code = .ref c ∧ (c, Pt, X.env.qual ++ "<lambda>") ∈ L.C
abbrev Gam (t : Text) (n : Nat) : Fns := ⟨W t n, none, Wh t n⟩

section
variable {U : Tx} {L : Lay} {t : Text} {n : Nat} {N : List Str} {sc : Scope} {X : Cx} {P : PP} {Xp : XP} {pos : Pos}
theorem star_of {env : PySem.Env} {x : Expr} {es : List Expr} (h : okF x = true) : starEach (x :: es) env = (false, eval x env) :: starEach es env := by
  cases x <;> first
    | rfl
    | (simp [okF] at h)
theorem assign_of {env : PySem.Env} {x : Expr} {es : List Expr} (h : okF x = true) : assignEach (x :: es) env = (false, assign x env) :: assignEach es env := by
  cases x <;> first
    | rfl
    | (simp [okF] at h)
theorem ix_of {y : Expr} (h : okF y = true) : PlainIx y := fun o i => by
  cases y <;> first
    | rfl
    | (simp [okF] at h)
theorem fold_of {x : Expr} {env : PySem.Env} (h : okF x = true) : ∀ u, foldedSetIterable x env u = pure u := fun u => by
  cases x <;> first
    | rfl
    | (simp [okF] at h)
theorem mark_of {op : CmpOp} {y : Expr} (h : okF y = true) : behindInMarks op y = false := by
  cases y <;> first
    | rfl
    | (simp [okF] at h)
theorem marks_of {o1 o2 : CmpOp} {y z : Expr} (h : okF z = true) : lastMarks [o1, o2] [y, z] = false := by
  show behindInMarks o2 z = false
  exact mark_of h
theorem tv_of {x : Expr} {env : PySem.Env} (h : okTv x = true) : ∀ whole, isTrue x env whole = (do let v ← whole; standAt x.pos; holding [v] (truthy v)) := fun whole => by
  cases x
  case UnaryOp op a p => cases op <;> first
    | rfl
    | (simp [okTv] at h)
  all_goals first
    | rfl
    | (simp [okTv] at h)
theorem swap_of {x : Expr} {tg : Option Expr} {l : Nat} {env : PySem.Env} (h : noComp x = true) : swapsWith x tg l env = pure false := by
  cases x <;> first
    | rfl
    | (simp [noComp] at h)
theorem swapS_of {x tg : Expr} {l : Nat} {env : PySem.Env} (h : noComp x = true) : swapsWithSole [tg] x l env = pure false := swap_of h
theorem stores_of {x tg : Expr} {env : PySem.Env} (h : noTup x = true) : swappedStores [tg] x env = pure none := by
  cases x <;> first
    | (simp [noTup] at h; done)
    | (cases tg <;> rfl)
theorem plain_args {env : PySem.Env} : ∀ {ms : List E} {es : List Expr}, chkEs U N ms sc es = true → (backTo pos (starEach es env)).any (·.1) = false
  | [], [], _ => rfl
  | [], _ :: _, h => by simp [chkEs] at h
  | _ :: _, [], h => by simp [chkEs] at h
  | m :: ms, e :: es, h => by
    simp only [chkEs, Bool.and_eq_true] at h
    rw [star_of h.1.2]
    show (false || (backTo pos (starEach es env)).any (·.1)) = false
    rw [plain_args h.2]
    rfl
theorem vis_of (c : CO U L t n N sc X) {x : Str} {i : Nat} (h : visN sc N x i = true) : PE X (.Name x pos) (tVar i) := by
  simp only [visN, Bool.and_eq_true, decide_eq_true_eq, Bool.not_eq_true'] at h
  obtain ⟨⟨⟨h1, h2⟩, h3⟩, h4⟩ := h
  refine pe_var (by rw [c.hN]; exact h1) ?_ h3 h4
  rw [c.sc]
  unfold visB at h2
  split at h2
  · exact .inl (by assumption)
  · exact .inr (.inl (by assumption))
  · exact .inr (.inr (by assumption))
  · cases h2
theorem glo_of (c : CO U L t n N sc X) {x : Str} (h : gloB sc x = true) : Gl X x ∧ (x == ("__debug__" : Str)) = false ∧ x ≠ "__name__" := by
  unfold gloB at h
  split at h
  · rename_i q
    simp only [Bool.and_eq_true, Bool.not_eq_true', beq_eq_false_iff_ne, ne_eq] at h
    refine ⟨?_, beq_eq_false_iff_ne.mpr h.1, h.2⟩
    show X.env.scope.names.lookup x = _
    rw [c.sc]
    exact q
  · cases h
theorem const_of {k : Const} {d : D} {j : Nat} (h : constD k d = true) : ∃ v, PE X (.Constant k j pos) (tC v) ∧ ∀ F, Rep P.L F d v := by
  unfold constD at h
  split at h
  · exact ⟨_, pe_non, fun F => rfl⟩
  · rw [eq_of_beq h]; exact ⟨_, pe_bl, fun F => rfl⟩
  · rw [eq_of_beq h]; exact ⟨_, pe_int, fun F => rfl⟩
  · simp only [Bool.and_eq_true, decide_eq_true_eq] at h
    obtain ⟨rfl, h⟩ := h
    exact ⟨_, pe_str, fun F => ⟨rfl, h⟩⟩
  · cases h
theorem o_any {x : Expr} {m : E} {Γ : Fns} (hV : ∀ i, m = .ref i → PE X x (tVar i)) (hE : PE X x (tE P Γ Xp m)) : PE X x (tO P Γ Xp m) := by
  by_cases h : ∃ i, m = .ref i
  · obtain ⟨i, rfl⟩ := h
    exact o_ref (hV i rfl)
  · exact o_of (fun i e => h ⟨i, e⟩) hE
theorem ref_vis (c : CO U L t n N sc X) {x : Expr} {m : E} (h : chkE U N m sc x = true) : ∀ i, m = .ref i → PE X x (tVar i) := fun i e => by
  subst e
  cases x <;> simp only [chkE] at h <;> first
    | exact vis_of c h
    | (exact absurd h (by simp))
/-- targets -/
theorem tgs_shape {st : Str → Bool} {env : PySem.Env} : ∀ {ts : List Tg} {es : List Expr}, chkTgs st N ts es = true → es.length = ts.length ∧ (assignEach es env).length = es.length ∧ (assignEach es env).findIdx? (·.1) = none
  | [], [], _ => ⟨rfl, rfl, rfl⟩
  | [], _ :: _, h => by simp [chkTgs] at h
  | _ :: _, [], h => by simp [chkTgs] at h
  | t :: ts, e :: es, h => by
    simp only [chkTgs, Bool.and_eq_true] at h
    obtain ⟨h1, h2, h3⟩ := tgs_shape (env := env) h.2
    rw [assign_of h.1.2]
    refine ⟨by rw [List.length_cons, List.length_cons, h1], by rw [List.length_cons, List.length_cons, h2], ?_⟩
    rw [List.findIdx?_cons]
    simp only [h3]
    rfl
mutual
theorem okTg {st : Str → Bool} (hN : X.N = N) (nd : X.N.Nodup) (hK : X.K = P.L.K) (hc : X.calm = true) (hst : ∀ x, st x = true → Loc X.env.scope x ∧ (X.fn x = true ∨ X.env.scope.names.lookup x = some .local)) : ∀ (g : Tg) {e : Expr}, chkTg st N g e = true → PG X e (gT P g)
  | .nm i, e, h => by
    cases e <;> simp only [chkTg] at h <;> first
      | (simp only [Bool.and_eq_true, decide_eq_true_eq] at h
         obtain ⟨h1, h2⟩ := hst _ h.2
         exact g_nm (pg_name nd (by rw [hN]; exact h.1) h1 h2))
      | (exact absurd h (by simp))
  | .tp ts, e, h => by
    cases e <;> simp only [chkTg] at h <;> first
      | (obtain ⟨h1, h2, h3⟩ := tgs_shape (env := X.env) h
         exact g_tp hK hc (okTgs hN nd hK hc hst ts h) h1 h2 h3)
      | (exact absurd h (by simp))
theorem okTgs {st : Str → Bool} (hN : X.N = N) (nd : X.N.Nodup) (hK : X.K = P.L.K) (hc : X.calm = true) (hst : ∀ x, st x = true → Loc X.env.scope x ∧ (X.fn x = true ∨ X.env.scope.names.lookup x = some .local)) : ∀ (ts : List Tg) {es : List Expr}, chkTgs st N ts es = true → PGs X es (gTs P ts)
  | [], [], _ => gs_nil
  | [], _ :: _, h => by simp [chkTgs] at h
  | _ :: _, [], h => by simp [chkTgs] at h
  | g :: ts, e :: es, h => by
    simp only [chkTgs, Bool.and_eq_true] at h
    exact gs_cons (okTg hN nd hK hc hst g h.1.1) (okTgs hN nd hK hc hst ts h.2) (by rw [assign_of h.1.2]; rfl)
end
theorem CO.hu (c : CO U L t n N sc X) : X.A.units + 150 < cLine := by have := c.room.un; omega
theorem CO.r0 (c : CO U L t n N sc X) : Room (4 * n) X.A := c.room.mono (Nat.le_succ _)
theorem CO.cok (c : CO U L t n N sc X) (hP : P.L = L) : ∀ c, P.L.kc c = true → ClsOk P.L c := by subst hP; exact c.gr.cok
theorem CO.hK (c : CO U L t n N sc X) (hP : P.L = L) : X.K = P.L.K := by subst hP; exact c.K
theorem CO.hW (c : CO U L t n N sc X) (hP : P.L = L) : X.w = P.L.w := by subst hP; exact c.gr.hw
theorem gl_nog (c : CO U L t n N sc X) {g : Str} (h : U.nog.contains g = true) : X.mg g = none := c.gr.nog g (by simpa using h)
/-- the context of a comprehension's block -/
theorem CO.block (c : CO U L t n N sc X) {s : Shared} {H : Hp} {scope : Scope} {C : Addr} {cl : List (Str × Addr)} {fp : List Addr} : CO U L t n N (relS scope sc) (X.blk s H scope (compEnvC scope cl C X.env) fp) :=
  ⟨c.hN, c.nd, by rw [← c.sc]; rfl, c.K, c.calm, c.gd, c.room, PassesOwn.never, c.gr, c.lm⟩
theorem takes_block {s : Shared} {H : Hp} {scope : Scope} {cenv : PySem.Env} {fp : List Addr} {P' : PP} : Takes (X.blk s H scope cenv fp) (WXo P' XF) := fun u s' ⟨_, _, _, _, _, _, _, _, _, _, _, _, _, _, _, _, _, _, _, _, _, z⟩ => z.elim
theorem own_slots {own : List Nat} : (ownsOf N own).map (·.2) = own := by
  induction own with
  | nil => rfl
  | cons i r ih => simp only [ownsOf, List.map_cons] at ih ⊢; rw [ih]
theorem loc_block {scope : Scope} {cenv : PySem.Env} {s : Shared} {H : Hp} {fp : List Addr} (hs : cenv.scope = relS scope sc) (hu : ∀ y ∈ scope.names, scope.names.lookup y.1 = some y.2) : ∀ x, locB scope x = true → Loc (X.blk s H scope cenv fp).env.scope x ∧ ((X.blk s H scope cenv fp).fn x = true ∨ (X.blk s H scope cenv fp).env.scope.names.lookup x = some .local) := fun x h => by
  unfold locB at h
  have keep : ∀ k, k ≠ NameKind.free → scope.names.lookup x = some k → cenv.scope.names.lookup x = some k := fun k hk q => by
    rw [hs]
    exact lookup_relS_keep hk q
  split at h
  · rename_i q
    have := keep _ (by decide) q
    exact ⟨.inl this, .inr this⟩
  · rename_i q
    have := keep _ (by decide) q
    refine ⟨.inr this, .inl ?_⟩
    show (scope.names.lookup x == some .cell) = true
    rw [q]
    rfl
  · cases h
theorem kw_of {env : PySem.Env} : ∀ {kws : List Keyword} {ks : List Str}, kwNames kws = some ks → (backToKw pos (keywordEach kws env)).all (·.1.isSome) = true ∧ (backToKw pos (keywordEach kws env)).filterMap (·.1) = ks ∧ (backToKw pos (keywordEach kws env)).any (·.1.isNone) = false ∧ (kwVals kws).length = ks.length
  | [], _, h => by cases h; exact ⟨rfl, rfl, rfl, rfl⟩
  | ⟨some g, v, p⟩ :: r, ks, h => by
    simp only [kwNames, Option.map_eq_some_iff] at h
    obtain ⟨ks', h, rfl⟩ := h
    obtain ⟨h1, h2, h3, h4⟩ := kw_of (env := env) h
    refine ⟨?_, ?_, ?_, by simp only [kwVals, List.length_cons, h4]⟩
    · show (true && (backToKw pos (keywordEach r env)).all (·.1.isSome)) = true
      rw [h1]; rfl
    · show g :: (backToKw pos (keywordEach r env)).filterMap (·.1) = g :: ks'
      rw [h2]
    · show (false || (backToKw pos (keywordEach r env)).any (·.1.isNone)) = false
      rw [h3]; rfl
  | ⟨none, v, p⟩ :: r, _, h => by cases h
theorem chkEs_split : ∀ {ms : List E} {es fs : List Expr}, chkEs U N ms sc (es ++ fs) = true → ∃ ms1 ms2, ms = ms1 ++ ms2 ∧ chkEs U N ms1 sc es = true ∧ chkEs U N ms2 sc fs = true ∧ ms1.length = es.length ∧ ms2.length = fs.length
  | ms, [], fs, h => by
    refine ⟨[], ms, rfl, rfl, h, rfl, ?_⟩
    have : ∀ (ms : List E) (fs : List Expr), chkEs U N ms sc fs = true → ms.length = fs.length := fun ms => by
      induction ms with
      | nil => intro fs h; cases fs with
        | nil => rfl
        | cons _ _ => simp [chkEs] at h
      | cons m ms ih => intro fs h; cases fs with
        | nil => simp [chkEs] at h
        | cons f fs => simp only [chkEs, Bool.and_eq_true] at h; rw [List.length_cons, List.length_cons, ih fs h.2]
    exact this ms fs h
  | [], e :: es, fs, h => by simp [chkEs] at h
  | m :: ms, e :: es, fs, h => by
    simp only [List.cons_append, chkEs, Bool.and_eq_true] at h
    obtain ⟨ms1, ms2, rfl, h1, h2, h3, h4⟩ := chkEs_split h.2
    exact ⟨m :: ms1, ms2, rfl, by simp only [chkEs, Bool.and_eq_true]; exact ⟨h.1, h1⟩, h2, by rw [List.length_cons, List.length_cons, h3], h4⟩
theorem pat_of {f np : Nat} {ks : List Str} {src : List (Sum Nat D)} (h : patIn U f np ks src = true) : ∃ q ∈ U.pats, q.1 = f ∧ q.2.1 = np ∧ q.2.2.1 = ks ∧ q.2.2.2 = src := by
  unfold patIn at h
  rw [List.any_eq_true] at h
  obtain ⟨q, hq, h⟩ := h
  simp only [Bool.and_eq_true, beq_iff_eq, decide_eq_true_eq] at h
  exact ⟨q, hq, h.1.1.1, h.1.1.2, h.1.2, beqSrc_eq h.2⟩
theorem gd_pat (c : CO U L t n N sc X) {f np : Nat} {ks : List Str} {src : List (Sum Nat D)} (h : patIn U f np ks src = true) : X.A.guards = some [] := by
  obtain ⟨q, hq, _⟩ := pat_of h
  refine c.gd ?_
  unfold Tx.fr
  cases e : U.pats with
  | nil => rw [e] at hq; cases hq
  | cons _ _ => rfl
theorem gd_nog (c : CO U L t n N sc X) {g : Str} (h : U.nog.contains g = true) : X.A.guards = some [] := by
  refine c.gd ?_
  unfold Tx.fr
  cases e : U.nog with
  | nil => rw [e] at h; simp at h
  | cons _ _ => simp
theorem gd_lam (c : CO U L t n N sc X) (h : U.lam = true) : X.A.guards = some [] := by
  refine c.gd ?_
  unfold Tx.fr
  rw [h]
  simp
end
end G
/-! C8: the call of the def that tells what a lambda gives. -/
namespace G
open PySem PySem.Spec L2 PyProof.Rows LamX
theorem bind_none0 {q : Str} {body : Expr} {scope : Scope} {cl : List (Str × Addr)} {pm cv ct : Value} : bindArgs (PySem.W.kla_fn "<lambda>" q ⟨[], [], none, [], [], none, []⟩ body scope cl pm cv ct) ⟨[], []⟩ = pure [] := by rfl
theorem room_suite {k : Nat} {A : Around} {x : Option Value} (r : Room k A) : L2H.RoomH k (A.mark x) := ⟨r.dp, r.un⟩
theorem visN_all {sc : Scope} {N : List Str} {g : Str} {i : Nat} (h : visN sc N g i = true) : N[i]? = some g ∧ Vis sc g ∧ (g == ("__debug__" : Str)) = false ∧ (g == ("__classdict__" : Str)) = false := by
  simp only [visN, Bool.and_eq_true, decide_eq_true_eq, Bool.not_eq_true'] at h
  refine ⟨h.1.1.1, ?_, h.1.2, h.2⟩
  have z := h.1.1.2
  unfold visB at z
  split at z <;> first
    | exact .inl (by assumption)
    | exact .inr (.inl (by assumption))
    | exact .inr (.inr (by assumption))
    | cases z
theorem gloB_all {sc : Scope} {g : Str} (h : gloB sc g = true) : sc.names.lookup g = some .globalImplicit ∧ (g == ("__debug__" : Str)) = false ∧ g ≠ "__name__" := by
  unfold gloB at h
  split at h
  · rename_i q
    simp only [Bool.and_eq_true, Bool.not_eq_true', beq_eq_false_iff_ne, ne_eq] at h
    exact ⟨q, beq_eq_false_iff_ne.mpr h.1, h.2⟩
  · cases h
theorem locB_all {sc : Scope} {g : Str} (h : locB sc g = true) : sc.names.lookup g = some .local ∨ sc.names.lookup g = some .cell := by
  unfold locB at h
  split at h <;> first
    | exact .inl (by assumption)
    | exact .inr (by assumption)
    | cases h
section
variable {U : Tx} {L : Lay} {t : Text} {n : Nat} {N : List Str} {sc : Scope} {X : Cx} {P : PP} {Xp : XP}
theorem e_said {v : Bool} {f : Nat} {a : E} {gs : Str} {params : Arguments} {body : Expr} {scope : Scope} {p lpos pos : Pos} (c : CO U L t n N sc X) (h1 : U.lam = true) (h2 : gloB sc gs = true) (h3 : noPar params = true) (h4 : lamSB sc scope = true)
    (h5 : (U.said.any fun q => decide (q.v = v) && (q.f == f && decide (q.gs = gs)) && U.hot.hfs.any fun z => z.1 == f && decide (z.2 = q.kx)) = true) (hP : P.L = L)
    (bd : ∀ (X' : Cx) (P' : PP) (Xp' : XP), CO { U with lam := false } L t n N scope X' → P'.L = L → Takes X' (WXo P' Xp') → PE X' body (tE P' (Gam t n) Xp' a)) :
    PE X (.Call (.Name gs p) [.Lambda params body scope lpos] [] pos) (tE P (Gam t n) Xp (.hot (.said v f) a)) := by
  simp only [List.any_eq_true, Bool.and_eq_true, decide_eq_true_eq, beq_iff_eq] at h5
  obtain ⟨q, hq, ⟨rfl, rfl, rfl⟩, ⟨z1, z2⟩, hz, rfl, rfl⟩ := h5
  obtain ⟨m1, m2, fdk, gk, m3, m4⟩ := c.gr.hc _ hz
  obtain ⟨g, CE, CM, pg, bg, sg, dV, kV, doc, pm0, cdv, ct, oc, an, od, osl, f1, f2, f3, f4, f5, Sg, f6, f7, f8, f9⟩ := (c.gr.sd q hq).ex
  obtain ⟨r1, cd, Pt, hcd, hm⟩ := c.lm h1
  rw [← c.K] at f2 f3 f4 f5 f8
  subst hP
  have hmT : (Pt, X.env.qual ++ "<lambda>") ∈ P.L.T := List.mem_map.mpr ⟨_, hm, rfl⟩
  have hu2 : ∀ p ∈ P.L.T, p.1 = Pt → p.2 = X.env.qual ++ "<lambda>" := fun p hp e => c.gr.tu p hp _ hmT e
  obtain ⟨hg, hdb, _⟩ := glo_of c h2
  have LS : LamS X.env.scope scope := by rw [c.sc]; exact lamS_by h4
  cases noPar_eq h3
  simp only [saidSh, Bool.and_eq_true, decide_eq_true_eq] at f6
  obtain ⟨⟨⟨⟨b1, ⟨b2, b3⟩, b4⟩, ⟨b5, b6⟩, b7⟩, b8, b9⟩, ⟨b10, b11⟩, b12⟩ := f6
  obtain ⟨sa, sh1, sh2, sp, sr, rfl, a1, a2, a3, a4⟩ := bodyB_eq b1
  obtain ⟨p1, p2, p3, p4, rfl⟩ := actB_eq a1
  obtain ⟨p5, p6, p7, p8, p9, p10, rfl⟩ := hd1B_eq a2
  obtain ⟨p11, sb, sbs, p12, rfl⟩ := hd2B_eq a3
  obtain ⟨p13, p14, p15, k1, k2, p16, rfl⟩ := retB_eq a4
  obtain ⟨_, v5, v5a, v5b⟩ := visN_all b5
  obtain ⟨_, v6, v6a, v6b⟩ := visN_all b6
  obtain ⟨_, v7, v7a, v7b⟩ := visN_all b7
  have v10 := gloB_all b10
  have v11 := gloB_all b11
  have v12 := gloB_all b12
  refine ⟨fun pins s σ H Q I h => ?_⟩
  obtain ⟨env, F, R, ⟨A, e⟩, w, k⟩ := h
  simp only [wE] at w
  refine wpAny_Call_Name_kw (ld_glob I hg f1 ?_ hdb)
  refine PySem.W.callWith_K (h₀ := X.base) I.ok.mod.kin f2 ?_ (by rfl) (by rfl)
  show wpAny _ _ (spliced ((false, eval (.Lambda ⟨[], [], none, [], [], none, []⟩ body scope lpos) X.env) :: backTo pos (starEach [] X.env))) _ _ s
  refine Calls.spliced_cons (lam_make2 I (c.gr.tb _ hm) hcd hmT hu2 e.tb.tabs rfl (LS.has I.ok) fun fa c' pm ctv H1 s' I1 eN T1 hf hfn hfr hco => ?_)
  refine Calls.spliced_nil ⟨I1.kIn, ?_⟩
  have e1 : ER P A σ H1 env F := e.growN eN T1
  have rc : codeAny (model X.prog X.w) X.A (.call (.ref g) ⟨[.ref fa], []⟩) (CR (L2.CX X.prog X.w) X.stack X.prog X.w H1 s' Q C8.E0) s' := by
    refine run_ofS (N := q.N) (ps := [q.ac]) (us := [.ref fa]) (vs := [.ref fa]) f3 f4 Sg (show Room (4 * n + 2 + 1) X.A from r1) I1.env0 (f5 s' [.ref fa] I1.kIn rfl) (.cons rfl .nil) rfl fun hr' => ?_
    let PL : PP := lendP P.L F H1 σ env
    let Xpl : XP := fun x env' => (2 ≤ x.c ∧ x.c ≤ 17 ∧ x.fs = []) ∧ ∀ ad, (Gam t n).h q.f ad x fun r => R r (G.back env (ownsE 0 env) (bors env'))
    let tb : WX → TS := fun W D σ' H' => (∀ cls d σ2 H2, outX PL Xpl cls d H2 → W cls d σ2 H2) ∧ (σ'.length = q.N.length → σ'[0]? = some (some (.ref fa))) ∧ H' c' = some (CodeO c' (X.env.qual ++ "<lambda>")) ∧
      tE PL (Gam t n) Xpl a σ H' (fun v H2 => D.nx (σ'.set q.io (some v)) H2)
    have nd := Sg.nd
    have body1 : ∀ (W : WX) (pn : List (Addr × Obj)) (xe : Value → Shared → Prop), Takes ((gotCx X q.N q.gs sg g cdv s' H1 C8.E0).tr pn xe) W → PassesOwn (model X.prog X.w) (gotCx X q.N q.gs sg g cdv s' H1 C8.E0).A (gotCx X q.N q.gs sg g cdv s' H1 C8.E0).env xe →
        PSs ((gotCx X q.N q.gs sg g cdv s' H1 C8.E0).tr pn xe) [.Assign [.Name q.fo p1] (.Call (.Name q.ac p2) [] [] p3) p4] (tb W) := fun W pn xe tk _ => ⟨fun pins'' s'' σ' H' D I'' hh => by
      obtain ⟨hW, i1, i2, i3⟩ := hh
      have pa := act (Eg := C8.E0) (k := 4 * n + 1) (E := outX PL Xpl) (tb := tE PL (Gam t n) Xpl a) (p1 := p2) (p2 := p3) (i := 0) (a := q.ac) I1 (gd_lam c h1) LS hf hfn hfr bind_none0 tk hW (show Room (4 * n + 1 + 1) _ from hr') (fun A' outer s2 H2 hg2 hr2 => by
        refine bd _ PL Xpl ⟨c.hN, c.nd, rfl, c.K, rfl, fun _ => hg2, hr2, passes_of rfl, c.gr.withLam0, fun z => nomatch z⟩ rfl ?_
        exact (takes_of rfl rfl rfl rfl).imp fun cls d σ3 H3 h3 => ⟨σ3, h3⟩) b2 v5 v5a v5b
      exact (pss_one (ps_set (X := (gotCx X q.N q.gs sg g cdv s' H1 C8.E0).tr pn xe) nd b3 (locB_all b8) pa rfl (.inl rfl))).run pins'' s'' σ' H' D I'' ⟨i1, i2, i3⟩⟩
    let ts1 : TSx := fun a cls d => tRet (tHot P.L q.N (Wh t n q.f) a cls d q.ie)
    let ts2 : TSx := fun _ _ _ => fun _ _ _ => False
    have hds : HdsA (gotCx X q.N q.gs sg g cdv s' H1 C8.E0) q.ex [.ExceptHandler (some (.Name q.ce p5)) (some q.ex) [.Return (some (.Call (.Name q.kx p6) [.Name q.ex p7] [] p8)) p9] p10, .ExceptHandler (some (.Name q.cm p11)) (some q.ex) (sb :: sbs) p12] [(.ref CE, ts1), (.ref CM, ts2)] :=
      .cons ⟨v11.1, v11.2.1, .inl f7⟩ (fun a oe cls d pn hz hv => pss_one (ps_ret (pe_hot (n := n) (Z := (gotCx X q.N q.gs sg g cdv s' H1 C8.E0).suite a ((a, oe) :: pn)) m3 c.K ((room_suite hr').mono (by omega)) List.mem_cons_self hz hv v10.1 m1 (by show PySem.W.keepIn X.K _ = true; rw [c.K]; exact m2) (by show L2.Binds X.K _ _ _; rw [c.K]; exact m4) b4 v7 v10.2.1 v7a v7b)))
        (.cons ⟨v12.1, v12.2.1, .inl f9⟩ (fun _ _ _ _ _ _ _ => ps_no) .nil)
    have try1 := ps_try_hds (X := gotCx X q.N q.gs sg g cdv s' H1 C8.E0) (pos := sp) (i := q.ie) (Wo := fun _ _ _ _ => False) rfl rfl nd b4 b9 takes0 body1 hds
    refine ⟨_, pss_cons try1 (pss_one (ps_ret (pe_ret (Z := gotCx X q.N q.gs sg g cdv s' H1 C8.E0) (v := q.v) (k1 := k1) (k2 := k2) (p1 := p13) (p3 := p15) (pe_var (pos := p14) b3 v6 v6a v6b)))), ?_⟩
    refine ⟨fun cls d σ2 H2 hx => ?_, fun _ => rfl, hco, lendE env, F, _, ⟨A, er_lend e1⟩, w, fun r env' u H2 F2 hR m2 ev => ?_⟩
    · obtain ⟨σ3, env', F', x, ⟨A', e'⟩, ⟨hcl, hxr⟩, ⟨q1, q2, q3⟩, hh⟩ := hx
      obtain ⟨le', e2⟩ := er_unlend e1 e'
      have hd : d = none := by
        rcases hxr with z | ⟨_, _, _, _, z, _⟩
        · exact z.2
        · exact absurd q3 z
      subst hd hcl
      refine ⟨true, f8 _ (plX_of ⟨q1, q2⟩), fun _ ad had => ⟨fun hl => ?_, x, F', _, rfl, rfl, plX_of ⟨q1, q2⟩, e2.sub, ⟨e2.tb.tabs, e2.tb.nf⟩, hh ad, fun r u F'' H'' hr m s kp tf rr => ?_⟩, fun z => nomatch z⟩
      · rw [List.length_set] at hl
        exact List.getElem?_set_self (by rw [hl]; exact (List.getElem?_eq_some_iff.mp b4).1)
      · exact k r _ u H'' F'' hr (le'.trans m) (ex_ret0 e2 m s kp tf rr)
    · obtain ⟨A', e', rv⟩ := ev
      obtain ⟨le', exv⟩ := er_unlendV e1 e' rv
      refine ⟨u, List.getElem?_set_self ?_, told_of exv hR fun r env' u H' F' hR m' ex => k r env' u H' F' hR (le'.trans m') ex⟩
      have := (List.getElem?_eq_some_iff.mp b3).1
      unfold L2.start
      rw [List.length_append, List.length_map, List.length_replicate]
      simp only [List.length_cons, List.length_nil]
      omega
  refine wpAny_call (codeAny_mono rc fun r s2 out => ?_)
  match r, out with
  | .error er, out => exact passes_call takes0 (fun _ _ _ _ z => z) pins σ H1 s' er s2 I1 out
  | .ok (.ret u), out => exact I1.after out
  | .ok .next, out => exact out.elim
  | .ok .brk, out => exact out.elim
  | .ok .cont, out => exact out.elim
end
end G
/-! B1: every expression, test, walked thing that passes the look keeps its meaning. -/
namespace G
open PySem PySem.Spec L2
def OkE (U : Tx) (L : Lay) (t : Text) (n : Nat) (N : List Str) (m : E) : Prop :=
  ∀ (X : Cx) (sc : Scope) (e : Expr), CO U L t n N sc X → chkE U N m sc e = true → ∀ (P : PP) (Xp : XP), P.L = L → Takes X (WXo P Xp) → PE X e (tE P (Gam t n) Xp m)
def OkT (U : Tx) (L : Lay) (t : Text) (n : Nat) (N : List Str) (m : T) : Prop :=
  ∀ (X : Cx) (sc : Scope) (e : Expr), CO U L t n N sc X → chkT U N m sc e = true → ∀ (P : PP) (Xp : XP), P.L = L → Takes X (WXo P Xp) → PT X e (tT P (Gam t n) Xp m)
def OkI (U : Tx) (L : Lay) (t : Text) (n : Nat) (N : List Str) (m : I) : Prop :=
  ∀ (X : Cx) (sc : Scope) (tg e : Expr), CO U L t n N sc X → chkI U N m sc tg e = true → ∀ (P : PP) (Xp : XP), P.L = L → Takes X (WXo P Xp) → PI X tg e (tI P (Gam t n) Xp m)
def OkF (U : Tx) (L : Lay) (t : Text) (n : Nat) (N : List Str) (ms : List E) : Prop :=
  ∀ (X : Cx) (sc : Scope) (es : List Expr), CO U L t n N sc X → chkF U N ms sc es = true → ∀ (P : PP) (Xp : XP), P.L = L → Takes X (WXo P Xp) → FJ X P (Gam t n) Xp es ms
def OkO (U : Tx) (L : Lay) (t : Text) (n : Nat) (N : List Str) (m : O) : Prop :=
  ∀ (X : Cx) (sc : Scope) (e : Option Expr), CO U L t n N sc X → chkO U N m sc e = true → ∀ (P : PP) (Xp : XP), P.L = L → Takes X (WXo P Xp) → PO X e (tOo P (Gam t n) Xp m)
section
variable {U : Tx} {L : Lay} {t : Text} {n : Nat} {N : List Str} {sc : Scope} {X : Cx} {P : PP} {Xp : XP} {pos : Pos}
theorem okO {m : E} (h : OkE U L t n N m) {e : Expr} (c : CO U L t n N sc X) (k : chkE U N m sc e = true) (hP : P.L = L) (tk : Takes X (WXo P Xp)) : PE X e (tO P (Gam t n) Xp m) := o_any (ref_vis c k) (h X sc e c k P Xp hP tk)
theorem os_of : ∀ {ms : List E} {es : List Expr}, (∀ m ∈ ms, OkE U L t n N m) → CO U L t n N sc X → chkEs U N ms sc es = true → P.L = L → Takes X (WXo P Xp) → PA X es (tOs P (Gam t n) Xp ms)
  | [], [], _, _, _, _, _ => os_nil
  | [], _ :: _, _, _, h, _, _ => by simp [chkEs] at h
  | _ :: _, [], _, _, h, _, _ => by simp [chkEs] at h
  | m :: ms, e :: es, hm, c, h, hP, tk => by
    simp only [chkEs, Bool.and_eq_true] at h
    exact os_cons (okO (hm m List.mem_cons_self) c h.1.1 hP tk) (os_of (fun k hk => hm k (List.mem_cons_of_mem _ hk)) c h.2 hP tk) (star_of h.1.2)
theorem ks_of : ∀ {ms : List E} {kws : List Keyword}, (∀ m ∈ ms, OkE U L t n N m) → CO U L t n N sc X → chkEs U N ms sc (kwVals kws) = true → P.L = L → Takes X (WXo P Xp) → PK X kws (tOs P (Gam t n) Xp ms)
  | [], [], _, _, _, _, _ => k_nil
  | [], ⟨_, _, _⟩ :: _, _, _, h, _, _ => by simp [chkEs, kwVals] at h
  | _ :: _, [], _, _, h, _, _ => by simp [chkEs, kwVals] at h
  | m :: ms, ⟨nm, e, p⟩ :: kws, hm, c, h, hP, tk => by
    simp only [kwVals, chkEs, Bool.and_eq_true] at h
    exact k_cons (okO (hm m List.mem_cons_self) c h.1.1 hP tk) (ks_of (fun k hk => hm k (List.mem_cons_of_mem _ hk)) c h.2 hP tk)
/-- a def that a call names -/
theorem def_of (c : CO U L t n N sc X) (hP : P.L = L) {f np : Nat} {ks : List Str} {src : List (Sum Nat D)} (h : patIn U f np ks src = true) :
    PySem.W.keepIn X.K (.ref (P.L.fn f)) = true ∧ ∃ fd ps, DefOk X.prog X.w X.K X.mg X.base (4 * n) (P.L.fn f) fd ps (lift P.L (W t n f)) ∧ BindOk X.K fd ps np ks src := by
  subst hP
  obtain ⟨q, hq, rfl, rfl, rfl, rfl⟩ := pat_of h
  obtain ⟨q2, fd, ps, dk, hb⟩ := c.gr.dfs q hq
  exact ⟨by rw [c.K]; exact q2, fd, ps, by rw [c.K]; exact dk, by rw [c.K]; exact hb⟩
theorem sta_of {m : E} {ms : List E} {x : Expr} {es : List Expr} (h : chkEs U N (m :: ms) sc (x :: es) = true) : starEach (x :: es) X.env = (false, eval x X.env) :: starEach es X.env ∧ (backTo pos (starEach es X.env)).any (·.1) = false := by
  simp only [chkEs, Bool.and_eq_true] at h
  exact ⟨star_of h.1.2, plain_args h.2⟩
/-- a call of one of the text's defs -/
theorem call_of {f : Nat} {ms : List E} {src : List (Sum Nat D)} {g : Str} {gp : Pos} {es : List Expr} {kws : List Keyword} (hm : ∀ m ∈ ms, OkE U L t n N m) (c : CO U L t n N sc X)
    (h1 : (f, g) ∈ U.fnm) (h2 : gloB sc g = true) (h3 : chkEs U N ms sc (es ++ kwVals kws) = true) {ks : List Str} (h4 : kwNames kws = some ks) (h5 : patIn U f es.length ks src = true) (hP : P.L = L) (tk : Takes X (WXo P Xp)) :
    PE X (.Call (.Name g gp) es kws pos) (tE P (Gam t n) Xp (.call f ms src)) := by
  obtain ⟨hg, hdb, _⟩ := glo_of c h2
  obtain ⟨hk, fd, ps, dk', b'⟩ := def_of c hP h5
  subst hP
  have q1 := c.gr.fns _ h1
  obtain ⟨ms1, ms2, rfl, c1, c2, l1, l2⟩ := chkEs_split h3
  have hm1 : ∀ m ∈ ms1, OkE U P.L t n N m := fun m hh => hm m (List.mem_append_left _ hh)
  have hm2 : ∀ m ∈ ms2, OkE U P.L t n N m := fun m hh => hm m (List.mem_append_right _ hh)
  have pa := os_of (P := P) (Xp := Xp) hm1 c c1 rfl tk
  have pk := ks_of (P := P) (Xp := Xp) hm2 c c2 rfl tk
  obtain ⟨k1, k2, k3, k4⟩ := kw_of (pos := pos) (env := X.env) h4
  rw [← l1] at b'
  cases kws with
  | nil =>
    cases h4
    have : ms2 = [] := List.eq_nil_of_length_eq_zero (by rw [l2]; rfl)
    subst this
    rw [List.append_nil]
    cases es with
    | nil =>
      have : ms1 = [] := List.eq_nil_of_length_eq_zero (by rw [l1]; rfl)
      subst this
      exact e_call0 dk' (gd_pat c h5) c.r0 tk b' hg q1 hk hdb
    | cons x es =>
      cases ms1 with
      | nil => simp [chkEs] at c1
      | cons m ms1 =>
        obtain ⟨st, pl⟩ := sta_of (X := X) (pos := pos) c1
        exact e_call dk' (gd_pat c h5) c.r0 tk b' hg q1 hk pa hdb st pl
  | cons kw kws =>
    cases es with
    | nil =>
      have : ms1 = [] := List.eq_nil_of_length_eq_zero (by rw [l1]; rfl)
      subst this
      rw [List.nil_append]
      exact e_callk0 dk' (gd_pat c h5) c.r0 tk b' hg q1 hk pk (by rw [l2, k4]) hdb k1 k2 (by rw [k3]; rfl)
    | cons x es =>
      cases ms1 with
      | nil => simp [chkEs] at c1
      | cons m ms1 =>
        obtain ⟨st, pl⟩ := sta_of (X := X) (pos := pos) c1
        exact e_callk dk' (gd_pat c h5) c.r0 tk b' hg q1 hk pa pk (by rw [l2, k4]) hdb st k1 k2 (by rw [k3, plain_args c1]; rfl)
/-- a new instance -/
theorem make_of {cl f : Nat} {ms : List E} {src : List (Sum Nat D)} {g : Str} {gp : Pos} {es : List Expr} {kws : List Keyword} (hm : ∀ m ∈ ms, OkE U L t n N m) (c : CO U L t n N sc X)
    (h1 : (cl, g, f) ∈ U.cls) (h2 : gloB sc g = true) (h3 : chkEs U N ms sc (es ++ kwVals kws) = true) {ks : List Str} (h4 : kwNames kws = some ks) (h5 : patIn U f (es.length + 1) ks (.inl 0 :: shSrc src) = true) (hP : P.L = L) (tk : Takes X (WXo P Xp)) :
    PE X (.Call (.Name g gp) es kws pos) (tE P (Gam t n) Xp (.make cl f ms src)) := by
  obtain ⟨hg, hdb, _⟩ := glo_of c h2
  obtain ⟨hk, fd, ps, dk', b'⟩ := def_of c hP h5
  subst hP
  obtain ⟨M, hkc, q1⟩ := c.gr.cls _ h1
  rw [← c.K] at M
  obtain ⟨ms1, ms2, rfl, c1, c2, l1, l2⟩ := chkEs_split h3
  have hm1 : ∀ m ∈ ms1, OkE U P.L t n N m := fun m hh => hm m (List.mem_append_left _ hh)
  have hm2 : ∀ m ∈ ms2, OkE U P.L t n N m := fun m hh => hm m (List.mem_append_right _ hh)
  have pa := os_of (P := P) (Xp := Xp) hm1 c c1 rfl tk
  have pk := ks_of (P := P) (Xp := Xp) hm2 c c2 rfl tk
  obtain ⟨k1, k2, k3, k4⟩ := kw_of (pos := pos) (env := X.env) h4
  rw [← l1] at b'
  cases kws with
  | nil =>
    cases h4
    have : ms2 = [] := List.eq_nil_of_length_eq_zero (by rw [l2]; rfl)
    subst this
    rw [List.append_nil]
    cases es with
    | nil =>
      have : ms1 = [] := List.eq_nil_of_length_eq_zero (by rw [l1]; rfl)
      subst this
      exact e_make0 M hkc dk' (gd_pat c h5) c.room tk b' hg q1 hdb
    | cons x es =>
      cases ms1 with
      | nil => simp [chkEs] at c1
      | cons m ms1 =>
        obtain ⟨st, pl⟩ := sta_of (X := X) (pos := pos) c1
        exact e_make M hkc dk' (gd_pat c h5) c.room tk b' hg q1 pa hdb st pl
  | cons kw kws =>
    cases es with
    | nil =>
      have : ms1 = [] := List.eq_nil_of_length_eq_zero (by rw [l1]; rfl)
      subst this
      rw [List.nil_append]
      exact e_makek0 M hkc dk' (gd_pat c h5) c.room tk b' hg q1 pk (by rw [l2, k4]) hdb k1 k2 (by rw [k3]; rfl)
    | cons x es =>
      cases ms1 with
      | nil => simp [chkEs] at c1
      | cons m ms1 =>
        obtain ⟨st, pl⟩ := sta_of (X := X) (pos := pos) c1
        exact e_makek M hkc dk' (gd_pat c h5) c.room tk b' hg q1 pa pk (by rw [l2, k4]) hdb st k1 k2 (by rw [k3, plain_args c1]; rfl)
/-- a method of an instance -/
theorem meth_of {cl f : Nat} {a : E} {ms : List E} {src : List (Sum Nat D)} {m : Str} {z : Expr} {apos : Pos} {es : List Expr} (ha : OkE U L t n N a) (hm : ∀ m ∈ ms, OkE U L t n N m) (c : CO U L t n N sc X)
    (h1 : (cl, m, f) ∈ U.mth) (hb : okB z = true) (hl : (apos.endLine == pos.line) = true) (hn : es.length < 30) (h2 : chkE U N a sc z = true) (h3 : chkEs U N ms sc es = true) (h5 : patIn U f (es.length + 1) [] src = true) (h6 : m ∉ clsNm cl) (hP : P.L = L) (tk : Takes X (WXo P Xp)) :
    PE X (.Call (.Attribute z m apos) es [] pos) (tE P (Gam t n) Xp (.meth cl f a ms src)) := by
  obtain ⟨hk, fd, ps, dk', b'⟩ := def_of c hP h5
  have po := okO ha c h2 hP tk
  have hK := c.hK hP
  have hC := c.cok hP
  subst hP
  have M := c.gr.mth _ h1
  rw [← c.K] at M
  have pa := os_of (P := P) (Xp := Xp) hm c h3 rfl tk
  have hf := few_args (pos := pos) (env := X.env) (plain_args h3) hn
  have tr := meth_tree (name := m) hb hl hf
  obtain ⟨l1, _⟩ : ms.length = es.length ∧ True := ⟨by
    obtain ⟨ms1, ms2, e, _, _, l1, l2⟩ := chkEs_split (fs := []) (show chkEs U N ms sc (es ++ []) = true by rw [List.append_nil]; exact h3)
    have : ms2 = [] := List.eq_nil_of_length_eq_zero (by rw [l2]; rfl)
    rw [e, this, List.append_nil, l1], trivial⟩
  rw [← l1] at b'
  cases es with
  | nil =>
    have : ms = [] := List.eq_nil_of_length_eq_zero (by rw [l1]; rfl)
    subst this
    exact e_meth0 dk' (gd_pat c h5) c.r0 tk b' hK hC M h6 po tr
  | cons x es =>
    cases ms with
    | nil => simp [chkEs] at h3
    | cons k ms =>
      obtain ⟨st, pl⟩ := sta_of (X := X) (pos := pos) h3
      exact e_meth dk' (gd_pat c h5) c.r0 tk b' hK hC M h6 po pa st pl tr
/-- the name of a type -/
theorem ty_of (c : CO U L t n N sc X) (hP : P.L = L) {y : Ty} {e : Expr} (h : tyB U sc y e = true) : PE X e (tC (tyAskV P.L y)) := by
  unfold tyB at h
  split at h
  · rename_i g p q
    rw [asName_eq q]
    simp only [Bool.and_eq_true] at h
    obtain ⟨hg, hdb, hn⟩ := glo_of c h.1
    subst hP
    cases y with
    | cls cl =>
      have h2 := h.2
      simp only [List.any_eq_true, Bool.and_eq_true, decide_eq_true_eq, beq_iff_eq] at h2
      obtain ⟨⟨q1, q2, q3⟩, hq, rfl, rfl⟩ := h2
      exact pe_glob hg (c.gr.cls _ hq).2.2 rfl hdb
    | _ =>
      have h2 := h.2
      simp only [tyNm, Option.some.injEq, Bool.and_eq_true, decide_eq_true_eq] at h2
      obtain ⟨rfl, h3⟩ := h2
      exact pe_bltn hg (gl_nog c h3) (by decide +kernel) rfl hn hdb
  · cases h
theorem bi_of {b : BI} {ms : List E} {g : Str} {gp : Pos} {x : Expr} {es : List Expr} (hm : ∀ m ∈ ms, OkE U L t n N m) (c : CO U L t n N sc X) (h1 : biN b = some g) (h2 : gloB sc g = true) (h3 : U.nog.contains g = true) (h4 : chkEs U N ms sc (x :: es) = true) (hP : P.L = L) (tk : Takes X (WXo P Xp)) :
    PE X (.Call (.Name g gp) (x :: es) [] pos) (tE P (Gam t n) Xp (.bi b ms)) := by
  obtain ⟨hg, hdb, hn⟩ := glo_of c h2
  have hu : ∃ u, biV b = some u := by
    cases b <;> first
      | exact ⟨_, rfl⟩
      | cases h1
  obtain ⟨u, hu⟩ := hu
  have pa := os_of (P := P) (Xp := Xp) hm c h4 hP tk
  have h5 := h4
  cases ms with
  | nil => simp [chkEs] at h5
  | cons m ms =>
    simp only [chkEs, Bool.and_eq_true] at h5
    exact e_bi (c.hK hP) c.gr.sm c.calm (gd_nog c h3) c.hu hu (bi_boot _ _ _ h1 hu) hg (gl_nog c h3) pa hn hdb (star_of h5.1.2) (plain_args h5.2)
end
section
variable {U : Tx} {L : Lay} {t : Text} {n : Nat} {N : List Str}
theorem pw_of {X : Cx} {op : BoolOp} {vs : List Expr} {pos : Pos} {tt : TT} (h : PT X (.BoolOp op vs pos) tt) : PW X (.BoolOp op vs pos) tt := ⟨fun whole pins s σ H Q I q => h.run pins s σ H Q I q⟩
/-! the shapes that pass -/
section
variable {sc : Scope} {e : Expr} {a b c : E}
theorem i_neg (h : chkE U N (.neg a) sc e = true) : ∃ x p, e = .UnaryOp .USub x p ∧ chkE U N a sc x = true := by
  cases e
  case UnaryOp op x p =>
    cases op
    case USub => exact ⟨x, p, rfl, by simpa only [chkE] using h⟩
    all_goals simp [chkE] at h
  all_goals simp [chkE] at h
theorem i_not (h : chkE U N (.not a) sc e = true) : ∃ x p, e = .UnaryOp .Not x p ∧ chkE U N a sc x = true := by
  cases e
  case UnaryOp op x p =>
    cases op
    case Not => exact ⟨x, p, rfl, by simpa only [chkE] using h⟩
    all_goals simp [chkE] at h
  all_goals simp [chkE] at h
theorem i_tnot {a : T} (h : chkT U N (.not a) sc e = true) : ∃ x p, e = .UnaryOp .Not x p ∧ chkT U N a sc x = true := by
  cases e
  case UnaryOp op x p =>
    cases op
    case Not => exact ⟨x, p, rfl, by simpa only [chkT] using h⟩
    all_goals simp [chkT] at h
  all_goals simp [chkT] at h
theorem i_cmp {op : CmpOp} (h : chkE U N (.cmp op a b) sc e = true) : ∃ x y p, e = .Compare x [op] [y] p ∧ chkE U N a sc x = true ∧ chkE U N b sc y = true ∧ okF y = true := by
  cases e
  case Compare x ops ys p =>
    match ops, ys with
    | [op'], [y] =>
      simp only [chkE, Bool.and_eq_true, decide_eq_true_eq] at h
      obtain ⟨⟨⟨rfl, h1⟩, h2⟩, h3⟩ := h
      exact ⟨x, y, p, rfl, h1, h2, h3⟩
    | [], _ => simp [chkE] at h
    | _ :: _ :: _, _ => simp [chkE] at h
    | [_], [] => simp [chkE] at h
    | [_], _ :: _ :: _ => simp [chkE] at h
  all_goals simp [chkE] at h
theorem i_own {neg : Bool} {cl f : Nat} (h : chkE U N (.own neg cl f a b) sc e = true) : ∃ x y p, e = .Compare x [opN neg] [y] p ∧ (cl, f) ∈ U.own ∧ patIn U f 2 [] [.inl 0, .inl 1] = true ∧ chkE U N a sc x = true ∧ chkE U N b sc y = true ∧ okF y = true := by
  cases e
  case Compare x ops ys p =>
    match ops, ys with
    | [op'], [y] =>
      simp only [chkE, Bool.and_eq_true, decide_eq_true_eq, List.any_eq_true, beq_iff_eq] at h
      obtain ⟨⟨⟨⟨⟨rfl, ⟨q1, q2⟩, hq, rfl, rfl⟩, h1⟩, h2⟩, h3⟩, h4⟩ := h
      exact ⟨x, y, p, rfl, hq, h1, h2, h3, h4⟩
    | [], _ => simp [chkE] at h
    | _ :: _ :: _, _ => simp [chkE] at h
    | [_], [] => simp [chkE] at h
    | [_], _ :: _ :: _ => simp [chkE] at h
  all_goals simp [chkE] at h
theorem i_ownT {neg : Bool} {cl f : Nat} (h : chkT U N (.own neg cl f a b) sc e = true) : ∃ x y p, e = .Compare x [opN neg] [y] p ∧ (cl, f) ∈ U.own ∧ patIn U f 2 [] [.inl 0, .inl 1] = true ∧ chkE U N a sc x = true ∧ chkE U N b sc y = true ∧ okF y = true := by
  cases e
  case Compare x ops ys p =>
    match ops, ys with
    | [op'], [y] =>
      simp only [chkT, Bool.and_eq_true, decide_eq_true_eq, List.any_eq_true, beq_iff_eq] at h
      obtain ⟨⟨⟨⟨⟨rfl, ⟨q1, q2⟩, hq, rfl, rfl⟩, h1⟩, h2⟩, h3⟩, h4⟩ := h
      exact ⟨x, y, p, rfl, hq, h1, h2, h3, h4⟩
    | [], _ => simp [chkT] at h
    | _ :: _ :: _, _ => simp [chkT] at h
    | [_], [] => simp [chkT] at h
    | [_], _ :: _ :: _ => simp [chkT] at h
  all_goals simp [chkT] at h
theorem i_tcmp {op : CmpOp} (h : chkT U N (.cmp op a b) sc e = true) : ∃ x y p, e = .Compare x [op] [y] p ∧ chkE U N a sc x = true ∧ chkE U N b sc y = true ∧ okF y = true := by
  cases e
  case Compare x ops ys p =>
    match ops, ys with
    | [op'], [y] =>
      simp only [chkT, Bool.and_eq_true, decide_eq_true_eq] at h
      obtain ⟨⟨⟨rfl, h1⟩, h2⟩, h3⟩ := h
      exact ⟨x, y, p, rfl, h1, h2, h3⟩
    | [], _ => simp [chkT] at h
    | _ :: _ :: _, _ => simp [chkT] at h
    | [_], [] => simp [chkT] at h
    | [_], _ :: _ :: _ => simp [chkT] at h
  all_goals simp [chkT] at h
theorem i_chn {o1 o2 : CmpOp} (h : chkE U N (.chn o1 o2 a b c) sc e = true) : ∃ x y z p, e = .Compare x [o1, o2] [y, z] p ∧ chkE U N a sc x = true ∧ chkE U N b sc y = true ∧ chkE U N c sc z = true ∧ okF z = true := by
  cases e
  case Compare x ops ys p =>
    match ops, ys with
    | [p1, p2], [y, z] =>
      simp only [chkE, Bool.and_eq_true, decide_eq_true_eq] at h
      obtain ⟨⟨⟨⟨⟨rfl, rfl⟩, h1⟩, h2⟩, h3⟩, h4⟩ := h
      exact ⟨x, y, z, p, rfl, h1, h2, h3, h4⟩
    | [], _ => simp [chkE] at h
    | [_], _ => simp [chkE] at h
    | _ :: _ :: _ :: _, _ => simp [chkE] at h
    | [_, _], [] => simp [chkE] at h
    | [_, _], [_] => simp [chkE] at h
    | [_, _], _ :: _ :: _ :: _ => simp [chkE] at h
  all_goals simp [chkE] at h
theorem i_tchn {o1 o2 : CmpOp} (h : chkT U N (.chn o1 o2 a b c) sc e = true) : ∃ x y z p, e = .Compare x [o1, o2] [y, z] p ∧ chkE U N a sc x = true ∧ chkE U N b sc y = true ∧ chkE U N c sc z = true ∧ okF z = true := by
  cases e
  case Compare x ops ys p =>
    match ops, ys with
    | [p1, p2], [y, z] =>
      simp only [chkT, Bool.and_eq_true, decide_eq_true_eq] at h
      obtain ⟨⟨⟨⟨⟨rfl, rfl⟩, h1⟩, h2⟩, h3⟩, h4⟩ := h
      exact ⟨x, y, z, p, rfl, h1, h2, h3, h4⟩
    | [], _ => simp [chkT] at h
    | [_], _ => simp [chkT] at h
    | _ :: _ :: _ :: _, _ => simp [chkT] at h
    | [_, _], [] => simp [chkT] at h
    | [_, _], [_] => simp [chkT] at h
    | [_, _], _ :: _ :: _ :: _ => simp [chkT] at h
  all_goals simp [chkT] at h
/-- the rest of a chain of and, or -/
def restOf (op : BoolOp) (y : Expr) (r : List Expr) (p : Pos) : Expr := match r with
  | [] => y
  | _ => .BoolOp op (y :: r) p
theorem i_and (h : chkE U N (.and a b) sc e = true) : ∃ x y r p, e = .BoolOp .And (x :: y :: r) p ∧ chkE U N a sc x = true ∧ chkE U N b sc (restOf .And y r p) = true := by
  cases e
  case BoolOp op vs p =>
    cases op
    case And =>
      match vs with
      | x :: y :: r =>
        simp only [chkE, Bool.and_eq_true] at h
        exact ⟨x, y, r, p, rfl, h.1, h.2⟩
      | [] => simp [chkE] at h
      | [_] => simp [chkE] at h
    case Or => simp [chkE] at h
  all_goals simp [chkE] at h
theorem i_or (h : chkE U N (.or a b) sc e = true) : ∃ x y r p, e = .BoolOp .Or (x :: y :: r) p ∧ chkE U N a sc x = true ∧ chkE U N b sc (restOf .Or y r p) = true := by
  cases e
  case BoolOp op vs p =>
    cases op
    case Or =>
      match vs with
      | x :: y :: r =>
        simp only [chkE, Bool.and_eq_true] at h
        exact ⟨x, y, r, p, rfl, h.1, h.2⟩
      | [] => simp [chkE] at h
      | [_] => simp [chkE] at h
    case And => simp [chkE] at h
  all_goals simp [chkE] at h
theorem i_tand {a b : T} (h : chkT U N (.and a b) sc e = true) : ∃ x y r p, e = .BoolOp .And (x :: y :: r) p ∧ chkT U N a sc x = true ∧ chkT U N b sc (restOf .And y r p) = true := by
  cases e
  case BoolOp op vs p =>
    cases op
    case And =>
      match vs with
      | x :: y :: r =>
        simp only [chkT, Bool.and_eq_true] at h
        exact ⟨x, y, r, p, rfl, h.1, h.2⟩
      | [] => simp [chkT] at h
      | [_] => simp [chkT] at h
    case Or => simp [chkT] at h
  all_goals simp [chkT] at h
theorem i_tor {a b : T} (h : chkT U N (.or a b) sc e = true) : ∃ x y r p, e = .BoolOp .Or (x :: y :: r) p ∧ chkT U N a sc x = true ∧ chkT U N b sc (restOf .Or y r p) = true := by
  cases e
  case BoolOp op vs p =>
    cases op
    case Or =>
      match vs with
      | x :: y :: r =>
        simp only [chkT, Bool.and_eq_true] at h
        exact ⟨x, y, r, p, rfl, h.1, h.2⟩
      | [] => simp [chkT] at h
      | [_] => simp [chkT] at h
    case And => simp [chkT] at h
  all_goals simp [chkT] at h
theorem i_call {f : Nat} {ms : List E} {src : List (Sum Nat D)} (h : chkE U N (.call f ms src) sc e = true) : ∃ g gp es kws p ks, e = .Call (.Name g gp) es kws p ∧ (f, g) ∈ U.fnm ∧ gloB sc g = true ∧ chkEs U N ms sc (es ++ kwVals kws) = true ∧ kwNames kws = some ks ∧ patIn U f es.length ks src = true := by
  cases e
  case Call fe es kws p =>
    cases fe
    case Name g gp =>
      simp only [chkE, Bool.and_eq_true, List.any_eq_true, decide_eq_true_eq, beq_iff_eq] at h
      obtain ⟨⟨⟨⟨⟨q1, q2⟩, h1, e1, e2⟩, h2⟩, h3⟩, h4⟩ := h
      have h1 : (f, g) ∈ U.fnm := by
        simp only at e1 e2
        subst e1 e2
        exact h1
      cases q : kwNames kws with
      | none => rw [q] at h4; cases h4
      | some ks => rw [q] at h4; exact ⟨g, gp, es, kws, p, ks, rfl, h1, h2, h3, q, h4⟩
    all_goals simp [chkE] at h
  all_goals simp [chkE] at h
theorem i_bi {f : BI} {ms : List E} (h : chkE U N (.bi f ms) sc e = true) : ∃ g gp x es p, e = .Call (.Name g gp) (x :: es) [] p ∧ biN f = some g ∧ gloB sc g = true ∧ U.nog.contains g = true ∧ chkEs U N ms sc (x :: es) = true := by
  cases e
  case Call fe es kws p =>
    cases fe
    case Name g gp =>
      match es, kws with
      | x :: es, [] =>
        simp only [chkE, Bool.and_eq_true, decide_eq_true_eq] at h
        obtain ⟨⟨⟨h1, h2⟩, h3⟩, h4⟩ := h
        exact ⟨g, gp, x, es, p, rfl, h1, h2, h3, h4⟩
      | [], _ => simp [chkE] at h
      | _ :: _, _ :: _ => simp [chkE] at h
    all_goals simp [chkE] at h
  all_goals simp [chkE] at h
theorem i_lc {elt : E} {g : Tg} {it : I} {cond : T} {own : List Nat} (h : chkE U N (.lc elt g it cond own) sc e = true) : ∃ x tg iter ifs scope p, e = .ListComp x [⟨tg, iter, ifs, 0⟩] scope p ∧ chkI U N it sc tg iter = true ∧ okF iter = true ∧ chkTg (locB scope) N g tg = true ∧ (∀ i ∈ slots g, i ∈ own) ∧
    blkC N sc scope (ownsOf N own) = true ∧ chkE U N elt (relS scope sc) x = true ∧ ((ifs = [] ∧ cond = .yes) ∨ ∃ c, ifs = [c] ∧ chkT U N cond (relS scope sc) c = true) := by
  cases e
  case ListComp x gs scope p =>
    match gs with
    | [⟨tg, iter, ifs, k⟩] =>
      by_cases hk : k = 0
      · subst hk
        unfold chkE at h
        simp only [Bool.and_eq_true, List.all_eq_true] at h
        obtain ⟨⟨⟨⟨⟨⟨h1, h2⟩, h3⟩, h4⟩, h5⟩, h6⟩, h7⟩ := h
        refine ⟨x, tg, iter, ifs, scope, p, rfl, h1, h2, h3, fun i hi => by simpa using h4 i hi, h5, h6, ?_⟩
        match ifs with
        | [] =>
          cases cond <;> simp [isYes] at h7
          exact .inl ⟨rfl, rfl⟩
        | [c] => exact .inr ⟨c, rfl, h7⟩
        | _ :: _ :: _ => simp at h7
      · unfold chkE at h
        split at h <;> first
          | (simp_all; done)
          | exact absurd h (by simp)
    | [] => simp [chkE] at h
    | _ :: _ :: _ => simp [chkE] at h
  all_goals simp [chkE] at h
theorem i_rng {ms : List E} {tg : Expr} (h : chkI U N (.rng ms) sc tg e = true) : ∃ gp es p, e = .Call (.Name "range" gp) es [] p ∧ gloB sc "range" = true ∧ U.nog.contains ("range" : Str) = true ∧ chkEs U N ms sc es = true ∧ (es.length = 1 ∨ es.length = 2) := by
  cases e
  case Call fe es kws p =>
    cases fe
    case Name g gp =>
      match kws with
      | [] =>
        simp only [chkI, Bool.and_eq_true, decide_eq_true_eq, Bool.or_eq_true, beq_iff_eq] at h
        obtain ⟨⟨⟨⟨rfl, h1⟩, h2⟩, h3⟩, h4⟩ := h
        exact ⟨gp, es, p, rfl, h1, h2, h3, h4⟩
      | _ :: _ => simp [chkI] at h
    all_goals simp [chkI] at h
  all_goals simp [chkI] at h
end
theorem ok_lrg {a : E} (ha : OkE U L t n N a) : OkE U L t n N (.xb .lrng [a]) := by
  intro X sc e c h P Xp hP tk
  simp only [chkE] at h
  split at h
  · rename_i g p r p2 x q2 pos q
    rw [asLrg_eq q]
    simp only [Bool.and_eq_true, decide_eq_true_eq, chkEs] at h
    obtain ⟨⟨⟨⟨⟨⟨rfl, rfl⟩, h1⟩, h2⟩, h3⟩, h4⟩, ⟨h5, h6⟩, _⟩ := h
    exact e_lrng c.calm (glo_of c h2).1 (gl_nog c h4) (glo_of c h1).1 (gl_nog c h3) (okO ha c h5 hP tk) (star_of h6)
  · cases h
theorem ok_trg {a : E} (ha : OkE U L t n N a) : OkE U L t n N (.xb .trng [a]) := by
  intro X sc e c h P Xp hP tk
  simp only [chkE] at h
  split at h
  · rename_i g p r p2 x q2 pos q
    rw [asLrg_eq q]
    simp only [Bool.and_eq_true, decide_eq_true_eq, chkEs] at h
    obtain ⟨⟨⟨⟨⟨⟨rfl, rfl⟩, h1⟩, h2⟩, h3⟩, h4⟩, ⟨h5, h6⟩, _⟩ := h
    exact e_trng c.calm (glo_of c h2).1 (gl_nog c h4) (glo_of c h1).1 (gl_nog c h3) (okO ha c h5 hP tk) (star_of h6)
  · cases h
theorem ok_sum2 {a b : E} (ha : OkE U L t n N a) (hb : OkE U L t n N b) : OkE U L t n N (.xb .sum2 [a, b]) := by
  intro X sc e c h P Xp hP tk
  simp only [chkE] at h
  split at h
  · rename_i g p x k y kpos pos q
    rw [asKw1_eq q]
    simp only [Bool.and_eq_true, decide_eq_true_eq, chkEs] at h
    obtain ⟨⟨⟨⟨rfl, rfl⟩, h1⟩, h2⟩, ⟨h3, h5⟩, ⟨h4, _⟩, _⟩ := h
    exact e_sum2 c.calm (glo_of c h1).1 (gl_nog c h2) (okO ha c h3 hP tk) (okO hb c h4 hP tk) (star_of h5) (c.hK hP)
  · cases h
theorem cns_of {P : PP} {d : D} {y : Expr} (h : cnsB d y = true) : ∃ v, PE X y (tC v) ∧ ∀ F, Rep P.L F d v := by
  unfold cnsB at h
  split at h
  · exact const_of h
  · cases h
theorem ok_min0 {d : D} {a : E} (ha : OkE U L t n N a) : OkE U L t n N (.xb (.min0 d) [a]) := by
  intro X sc e c h P Xp hP tk
  simp only [chkE] at h
  split at h
  · rename_i g p x k y kpos pos q
    rw [asKw1_eq q]
    simp only [Bool.and_eq_true, decide_eq_true_eq, chkEs] at h
    obtain ⟨⟨⟨⟨⟨rfl, rfl⟩, h1⟩, h2⟩, h4⟩, ⟨h3, h5⟩, _⟩ := h
    obtain ⟨v, hv, rd⟩ := cns_of (X := X) (P := P) h4
    exact e_min0 hv rd (c.hK hP) c.gr.sm c.hu c.calm (glo_of c h1).1 (gl_nog c h2) (okO ha c h3 hP tk) (star_of h5)
  · cases h
theorem i_spc {k : SP} {cl f : Nat} {a : E} {sc : Scope} {e : Expr} (h : chkE U N (.spc k cl f a) sc e = true) : ∃ p x pos, e = .Call (.Name (spG k) p) [x] [] pos ∧ gloB sc (spG k) = true ∧ U.nog.contains (spG k) = true ∧ (k, cl, f) ∈ U.spc ∧ patIn U f 1 [] [.inl 0] = true ∧ chkE U N a sc x = true ∧ okF x = true := by
  simp only [chkE] at h
  split at h
  · rename_i g p x pos q
    simp only [Bool.and_eq_true, decide_eq_true_eq, List.any_eq_true, beq_iff_eq] at h
    obtain ⟨⟨⟨⟨⟨⟨rfl, h1⟩, h2⟩, ⟨q1, q2, q3⟩, hq, rfl, rfl, rfl⟩, h3⟩, h4⟩, h5⟩ := h
    exact ⟨p, x, pos, asCallN_eq q, h1, h2, hq, h3, h4, h5⟩
  · cases h
theorem i_nst {cl f : Nat} {a : E} {sc : Scope} {e : Expr} (h : chkE U N (.hot (.nst cl f) a) sc e = true) : ∃ p x pos, e = .Call (.Name ("repr" : Str) p) [x] [] pos ∧ gloB sc ("repr" : Str) = true ∧ U.nog.contains ("repr" : Str) = true ∧ (cl, f) ∈ U.nst ∧ chkE U N a sc x = true ∧ okF x = true := by
  simp only [chkE] at h
  split at h
  · rename_i g p x pos q
    simp only [Bool.and_eq_true, decide_eq_true_eq, List.any_eq_true, beq_iff_eq] at h
    obtain ⟨⟨⟨⟨⟨rfl, h1⟩, h2⟩, ⟨q1, q2⟩, hq, rfl, rfl⟩, h4⟩, h5⟩ := h
    exact ⟨p, x, pos, asCallN_eq q, h1, h2, hq, h4, h5⟩
  · cases h
theorem ok_srk {kf : KF} {a : E} (ha : OkE U L t n N a) : OkE U L t n N (.srk kf a) := by
  intro X sc e c h P Xp hP tk
  simp only [chkE] at h
  split at h
  · rename_i p x params body scope lpos kpos pos q
    rw [asSrt_eq q]
    simp only [Bool.and_eq_true] at h
    obtain ⟨⟨⟨⟨⟨h1, h2⟩, h3⟩, h4⟩, h5⟩, h6⟩ := h
    obtain ⟨hg, _, _⟩ := glo_of c h2
    obtain ⟨_, cd, Pt, hcd, hm⟩ := c.lm h1
    have hmT : (Pt, X.env.qual ++ "<lambda>") ∈ P.L.T := by rw [hP]; exact List.mem_map.mpr ⟨_, hm, rfl⟩
    have hu2 : ∀ p ∈ P.L.T, p.1 = Pt → p.2 = X.env.qual ++ "<lambda>" := fun p hp e => by
      rw [hP] at hp hmT
      exact c.gr.tu p hp _ hmT e
    have st : starEach [x] X.env = [(false, eval x X.env)] := star_of h5
    unfold srtB at h6
    split at h6
    · rename_i g hg1
      simp only [Bool.and_eq_true] at h6
      obtain ⟨⟨k1, k2⟩, k3⟩ := h6
      have Lp : LamP X.env.scope scope g := by rw [c.sc]; exact lamP_by k1
      cases kf with
      | at1 => exact e_srk1 (k := 4 * n) c.room c.hu hg (gl_nog c h3) (okO ha c h4 hP tk) (c.hK hP) (c.gr.tb _ hm) hcd hmT hu2 hg1 Lp (of_decide_eq_true k3) k2 st
      | wn iw =>
        dsimp only at k3
        split at k3
        · rename_i y g' hb
          simp only [Bool.and_eq_true, decide_eq_true_eq] at k3
          obtain ⟨⟨⟨rfl, k4⟩, k5⟩, k6⟩ := k3
          exact e_srkw (k := 4 * n) c.room c.hu hg (gl_nog c h3) (okO ha c h4 hP tk) (c.gr.tb _ hm) hcd hmT hu2 hg1 Lp hb k2 k4 (by rw [c.hN]; exact k5) k6 st
        · cases k3
    · cases h6
  · cases h
mutual
theorem okE' : ∀ (m : E) (U : Tx), OkE U L t n N m
  | .var i, U, X, sc, e, c, h, P, Xp, hP, tk => by
    cases e <;> simp only [chkE] at h <;> first
      | exact e_var (vis_of c h)
      | exact absurd h (by simp)
  | .ref i, U, X, sc, e, c, h, P, Xp, hP, tk => ⟨fun pins s σ H Q I q => by
    obtain ⟨env, F, R, ex, w, k⟩ := q
    simp only [wE] at w⟩
  | .con d, U, X, sc, e, c, h, P, Xp, hP, tk => by
    cases e <;> simp only [chkE] at h <;> first
      | (obtain ⟨v, h1, h2⟩ := const_of (X := X) (P := P) h
         exact e_con h1 h2)
      | (simp only [Bool.and_eq_true, decide_eq_true_eq, List.any_eq_true] at h
         obtain ⟨h1, q, hq, rfl, h2⟩ := h
         obtain ⟨hg, hdb, hn⟩ := glo_of c h1
         obtain ⟨u, v, h3, h4, h5⟩ := c.gr.cst q hq
         rw [beqD_eq h2] at h5
         exact e_con (pe_glob hg h3 h4 hdb) (by rw [hP]; exact h5))
      | exact absurd h (by simp)
  | .bin op a b, U, X, sc, e, c, h, P, Xp, hP, tk => by
    cases e <;> simp only [chkE] at h <;> first
      | (simp only [Bool.and_eq_true, decide_eq_true_eq] at h
         obtain ⟨⟨rfl, h1⟩, h2⟩ := h
         exact e_bin (c.hK hP) (okO (okE' a U) c h1 hP tk) (okO (okE' b U) c h2 hP tk))
      | exact absurd h (by simp)
  | .neg a, U, X, sc, e, c, h, P, Xp, hP, tk => by
    obtain ⟨x, p, rfl, h⟩ := i_neg h
    exact e_neg (okO (okE' a U) c h hP tk)
  | .cmp op a b, U, X, sc, e, c, h, P, Xp, hP, tk => by
    obtain ⟨x, y, p, rfl, h1, h2, h3⟩ := i_cmp h
    exact e_cmp (c.hK hP) (c.hW hP) c.hu (okO (okE' a U) c h1 hP tk) (okO (okE' b U) c h2 hP tk) (mark_of h3)
  | .own neg cl f a b, U, X, sc, e, c, h, P, Xp, hP, tk => by
    obtain ⟨x, y, p, rfl, h0, h1, h2, h3, h4⟩ := i_own h
    obtain ⟨hk, fd, ps, dk', b'⟩ := def_of c hP h1
    have ha := okO (okE' a U) c h2 hP tk
    have hb := okO (okE' b U) c h3 hP tk
    subst hP
    have O := c.gr.ow _ h0
    rw [← c.K] at O
    exact e_own (c.hK rfl) (c.hW rfl) dk' (gd_pat c h1) c.room c.hu tk b' O ha hb (mark_of h4)
  | .hot k a, U, X, sc, e, c, h, P, Xp, hP, tk => by
    cases k with
    | said v f =>
      simp only [chkE] at h
      split at h
      · rename_i g gp params body scope lpos pos q
        rw [asSaidC_eq q]
        simp only [Bool.and_eq_true] at h
        obtain ⟨⟨⟨⟨⟨h1, h2⟩, h3⟩, h4⟩, h5⟩, h6⟩ := h
        exact e_said c h1 h2 h3 h4 h5 hP fun X' P' Xp' c' hP' tk' => okE' a { U with lam := false } X' scope body c' h6 P' Xp' hP' tk'
      · cases h
    | nst cl f =>
      obtain ⟨p, x, pos, rfl, h1, h2, h0, h4, h5⟩ := i_nst h
      have ha := okO (okE' a U) c h4 hP tk
      have gl := glo_of c h1
      obtain ⟨O, fd, ps, dk, hb⟩ := c.gr.nr _ h0
      subst hP
      rw [← c.K] at O dk hb
      exact e_nst c.K c.gr.sm dk hb O (gd_nog c h2) c.room tk gl.1 (gl_nog c h2) ha (star_of h5)
    | _ =>
      unfold chkE at h
      first
      | (exact absurd h (by simp))
      | (split at h <;> exact absurd h (by simp))
  | .spc k cl f a, U, X, sc, e, c, h, P, Xp, hP, tk => by
    obtain ⟨p, x, pos, rfl, h1, h2, h0, h3, h4, h5⟩ := i_spc h
    obtain ⟨hk, fd, ps, dk', b'⟩ := def_of c hP h3
    have ha := okO (okE' a U) c h4 hP tk
    have gl := glo_of c h1
    subst hP
    have O := c.gr.sp _ h0
    rw [← c.K] at O
    exact e_spc dk' (gd_pat c h3) c.room c.hu tk b' O gl.1 (gl_nog c h2) ha (star_of h5)
  | .chn o1 o2 a b c', U, X, sc, e, c, h, P, Xp, hP, tk => by
    obtain ⟨x, y, z, p, rfl, h1, h2, h3, h4⟩ := i_chn h
    exact e_chn (c.hK hP) (c.hW hP) c.hu (okO (okE' a U) c h1 hP tk) (okO (okE' b U) c h2 hP tk) (okO (okE' c' U) c h3 hP tk) (marks_of h4)
  | .and a b, U, X, sc, e, c, h, P, Xp, hP, tk => by
    obtain ⟨x, y, r, p, rfl, h1, h2⟩ := i_and h
    refine and_core (c.hK hP) (pe_andT (okE' a U X sc _ c h1 P Xp hP tk) ?_)
    have q := okE' b U X sc _ c h2 P Xp hP tk
    cases r with
    | nil => exact pe_one q
    | cons z r => exact q
  | .or a b, U, X, sc, e, c, h, P, Xp, hP, tk => by
    obtain ⟨x, y, r, p, rfl, h1, h2⟩ := i_or h
    refine or_core (c.hK hP) (pe_orT (okE' a U X sc _ c h1 P Xp hP tk) ?_)
    have q := okE' b U X sc _ c h2 P Xp hP tk
    cases r with
    | nil => exact pe_one q
    | cons z r => exact q
  | .not a, U, X, sc, e, c, h, P, Xp, hP, tk => by
    obtain ⟨x, p, rfl, h⟩ := i_not h
    exact e_not (c.hK hP) (okO (okE' a U) c h hP tk)
  | .ite c' a b, U, X, sc, e, c, h, P, Xp, hP, tk => by
    cases e <;> simp only [chkE] at h <;> first
      | (simp only [Bool.and_eq_true] at h
         exact e_ite (okT' c' U X sc _ c h.1.1 P Xp hP tk) (okE' a U X sc _ c h.1.2 P Xp hP tk) (okE' b U X sc _ c h.2 P Xp hP tk))
      | exact absurd h (by simp)
  | .tup ms, U, X, sc, e, c, h, P, Xp, hP, tk => by
    cases e <;> simp only [chkE] at h <;> first
      | (simp only [Bool.and_eq_true, decide_eq_true_eq] at h
         exact e_tup (os_of (okAll' ms U) c h.1 hP tk) h.2)
      | exact absurd h (by simp)
  | .lst ms, U, X, sc, e, c, h, P, Xp, hP, tk => by
    cases e <;> simp only [chkE] at h <;> first
      | (simp only [Bool.and_eq_true, decide_eq_true_eq] at h
         exact e_lst (os_of (okAll' ms U) c h.1 hP tk) h.2)
      | exact absurd h (by simp)
  | .sub a b, U, X, sc, e, c, h, P, Xp, hP, tk => by
    cases e <;> simp only [chkE] at h <;> first
      | (simp only [Bool.and_eq_true] at h
         exact e_sub (c.hK hP) (c.hW hP) c.hu (okO (okE' a U) c h.1.1 hP tk) (okO (okE' b U) c h.1.2 hP tk) (ix_of h.2))
      | exact absurd h (by simp)
  | .slc a lo hi, U, X, sc, e, c, h, P, Xp, hP, tk => by
    simp only [chkE] at h
    split at h
    · rename_i x l hh p2 pos q
      rw [asSlc_eq q]
      simp only [Bool.and_eq_true] at h
      exact e_slc (c.hK hP) (okO (okE' a U) c h.1.1 hP tk) (okOo' lo U X sc l c h.1.2 P Xp hP tk) (okOo' hi U X sc hh c h.2 P Xp hP tk)
    · cases h
  | .rev a, U, X, sc, e, c, h, P, Xp, hP, tk => by
    simp only [chkE] at h
    split at h
    · rename_i x q
      rw [asRev_eq q]
      exact e_rev (c.hK hP) (okO (okE' a U) c h hP tk)
    · cases h
  | .call f ms src, U, X, sc, e, c, h, P, Xp, hP, tk => by
    obtain ⟨g, gp, es, kws, p, ks, rfl, h1, h2, h3, h4, h5⟩ := i_call h
    exact call_of (okAll' ms U) c h1 h2 h3 h4 h5 hP tk
  | .make cl f ms src, U, X, sc, e, c, h, P, Xp, hP, tk => by
    simp only [chkE] at h
    split at h
    · rename_i g gp es kws pos q
      rw [asCallN_eq q]
      simp only [Bool.and_eq_true, List.any_eq_true, decide_eq_true_eq, beq_iff_eq] at h
      obtain ⟨⟨⟨⟨⟨q1, q2, q3⟩, h1, ⟨rfl, rfl⟩, rfl⟩, h2⟩, h3⟩, h4⟩ := h
      cases q : kwNames kws with
      | none => rw [q] at h4; cases h4
      | some ks => rw [q] at h4; exact make_of (okAll' ms U) c h1 h2 h3 q h4 hP tk
    · cases h
  | .meth cl f a ms src, U, X, sc, e, c, h, P, Xp, hP, tk => by
    simp only [chkE] at h
    split at h
    · rename_i z m apos es pos q
      rw [asCallA_eq q]
      simp only [Bool.and_eq_true, List.any_eq_true, decide_eq_true_eq, beq_iff_eq, Bool.not_eq_true'] at h
      obtain ⟨⟨⟨⟨⟨⟨⟨⟨⟨q1, q2, q3⟩, h1, ⟨rfl, rfl⟩, rfl⟩, h2⟩, h3⟩, h4⟩, h5⟩, h6⟩, h7⟩, h8⟩ := h
      exact meth_of (okE' a U) (okAll' ms U) c h1 h2 (by simpa using h3) h4 h5 h6 h7 (by simpa using h8) hP tk
    · cases h
  | .cv i fs ms, U, X, sc, e, c, h, P, Xp, hP, tk => by
    simp only [chkE] at h
    split at h
    · rename_i g gp x es pos q
      rw [asCallN_eq q]
      simp only [Bool.and_eq_true, List.all_eq_true] at h
      obtain ⟨⟨h1, h2⟩, h3⟩ := h
      have pa := os_of (P := P) (Xp := Xp) (okAll' ms U) c h2 hP tk
      cases ms with
      | nil => simp [chkEs] at h2
      | cons m ms =>
        obtain ⟨st, pl⟩ := sta_of (X := X) (pos := pos) h2
        exact e_cv (n := 4 * n) (fun f hf => def_of c hP (h3 f hf)) (fun f hf => gd_pat c (h3 f hf)) c.r0 tk (vis_of c h1) pa st pl
    · cases h
  | .bm m a ms, U, X, sc, e, c, h, P, Xp, hP, tk => by
    simp only [chkE] at h
    split at h
    · rename_i z g apos es pos q
      rw [asCallA_eq q]
      simp only [Bool.and_eq_true, decide_eq_true_eq] at h
      obtain ⟨⟨⟨⟨rfl, h2⟩, h3⟩, h4⟩, h5⟩ := h
      cases m with
      | join =>
        simp only [Bool.and_eq_true, beq_iff_eq] at h5
        obtain ⟨h5, h6⟩ := h5
        match es, ms, h5, h6 with
        | [y], [b], h5, _ =>
          simp only [chkEs, Bool.and_eq_true] at h5
          exact e_join (c.hK hP) (okO (okE' a U) c h4 hP tk) (okO (okAll' [b] U b (List.mem_singleton_self b)) c h5.1.1 hP tk) (star_of h5.1.2) (base_of h2) h3
        | [_], [], h5, _ => simp [chkEs] at h5
        | [_], _ :: _ :: _, h5, _ => simp [chkEs] at h5
      | split =>
        simp only [Bool.and_eq_true, beq_iff_eq] at h5
        obtain ⟨h5, h6⟩ := h5
        match es, ms, h5, h6 with
        | [y], [b], h5, _ =>
          simp only [chkEs, Bool.and_eq_true] at h5
          exact e_split (okO (okE' a U) c h4 hP tk) (okO (okAll' [b] U b (List.mem_singleton_self b)) c h5.1.1 hP tk) (star_of h5.1.2) (base_of h2) h3
        | [_], [], h5, _ => simp [chkEs] at h5
        | [_], _ :: _ :: _, h5, _ => simp [chkEs] at h5
      | part =>
        simp only [Bool.and_eq_true, beq_iff_eq] at h5
        obtain ⟨h5, h6⟩ := h5
        match es, ms, h5, h6 with
        | [y], [b], h5, _ =>
          simp only [chkEs, Bool.and_eq_true] at h5
          exact e_part (okO (okE' a U) c h4 hP tk) (okO (okAll' [b] U b (List.mem_singleton_self b)) c h5.1.1 hP tk) (star_of h5.1.2) (base_of h2) h3
        | [_], [], h5, _ => simp [chkEs] at h5
        | [_], _ :: _ :: _, h5, _ => simp [chkEs] at h5
      | upper =>
        simp only [Bool.and_eq_true] at h5
        obtain ⟨h5, h6⟩ := h5
        cases es with
        | cons _ _ => simp at h5
        | nil => cases ms with
          | cons _ _ => simp at h6
          | nil => exact e_upper (okO (okE' a U) c h4 hP tk) (base_of h2) h3
      | _ => simp at h5
    · cases h
  | .dsp ks ds, U, X, sc, e, c, h, P, Xp, hP, tk => by
    simp only [chkE] at h
    split at h
    · rename_i pos q
      rw [asDsp_eq0 q]
      split at h
      · exact e_dsp0
      · cases h
    · rename_i x y pos q
      rw [asDsp_eq1 q]
      split at h
      · rename_i k d
        simp only [Bool.and_eq_true] at h
        obtain ⟨h1, h2⟩ := h
        have hv : ∃ v, PE X y (tC v) ∧ ∀ F, Rep P.L F d v := by
          unfold cnsB at h2
          split at h2
          · exact const_of h2
          · cases h2
        have hk : PE X x (tC (kV k)) := by
          unfold keyB at h1
          split at h1
          · rw [eq_of_beq h1]; exact pe_int
          · rw [of_decide_eq_true h1]; exact pe_str
          · cases h1
        obtain ⟨v, h3, h4⟩ := hv
        exact e_dsp1 hk h3 h4
      · cases h
    · cases h
  | .fst ms, U, X, sc, e, c, h, P, Xp, hP, tk => by
    simp only [chkE] at h
    split at h
    · rename_i vs pos q
      obtain ⟨v1, v2, r, rfl, rfl⟩ := asFst_eq q
      exact e_fst (okF_' ms U X sc _ c h P Xp hP tk)
    · cases h
  | .bi b ms, U, X, sc, e, c, h, P, Xp, hP, tk => by
    obtain ⟨g, gp, x, es, p, rfl, h1, h2, h3, h4⟩ := i_bi h
    exact bi_of (okAll' ms U) c h1 h2 h3 h4 hP tk
  | .isi a y, U, X, sc, e, c, h, P, Xp, hP, tk => by
    simp only [chkE] at h
    split at h
    · rename_i g gp x z pos q
      rw [asCallN_eq q]
      simp only [Bool.and_eq_true, decide_eq_true_eq] at h
      obtain ⟨⟨⟨⟨⟨⟨⟨rfl, h1⟩, h2⟩, h3⟩, h4⟩, h5⟩, h6⟩, h7⟩ := h
      obtain ⟨hg, _, _⟩ := glo_of c h1
      have I := c.gr.isi y (by simpa using h7)
      exact e_isi (uv := .none) (g := "") (c.hK hP) (c.cok hP) (by rw [hP]; exact I) hg (gl_nog c h2) (okO (okE' a U) c h3 hP tk) (ty_of c hP h6) (star_of h4) (star_of h5)
    · cases h
  | .fld a f, U, X, sc, e, c, h, P, Xp, hP, tk => by
    simp only [chkE] at h
    split at h
    · rename_i z g pos q
      rw [asAttr_eq q]
      simp only [Bool.and_eq_true, decide_eq_true_eq] at h
      exact e_fld (c.hK hP) (c.cok hP) h.1.1 (okO (okE' a U) c h.2 hP tk) (base_of h.1.2)
    · cases h
  | .lm m i ms, U, X, sc, e, c, h, P, Xp, hP, tk => by
    simp only [chkE] at h
    split at h
    · rename_i z m' apos es pos q
      rw [asCallA_eq q]
      split at h
      · rename_i g gp q2
        rw [asName_eq q2]
        simp only [Bool.and_eq_true, decide_eq_true_eq] at h
        obtain ⟨⟨⟨⟨⟨h1, h2⟩, h3⟩, h4⟩, h5⟩, h6⟩ := h
        have pa := os_of (P := P) (Xp := Xp) (okAll' ms U) c h5 hP tk
        cases es with
        | nil =>
          cases m <;> simp at h6
          cases ms with
          | cons k ms => simp [chkEs] at h5
          | nil =>
            subst h1
            exact e_lm0 (vis_of c h2) h3
        | cons x es =>
          cases ms with
          | nil => simp [chkEs] at h5
          | cons k ms =>
            obtain ⟨st, pl⟩ := sta_of (X := X) (pos := pos) h5
            exact e_lm (by rintro rfl; simp at h6) h1 (vis_of c h2) pa h3 h4 st pl
      · cases h
    · cases h
  | .srk kf a, U, X, sc, e, c, h, P, Xp, hP, tk => ok_srk (okE' a U) X sc e c h P Xp hP tk
  | .xb .lrng [a], U, X, sc, e, c, h, P, Xp, hP, tk => ok_lrg (okE' a U) X sc e c h P Xp hP tk
  | .xb .trng [a], U, X, sc, e, c, h, P, Xp, hP, tk => ok_trg (okE' a U) X sc e c h P Xp hP tk
  | .xb .sum2 [a, b], U, X, sc, e, c, h, P, Xp, hP, tk => ok_sum2 (okE' a U) (okE' b U) X sc e c h P Xp hP tk
  | .xb (.min0 d) [a], U, X, sc, e, c, h, P, Xp, hP, tk => ok_min0 (okE' a U) X sc e c h P Xp hP tk
  | .xb .lrng [], U, X, sc, e, c, h, P, Xp, hP, tk => by simp [chkE] at h; split at h <;> simp [chkEs] at h
  | .xb .trng [], U, X, sc, e, c, h, P, Xp, hP, tk => by simp [chkE] at h; split at h <;> simp [chkEs] at h
  | .xb .sum2 [], U, X, sc, e, c, h, P, Xp, hP, tk => by simp [chkE] at h; split at h <;> simp [chkEs] at h
  | .xb (.min0 _) [], U, X, sc, e, c, h, P, Xp, hP, tk => by simp [chkE] at h; split at h <;> simp [chkEs] at h
  | .xb .lrng (_ :: _ :: _), U, X, sc, e, c, h, P, Xp, hP, tk => by simp [chkE] at h; split at h <;> simp [chkEs] at h
  | .xb .trng (_ :: _ :: _), U, X, sc, e, c, h, P, Xp, hP, tk => by simp [chkE] at h; split at h <;> simp [chkEs] at h
  | .xb .sum2 [_], U, X, sc, e, c, h, P, Xp, hP, tk => by simp [chkE] at h; split at h <;> simp [chkEs] at h
  | .xb .sum2 (_ :: _ :: _ :: _), U, X, sc, e, c, h, P, Xp, hP, tk => by simp [chkE] at h; split at h <;> simp [chkEs] at h
  | .xb (.min0 _) (_ :: _ :: _), U, X, sc, e, c, h, P, Xp, hP, tk => by simp [chkE] at h; split at h <;> simp [chkEs] at h
  | .lc elt g it cond own, U, X, sc, e, c, h, P, Xp, hP, tk => by
    obtain ⟨x, tg, iter, ifs, scope, p, rfl, h1, h2, h3, h4, h5, h6, h7⟩ := i_lc h
    have bk : BlkOk X.N X.env.scope scope (ownsOf N own) := by rw [c.hN, c.sc]; exact blkOk_by h5
    have hi := okI' it U X sc tg iter c h1 P Xp hP tk
    have hs := own_slots (N := N) (own := own)
    have q := pe_lc (own := ownsOf N own) (pos := p) (elt := x) (ifs := ifs) (g := gTx P.L g) (te := tEx (Gam t n) P.L elt) (tt := tTx (Gam t n) P.L cond) c.calm c.nd hi bk
      (fun s H C cl fp => pg_ex (C := fun P' => P'.L = P.L) (t := fun P' => gT P' g) fun P' hl => okTg (X := X.blk s H scope (compEnvC scope cl C X.env) fp) c.hN c.nd (c.K.trans (by rw [hl, hP])) c.calm (loc_block (X := X) (sc := sc) (cenv := compEnvC scope cl C X.env) (by show relS scope X.env.scope = _; rw [c.sc]) bk.uniq) g h3)
      (fun s H C cl fp => pts_ex (C := fun P' => P'.L = P.L) (t := fun P' => tT P' (Gam t n) XF cond) fun P' hl => by
        rcases h7 with ⟨rfl, rfl⟩ | ⟨y, rfl, h7⟩
        · exact ⟨fun pins s σ H Q I q => pts_nil.run pins s σ H Q I (by
            obtain ⟨env, F, R, ex, w, k⟩ := q
            simp only [wT] at w
            exact k _ _ H F w (LeH.refl F) ex)⟩
        · exact pts_one (okT' cond U _ _ y c.block h7 P' XF (hl.trans hP) takes_block))
      (fun s H C cl fp => pe_ex (C := fun P' => P'.L = P.L) (t := fun P' => tE P' (Gam t n) XF elt) fun P' hl => okE' elt U _ _ x c.block h6 P' XF (hl.trans hP) takes_block) (fold_of h2)
    rw [hs] at q
    exact pe_imp q fun σ H Q w => lc_imp h4 w
theorem okT' : ∀ (m : T) (U : Tx), OkT U L t n N m
  | .yes, U, X, sc, e, c, h, P, Xp, hP, tk => by
    simp [chkT] at h
  | .tv a, U, X, sc, e, c, h, P, Xp, hP, tk => by
    simp only [chkT, Bool.and_eq_true] at h
    exact t_tv (c.hK hP) (okO (okE' a U) c h.1 hP tk) (tv_of h.2)
  | .and a b, U, X, sc, e, c, h, P, Xp, hP, tk => by
    obtain ⟨x, y, r, p, rfl, h1, h2⟩ := i_tand h
    have q := okT' b U X sc _ c h2 P Xp hP tk
    refine pt_imp (PW.pt (pw_and (okT' a U X sc _ c h1 P Xp hP tk) ?_)) fun σ H Q h => tand_core h
    cases r with
    | nil => exact pw_and1 q
    | cons z r => exact pw_of q
  | .or a b, U, X, sc, e, c, h, P, Xp, hP, tk => by
    obtain ⟨x, y, r, p, rfl, h1, h2⟩ := i_tor h
    have q := okT' b U X sc _ c h2 P Xp hP tk
    refine pt_imp (PW.pt (pw_or (okT' a U X sc _ c h1 P Xp hP tk) ?_)) fun σ H Q h => tor_core h
    cases r with
    | nil => exact pw_or1 q
    | cons z r => exact pw_of q
  | .not a, U, X, sc, e, c, h, P, Xp, hP, tk => by
    obtain ⟨x, p, rfl, h⟩ := i_tnot h
    exact t_not (okT' a U X sc _ c h P Xp hP tk)
  | .cmp op a b, U, X, sc, e, c, h, P, Xp, hP, tk => by
    obtain ⟨x, y, p, rfl, h1, h2, h3⟩ := i_tcmp h
    exact t_cmp (c.hK hP) (c.hW hP) c.hu (okO (okE' a U) c h1 hP tk) (okO (okE' b U) c h2 hP tk) (mark_of h3)
  | .own neg cl f a b, U, X, sc, e, c, h, P, Xp, hP, tk => by
    obtain ⟨x, y, p, rfl, h0, h1, h2, h3, h4⟩ := i_ownT h
    obtain ⟨hk, fd, ps, dk', b'⟩ := def_of c hP h1
    have ha := okO (okE' a U) c h2 hP tk
    have hb := okO (okE' b U) c h3 hP tk
    subst hP
    have O := c.gr.ow _ h0
    rw [← c.K] at O
    exact t_own (c.hK rfl) (c.hW rfl) dk' (gd_pat c h1) c.room c.hu tk b' O ha hb (mark_of h4)
  | .chn o1 o2 a b c', U, X, sc, e, c, h, P, Xp, hP, tk => by
    obtain ⟨x, y, z, p, rfl, h1, h2, h3, h4⟩ := i_tchn h
    exact t_chn (c.hK hP) (c.hW hP) c.hu (okO (okE' a U) c h1 hP tk) (okO (okE' b U) c h2 hP tk) (okO (okE' c' U) c h3 hP tk) (marks_of h4)
theorem okI' : ∀ (m : I) (U : Tx), OkI U L t n N m
  | .it a, U, X, sc, tg, e, c, h, P, Xp, hP, tk => by
    simp only [chkI] at h
    exact i_it (c.hK hP) (okE' a U X sc _ c h P Xp hP tk)
  | .rng ms, U, X, sc, tg, e, c, h, P, Xp, hP, tk => by
    obtain ⟨gp, es, p, rfl, h1, h2, h3, h4⟩ := i_rng h
    obtain ⟨hg, _, _⟩ := glo_of c h1
    have pa := os_of (P := P) (Xp := Xp) (okAll' ms U) c h3 hP tk
    match es, ms, h3, h4 with
    | [x], [m], h3, _ =>
      simp only [chkEs, Bool.and_eq_true] at h3
      exact i_rng1 hg (gl_nog c h2) pa (by rw [star_of h3.1.2]; rfl)
    | [x, y], [m, k], h3, _ =>
      simp only [chkEs, Bool.and_eq_true] at h3
      exact i_rng2 hg (gl_nog c h2) pa (by rw [star_of h3.1.2, star_of h3.2.1.2]; rfl) (by rw [star_of h3.2.1.2]; rfl)
    | [x], [], h3, _ => simp [chkEs] at h3
    | [x], _ :: _ :: _, h3, _ => simp [chkEs] at h3
    | [x, y], [], h3, _ => simp [chkEs] at h3
    | [x, y], [_], h3, _ => simp [chkEs] at h3
    | [x, y], _ :: _ :: _ :: _, h3, _ => simp [chkEs] at h3
    | [], _, _, h4 => simp at h4
    | _ :: _ :: _ :: _, _, _, h4 => simp at h4
  | .enm ms, U, X, sc, tg, e, c, h, P, Xp, hP, tk => by
    simp only [chkI] at h
    split at h
    · rename_i g gp x pos q
      rw [asCallN_eq q]
      simp only [Bool.and_eq_true, decide_eq_true_eq] at h
      obtain ⟨⟨⟨⟨rfl, h1⟩, h2⟩, h3⟩, h4⟩ := h
      obtain ⟨hg, _, _⟩ := glo_of c h1
      have pa := os_of (P := P) (Xp := Xp) (okAll' ms U) c h3 hP tk
      match ms, h3 with
      | [m], h3 =>
        simp only [chkEs, Bool.and_eq_true] at h3
        cases tg <;> simp [isTupE] at h4
        exact i_enm (c.hK hP) hg (gl_nog c h2) pa (by rw [star_of h3.1.2]; rfl)
      | [], h3 => simp [chkEs] at h3
      | _ :: _ :: _, h3 => simp [chkEs] at h3
    · cases h
  | .zip ms, U, X, sc, tg, e, c, h, P, Xp, hP, tk => by
    simp only [chkI] at h
    split at h
    · rename_i g gp x y pos q
      rw [asCallN_eq q]
      simp only [Bool.and_eq_true, decide_eq_true_eq] at h
      obtain ⟨⟨⟨⟨rfl, h1⟩, h2⟩, h3⟩, h4⟩ := h
      obtain ⟨hg, _, _⟩ := glo_of c h1
      have pa := os_of (P := P) (Xp := Xp) (okAll' ms U) c h3 hP tk
      match ms, h3 with
      | [m, k], h3 =>
        cases tg <;> simp [isTupE] at h4
        obtain ⟨st, pl⟩ := sta_of (X := X) (pos := pos) h3
        exact i_zip (c.hK hP) hg (gl_nog c h2) pa st pl
      | [], h3 => simp [chkEs] at h3
      | [_], h3 => simp [chkEs] at h3
      | _ :: _ :: _ :: _, h3 => simp [chkEs] at h3
    · rename_i g gp x y z pos q
      rw [asCallN_eq q]
      simp only [Bool.and_eq_true, decide_eq_true_eq] at h
      obtain ⟨⟨⟨⟨rfl, h1⟩, h2⟩, h3⟩, h4⟩ := h
      obtain ⟨hg, _, _⟩ := glo_of c h1
      have pa := os_of (P := P) (Xp := Xp) (okAll' ms U) c h3 hP tk
      match ms, h3 with
      | [m, k, l], h3 =>
        cases tg <;> simp [isTupE] at h4
        obtain ⟨st, pl⟩ := sta_of (X := X) (pos := pos) h3
        exact i_zip3 (c.hK hP) hg (gl_nog c h2) pa st pl
      | [], h3 => simp [chkEs] at h3
      | [_], h3 => simp [chkEs] at h3
      | [_, _], h3 => simp [chkEs] at h3
      | _ :: _ :: _ :: _ :: _, h3 => simp [chkEs] at h3
    · cases h
  | .rvd ms, U, X, sc, tg, e, c, h, P, Xp, hP, tk => by
    simp only [chkI] at h
    split at h
    · rename_i g gp x pos q
      rw [asCallN_eq q]
      simp only [Bool.and_eq_true, decide_eq_true_eq] at h
      obtain ⟨⟨⟨rfl, h1⟩, h2⟩, h3⟩ := h
      obtain ⟨hg, _, _⟩ := glo_of c h1
      have pa := os_of (P := P) (Xp := Xp) (okAll' ms U) c h3 hP tk
      match ms, h3 with
      | [m], h3 =>
        simp only [chkEs, Bool.and_eq_true] at h3
        exact i_rvd (c.hK hP) hg (gl_nog c h2) pa (by rw [star_of h3.1.2]; rfl)
      | [], h3 => simp [chkEs] at h3
      | _ :: _ :: _, h3 => simp [chkEs] at h3
    · cases h
theorem okF_' : ∀ (ms : List E) (U : Tx), OkF U L t n N ms
  | [], U, X, sc, es, c, h, P, Xp, hP, tk => by
    cases es with
    | nil => exact fj_nil
    | cons _ _ => simp [chkF] at h
  | m :: ms, U, X, sc, es, c, h, P, Xp, hP, tk => by
    cases es with
    | nil => simp [chkF] at h
    | cons e es =>
      simp only [chkF, Bool.and_eq_true] at h
      have r := okF_' ms U X sc es c h.2 P Xp hP tk
      have h1 := h.1
      split at h1
      · rename_i x pos q
        rw [asFmt_eq q]
        exact fj_fmt (okO (okE' m U) c h1 hP tk) r
      · simp only [Bool.and_eq_true] at h1
        obtain ⟨h1, h2⟩ := h1
        cases e with
        | Constant k j pos =>
          cases k with
          | str s =>
            cases m with
            | con d =>
              simp only [chkE] at h2
              cases d with
              | str s' =>
                simp only [constD, Bool.and_eq_true, decide_eq_true_eq] at h2
                obtain ⟨rfl, h2⟩ := h2
                exact fj_txt h2 r
              | _ => simp [constD] at h2
            | xb k es => rw [chk_xb0 rfl rfl] at h2; cases h2
            | hot k a => cases k <;> simp [chkE, asSaidC, asCallN] at h2
            | _ => simp [chkE, asCallN, asCallA, asAttr, asFst, asSlc, asRev, asDsp, asSrt] at h2
          | _ => simp [partE] at h1
        | _ => simp [partE] at h1
theorem okOo' : ∀ (o : O) (U : Tx), OkO U L t n N o
  | .no, U, X, sc, e, c, h, P, Xp, hP, tk => by
    cases e with
    | none => exact o_no
    | some _ => simp [chkO] at h
  | .at m, U, X, sc, e, c, h, P, Xp, hP, tk => by
    cases e with
    | none => simp [chkO] at h
    | some x =>
      simp only [chkO] at h
      exact o_at (okO (okE' m U) c h hP tk)
theorem okAll' : ∀ (ms : List E) (U : Tx), ∀ m ∈ ms, OkE U L t n N m
  | [], U, m, h => absurd h (by simp)
  | k :: ms, U, m, h => by
    rcases List.mem_cons.mp h with e | h
    · rw [e]; exact okE' k U
    · exact okAll' ms U m h
end
theorem okE : ∀ m : E, OkE U L t n N m := fun m => okE' m U
theorem okT : ∀ m : T, OkT U L t n N m := fun m => okT' m U
theorem okI : ∀ m : I, OkI U L t n N m := fun m => okI' m U
theorem okF_ : ∀ m : List E, OkF U L t n N m := fun m => okF_' m U
theorem okOo : ∀ m : O, OkO U L t n N m := fun m => okOo' m U
theorem okAll : ∀ ms : List E, ∀ m ∈ ms, OkE U L t n N m := fun ms => okAll' ms U
end
end G
/-! B2: statements that pass the look. -/
namespace G
open PySem PySem.Spec L2
/-- several names at once: all local, swapped by the compiler; else a tuple is made -/
def namesOf : List Expr → Option (List Str)
  | [] => some []
  | .Name x _ :: r => (namesOf r).map fun t => x :: t
  | _ :: _ => none
def sw2B (sc : Scope) (vs : List Expr) : List Expr → Bool
  | [.Name g1 px, .Name g2 py] => decide (sc.names.lookup g1 = some .local) && decide (sc.names.lookup g2 = some .local) && decide (py.line = px.line) && !(g1 == g2) && !vs.all (foldedForSure 8) && !vs.all (constantsAlone 8) && vs.length == 2
  | _ => false
def sw3B (sc : Scope) (vs : List Expr) : List Expr → Bool
  | [.Name g1 px, .Name g2 py, .Name g3 pz] => decide (sc.names.lookup g1 = some .local) && decide (sc.names.lookup g2 = some .local) && decide (sc.names.lookup g3 = some .local) && decide (py.line = px.line) && decide (pz.line = px.line) && !(g1 == g2) && !(g1 == g3) && !(g2 == g3) &&
    !vs.all (foldedForSure 8) && !vs.all (constantsAlone 8) && vs.length == 3
  | _ => false
def nosB (sc : Scope) (ts vs : List Expr) : Bool :=
  ((ts.filterMap fun
    | .Name id pos => if sc.names.lookup id == some .local && pos.line == (ts.head?.map (·.pos.line)).getD 0 then some id else none
    | _ => none).length != ts.length) || vs.all (foldedForSure 8) || !(ts.length == 2 || ts.length == 3)
def locAll (sc : Scope) (N : List Str) : List Nat → List Expr → Bool
  | [], [] => true
  | i :: is, .Name x _ :: es => decide (N[i]? = some x) && locB sc x && locAll sc N is es
  | _, _ => false
def isTup : Expr → Bool
  | .Tuple .. => true
  | _ => false
def asSet : Stmt → Option (Str × Pos × Expr × Pos)
  | .Assign [.Name x px] y pos => some (x, px, y, pos)
  | _ => none
def asOne : Stmt → Option (Expr × Expr × Pos)
  | .Assign [tg] y pos => some (tg, y, pos)
  | _ => none
def asPar : Stmt → Option (List Expr × Nat × Pos × List Expr × Nat × Pos × Pos)
  | .Assign [.Tuple ts k1 p1] (.Tuple ys k2 p2) pos => some (ts, k1, p1, ys, k2, p2, pos)
  | _ => none
def asPut : Stmt → Option (Str × Pos × Expr × Pos × Expr × Pos)
  | .Assign [.Subscript (.Name x px) z tp] y pos => some (x, px, z, tp, y, pos)
  | _ => none
def asEx : Stmt → Option (Expr × Pos)
  | .Expr y p => some (y, p)
  | _ => none
def asRet : Stmt → Option (Option Expr × Pos)
  | .Return y p => some (y, p)
  | _ => none
def asIf : Stmt → Option (Expr × List Stmt × List Stmt × Pos)
  | .If x xs ys p => some (x, xs, ys, p)
  | _ => none
def asFor : Stmt → Option (Expr × Expr × List Stmt × Pos)
  | .For tg iter xs [] p => some (tg, iter, xs, p)
  | _ => none
def asWhile : Stmt → Option (Expr × List Stmt × Pos)
  | .While x xs [] p => some (x, xs, p)
  | _ => none
def isPass : Stmt → Bool
  | .Pass _ => true
  | .Expr (.Constant (.str _) _ _) _ => true
  | _ => false
def isBrk : Stmt → Bool
  | .Break _ => true
  | _ => false
def isCnt : Stmt → Bool
  | .Continue _ => true
  | _ => false
def asFput : Stmt → Option (Str × Pos × Str × Pos × Expr × Pos)
  | .Assign [.Attribute (.Name x px) g tp] y pos => some (x, px, g, tp, y, pos)
  | _ => none
def asAug : Stmt → Option (Str × Pos × Operator × Expr × Pos)
  | .AugAssign (.Name x px) op y pos => some (x, px, op, y, pos)
  | _ => none
theorem asFput_eq {s : Stmt} {x px g tp y pos} (h : asFput s = some (x, px, g, tp, y, pos)) : s = .Assign [.Attribute (.Name x px) g tp] y pos := by unfold asFput at h; split at h <;> simp at h; obtain ⟨rfl, rfl, rfl, rfl, rfl, rfl⟩ := h; rfl
theorem asAug_eq {s : Stmt} {x px op y pos} (h : asAug s = some (x, px, op, y, pos)) : s = .AugAssign (.Name x px) op y pos := by unfold asAug at h; split at h <;> simp at h; obtain ⟨rfl, rfl, rfl, rfl, rfl⟩ := h; rfl
theorem asSet_eq {s : Stmt} {x px y pos} (h : asSet s = some (x, px, y, pos)) : s = .Assign [.Name x px] y pos := by unfold asSet at h; split at h <;> simp at h; obtain ⟨rfl, rfl, rfl, rfl⟩ := h; rfl
theorem asOne_eq {s : Stmt} {tg y pos} (h : asOne s = some (tg, y, pos)) : s = .Assign [tg] y pos := by unfold asOne at h; split at h <;> simp at h; obtain ⟨rfl, rfl, rfl⟩ := h; rfl
theorem asPar_eq {s : Stmt} {ts k1 p1 ys k2 p2 pos} (h : asPar s = some (ts, k1, p1, ys, k2, p2, pos)) : s = .Assign [.Tuple ts k1 p1] (.Tuple ys k2 p2) pos := by unfold asPar at h; split at h <;> simp at h; obtain ⟨rfl, rfl, rfl, rfl, rfl, rfl, rfl⟩ := h; rfl
theorem asPut_eq {s : Stmt} {x px z tp y pos} (h : asPut s = some (x, px, z, tp, y, pos)) : s = .Assign [.Subscript (.Name x px) z tp] y pos := by unfold asPut at h; split at h <;> simp at h; obtain ⟨rfl, rfl, rfl, rfl, rfl, rfl⟩ := h; rfl
theorem asEx_eq {s : Stmt} {y p} (h : asEx s = some (y, p)) : s = .Expr y p := by unfold asEx at h; split at h <;> simp at h; obtain ⟨rfl, rfl⟩ := h; rfl
theorem asRet_eq {s : Stmt} {y p} (h : asRet s = some (y, p)) : s = .Return y p := by unfold asRet at h; split at h <;> simp at h; obtain ⟨rfl, rfl⟩ := h; rfl
theorem asIf_eq {s : Stmt} {x xs ys p} (h : asIf s = some (x, xs, ys, p)) : s = .If x xs ys p := by unfold asIf at h; split at h <;> simp at h; obtain ⟨rfl, rfl, rfl, rfl⟩ := h; rfl
theorem asFor_eq {s : Stmt} {tg iter xs p} (h : asFor s = some (tg, iter, xs, p)) : s = .For tg iter xs [] p := by unfold asFor at h; split at h <;> simp at h; obtain ⟨rfl, rfl, rfl, rfl⟩ := h; rfl
theorem asWhile_eq {s : Stmt} {x xs p} (h : asWhile s = some (x, xs, p)) : s = .While x xs [] p := by unfold asWhile at h; split at h <;> simp at h; obtain ⟨rfl, rfl, rfl⟩ := h; rfl
/-- a comprehension given to a name -/
def setComp (sc : Scope) (x : Str) (px : Pos) : Expr → Bool
  | .ListComp _ _ scope p => decide (sc.names.lookup x = some .cell) || (decide (sc.names.lookup x = some .local) && (px.line == p.line) && !(scope.names.any fun (n, k) => n == x && (k == .local || k == .cell)))
  | _ => false
mutual
def chkS (U : Tx) (N : List Str) : S → Scope → Stmt → Bool
  | .asg i e, sc, s => match asSet s with
    | some (x, px, y, _) => decide (N[i]? = some x) && locB sc x && chkE U N e sc y && (noComp y || setComp sc x px y)
    | none => false
  | .asgT t e, sc, s => match asOne s with
    | some (tg, y, _) => isTup tg && chkTg (locB sc) N t tg && noComp y && noTup y && chkE U N e sc y
    | none => false
  | .par is es, sc, s => match asPar s with
    | some (ts, _, _, ys, _, _, _) => locAll sc N is ts && chkEs U N es sc ys && decide is.Nodup && decide (es.length ≤ 1000) && decide (is.length = es.length) && (sw2B sc ys ts || sw3B sc ys ts || nosB sc ts ys)
    | none => false
  | .put i ix e, sc, s => match asPut s with
    | some (x, _, z, _, y, _) => visN sc N x i && chkE U N ix sc z && okF z && chkE U N e sc y && noComp y
    | none => false
  | .ex e, sc, s => match asEx s with
    | some (y, _) => chkE U N e sc y && noComp y
    | none => false
  | .fput i f e, sc, s => match asFput s with
    | some (x, _, g, _, y, _) => visN sc N x i && decide (g = attrNm f) && chkE U N e sc y && noComp y
    | none => false
  | .aug i op e, sc, s => match asAug s with
    | some (x, _, op', y, _) => decide (op = op') && decide (N[i]? = some x) && locB sc x && chkE U N e sc y
    | none => false
  | .pass, sc, s => isPass s
  | .raise c, sc, s => match asRaise s with
    | some (g, _, _, _, _, _, _) => gloB sc g && U.exc.any fun q => q.1 == c && decide (q.2 = g)
    | none => false
  | .bad, sc, s => true
  | .brk, sc, s => isBrk s
  | .cnt, sc, s => isCnt s
  | .ret e, sc, s => match asRet s with
    | some (some y, _) => chkE U N e sc y
    | _ => false
  | .retN, sc, s => match asRet s with
    | some (none, _) => true
    | _ => false
  | .ite c a b, sc, s => match asIf s with
    | some (x, xs, ys, _) => chkT U N c sc x && chkSs U N a sc xs && chkSs U N b sc ys
    | none => false
  | .for_ t it b, sc, s => match asFor s with
    | some (tg, iter, xs, _) => chkI U N it sc tg iter && okF iter && chkTg (locB sc) N t tg && chkSs U N b sc xs
    | none => false
  | .while_ c b, sc, s => match asWhile s with
    | some (x, xs, _) => chkT U N c sc x && chkSs U N b sc xs
    | none => false
def chkSs (U : Tx) (N : List Str) : List S → Scope → List Stmt → Bool
  | [], sc, [] => true
  | m :: ms, sc, s :: ss => chkS U N m sc s && chkSs U N ms sc ss
  | _, _, _ => false
end
section
variable {U : Tx} {L : Lay} {t : Text} {n : Nat} {N : List Str} {sc : Scope} {X : Cx} {P : PP} {Xp : XP} {pos : Pos}
theorem loc_of (c : CO U L t n N sc X) {x : Str} (h : locB sc x = true) : Loc X.env.scope x := by
  rw [c.sc]
  unfold locB at h
  split at h
  · exact .inl (by assumption)
  · exact .inr (by assumption)
  · cases h
theorem blockKind_fn {env : PySem.Env} (h : env.scope.kind = .function) : env.blockKind = .function := by
  unfold Env.blockKind
  rw [h]
  rfl
theorem stores_none {env : PySem.Env} {ts vs : List Expr} {k1 k2 : Nat} {p1 p2 : Pos} (hs : env.scope = sc) (h : nosB sc ts vs = true) : swappedStores [.Tuple ts k1 p1] (.Tuple vs k2 p2) env = pure none := by
  unfold swappedStores
  dsimp only
  simp only [Env.kindOf, hs]
  simp only [nosB] at h
  generalize (List.filterMap _ ts) = nm at h ⊢
  split
  · rfl
  · rename_i c1
    split
    · rfl
    · split
      · rfl
      · rename_i c3
        split
        · rfl
        · rename_i c4
          exfalso
          simp only [Bool.or_eq_true, not_or, Bool.not_eq_true] at c1 c3 h
          rcases h with (h | h) | h
          · rw [c3.1] at h; cases h
          · exact c4 h
          · rw [c1.1.1] at h; cases h
theorem folded_no {q : Bool} {α : Type} {a b : α} (h : q = false) : (if q = true then a else b) = b := by rw [h]; rfl
theorem stores_two {env : PySem.Env} {g1 g2 : Str} {px py : Pos} {vs : List Expr} {k1 k2 : Nat} {p1 p2 : Pos} (hk : env.scope.kind = .function) (hs : env.scope = sc) (hv : ∀ v ∈ vs, okF v = true) (h : sw2B sc vs [.Name g1 px, .Name g2 py] = true) :
    sc.names.lookup g1 = some .local ∧ sc.names.lookup g2 = some .local ∧ swappedStores [.Tuple [.Name g1 px, .Name g2 py] k1 p1] (.Tuple vs k2 p2) env = pure (some [g1, g2]) := by
  simp only [sw2B, Bool.and_eq_true, Bool.not_eq_true', decide_eq_true_eq, beq_iff_eq, beq_eq_false_iff_ne, ne_eq] at h
  obtain ⟨⟨⟨⟨⟨⟨h1, h2⟩, h3⟩, h4⟩, h5⟩, h6⟩, h7⟩ := h
  refine ⟨h1, h2, ?_⟩
  have h4' : ¬ g2 = g1 := fun z => h4 z.symm
  have l1 : env.kindOf g1 = some .local := by rw [Env.kindOf, hs]; exact h1
  have l2 : env.kindOf g2 = some .local := by rw [Env.kindOf, hs]; exact h2
  have eD : ([g1, g2] : List Str).eraseDups = [g1, g2] := by simp only [List.eraseDups_cons, List.filter_cons, List.filter_nil, List.eraseDups_nil, beq_iff_eq, h4', decide_false, Bool.not_false, if_true, beq_eq_false_iff_ne.mpr h4', Bool.not_false]
  unfold swappedStores
  dsimp only
  have nm : ∀ f : Expr → Option Str, f (.Name g1 px) = some g1 → f (.Name g2 py) = some g2 → [Expr.Name g1 px, Expr.Name g2 py].filterMap f = [g1, g2] := fun f a b => by
    rw [List.filterMap_cons, a, List.filterMap_cons, b, List.filterMap_nil]
  rw [nm _ (by simp [l1, Expr.pos]) (by simp [l2, Expr.pos, h3])]
  split
  · rename_i c
    rw [blockKind_fn hk, h7] at c
    exact absurd (show false = true from c) Bool.false_ne_true
  · split
    · rename_i c
      rw [List.any_eq_true] at c
      obtain ⟨v, hm, c⟩ := c
      have := hv v hm
      cases v <;> simp [okF] at this c
    · split
      · rename_i c
        rw [eD] at c
        exact absurd (show false = true from c) Bool.false_ne_true
      · rw [h5, h6]
        rfl
theorem stores_three {env : PySem.Env} {g1 g2 g3 : Str} {px py pz : Pos} {vs : List Expr} {k1 k2 : Nat} {p1 p2 : Pos} (hk : env.scope.kind = .function) (hs : env.scope = sc) (hv : ∀ v ∈ vs, okF v = true) (h : sw3B sc vs [.Name g1 px, .Name g2 py, .Name g3 pz] = true) :
    sc.names.lookup g1 = some .local ∧ sc.names.lookup g2 = some .local ∧ sc.names.lookup g3 = some .local ∧ swappedStores [.Tuple [.Name g1 px, .Name g2 py, .Name g3 pz] k1 p1] (.Tuple vs k2 p2) env = pure (some [g1, g2, g3]) := by
  simp only [sw3B, Bool.and_eq_true, Bool.not_eq_true', decide_eq_true_eq, beq_iff_eq, beq_eq_false_iff_ne, ne_eq] at h
  obtain ⟨⟨⟨⟨⟨⟨⟨⟨⟨⟨h1, h2⟩, h2'⟩, h3⟩, h3'⟩, h4⟩, h4a⟩, h4b⟩, h5⟩, h6⟩, h7⟩ := h
  refine ⟨h1, h2, h2', ?_⟩
  have n1 : (g2 == g1) = false := beq_eq_false_iff_ne.mpr fun z => h4 z.symm
  have n2 : (g3 == g1) = false := beq_eq_false_iff_ne.mpr fun z => h4a z.symm
  have n3 : (g3 == g2) = false := beq_eq_false_iff_ne.mpr fun z => h4b z.symm
  have l1 : env.kindOf g1 = some .local := by rw [Env.kindOf, hs]; exact h1
  have l2 : env.kindOf g2 = some .local := by rw [Env.kindOf, hs]; exact h2
  have l3 : env.kindOf g3 = some .local := by rw [Env.kindOf, hs]; exact h2'
  have eD : ([g1, g2, g3] : List Str).eraseDups = [g1, g2, g3] := by
    simp only [List.eraseDups_cons, List.filter_cons, List.filter_nil, List.eraseDups_nil, n1, n2, n3, Bool.not_false, if_true]
  unfold swappedStores
  dsimp only
  have nm : ∀ f : Expr → Option Str, f (.Name g1 px) = some g1 → f (.Name g2 py) = some g2 → f (.Name g3 pz) = some g3 → [Expr.Name g1 px, Expr.Name g2 py, Expr.Name g3 pz].filterMap f = [g1, g2, g3] := fun f a b c => by
    rw [List.filterMap_cons, a, List.filterMap_cons, b, List.filterMap_cons, c, List.filterMap_nil]
  rw [nm _ (by simp [l1, Expr.pos]) (by simp [l2, Expr.pos, h3]) (by simp [l3, Expr.pos, h3'])]
  split
  · rename_i c
    rw [blockKind_fn hk, h7] at c
    exact absurd (show false = true from c) Bool.false_ne_true
  · split
    · rename_i c
      rw [List.any_eq_true] at c
      obtain ⟨v, hm, c⟩ := c
      have := hv v hm
      cases v <;> simp [okF] at this c
    · split
      · rename_i c
        rw [eD] at c
        exact absurd (show false = true from c) Bool.false_ne_true
      · rw [h5, h6]
        rfl
theorem rs_of : ∀ {ms : List E} {es : List Expr} {P : PP}, CO U L t n N sc X → chkEs U N ms sc es = true → P.L = L → Takes X (WXo P Xp) → PA X es (tRs P (Gam t n) Xp ms)
  | [], [], _, _, _, _, _ => rs_nil
  | [], _ :: _, _, _, h, _, _ => by simp [chkEs] at h
  | _ :: _, [], _, _, h, _, _ => by simp [chkEs] at h
  | m :: ms, e :: es, P, c, h, hP, tk => by
    simp only [chkEs, Bool.and_eq_true] at h
    exact rs_cons (okE m X sc e c h.1.1 P Xp hP tk) (fun P' hl => rs_of c h.2 (hl.L.trans hP) (tk.imp hl.wx)) (star_of h.1.2)
theorem chkEs_okF : ∀ {ms : List E} {es : List Expr}, chkEs U N ms sc es = true → ms.length = es.length ∧ ∀ e ∈ es, okF e = true
  | [], [], _ => ⟨rfl, fun _ h => by simp at h⟩
  | [], _ :: _, h => by simp [chkEs] at h
  | _ :: _, [], h => by simp [chkEs] at h
  | m :: ms, e :: es, h => by
    simp only [chkEs, Bool.and_eq_true] at h
    obtain ⟨h1, h2⟩ := chkEs_okF h.2
    refine ⟨by rw [List.length_cons, List.length_cons, h1], fun x hx => ?_⟩
    rcases List.mem_cons.mp hx with rfl | hx
    · exact h.1.2
    · exact h2 x hx
theorem names_of (c : CO U L t n N sc X) (hf : ∀ x, X.fn x = true) : ∀ {is : List Nat} {ts : List Expr}, locAll sc N is ts = true → PGs X ts (gNs is) ∧ ts.length = is.length ∧ (assignEach ts X.env).length = is.length ∧ (assignEach ts X.env).findIdx? (·.1) = none
  | [], [], _ => ⟨gn_nil, rfl, rfl, rfl⟩
  | [], _ :: _, h => by simp [locAll] at h
  | _ :: _, [], h => by simp [locAll] at h
  | i :: is, e :: es, h => by
    cases e
    case Name x p =>
      simp only [locAll, Bool.and_eq_true, decide_eq_true_eq] at h
      obtain ⟨h1, h2, h3, h4⟩ := names_of c hf h.2
      refine ⟨gn_cons (pg_name c.nd (by rw [c.hN]; exact h.1.1) (loc_of c h.1.2) (.inl (hf x))) h1 rfl, by rw [List.length_cons, List.length_cons, h2], ?_, ?_⟩
      · show (assignEach es X.env).length + 1 = _
        rw [h3, List.length_cons]
      · show List.findIdx? _ ((false, _) :: assignEach es X.env) = none
        rw [List.findIdx?_cons]
        simp only [h4]
        rfl
    all_goals simp [locAll] at h
theorem locAll_at : ∀ {is : List Nat} {ts : List Expr}, locAll sc N is ts = true → ∀ (k : Nat) (x : Str) (p : Pos), ts[k]? = some (.Name x p) → ∃ i, is[k]? = some i ∧ N[i]? = some x
  | [], [], _, k, x, p, h => by simp at h
  | [], _ :: _, h, _, _, _, _ => by simp [locAll] at h
  | _ :: _, [], h, _, _, _, _ => by simp [locAll] at h
  | i :: is, e :: es, h, k, x, p, q => by
    cases e
    case Name y p' =>
      simp only [locAll, Bool.and_eq_true, decide_eq_true_eq] at h
      cases k with
      | zero => simp at q; obtain ⟨rfl, rfl⟩ := q; exact ⟨i, rfl, h.1.1⟩
      | succ k =>
        obtain ⟨j, h1, h2⟩ := locAll_at h.2 k x p (by simpa using q)
        exact ⟨j, by simpa using h1, h2⟩
    all_goals simp [locAll] at h
end
end G
/-! B3: every statement that passes the look keeps its meaning. -/
namespace G
open PySem PySem.Spec L2
def OkS (U : Tx) (L : Lay) (t : Text) (n : Nat) (N : List Str) (m : S) : Prop :=
  ∀ (X : Cx) (sc : Scope) (s : Stmt), CO U L t n N sc X → (∀ x, X.fn x = true) → sc.kind = .function → chkS U N m sc s = true → ∀ (P : PP) (Xp : XP), P.L = L → Takes X (WXo P Xp) → PS X s (tS P (Gam t n) Xp m)
def OkSs (U : Tx) (L : Lay) (t : Text) (n : Nat) (N : List Str) (ms : List S) : Prop :=
  ∀ (X : Cx) (sc : Scope) (s : List Stmt), CO U L t n N sc X → (∀ x, X.fn x = true) → sc.kind = .function → chkSs U N ms sc s = true → ∀ (P : PP) (Xp : XP), P.L = L → Takes X (WXo P Xp) → PSs X s (tSs P (Gam t n) Xp ms)
section
variable {U : Tx} {L : Lay} {t : Text} {n : Nat} {N : List Str} {sc : Scope} {X : Cx} {P : PP} {Xp : XP} {pos : Pos}
theorem st_of (c : CO U L t n N sc X) (hf : ∀ x, X.fn x = true) : ∀ x, locB sc x = true → Loc X.env.scope x ∧ (X.fn x = true ∨ X.env.scope.names.lookup x = some .local) := fun x h => ⟨loc_of c h, .inl (hf x)⟩
theorem sub_assign {o z : Expr} {p : Pos} {env : PySem.Env} (h : okF z = true) : ∀ v, assign (.Subscript o z p) env v = (do
      let ov ← holding [v] (eval o env)
      let iv ← holding [v, ov] (eval z env)
      standAt p
      holding [v, ov, iv] (setItem ov iv v)
      release [v, ov, iv] []) := fun v => by
  cases z <;> first
    | rfl
    | (simp [okF] at h)
theorem isTup_of {tg : Expr} (h : isTup tg = true) : ∃ ts k p, tg = .Tuple ts k p := by
  cases tg <;> first
    | exact ⟨_, _, _, rfl⟩
    | (simp [isTup] at h)
theorem ret_imp {e : Expr} {m : E} (hv : ∀ i, m = .var i → PE X e (tVar i)) (he : PE X e (tE P (Gam t n) Xp m)) : PS X (.Return (some e) pos) (tS P (Gam t n) Xp (.ret m)) := by
  by_cases h : ∃ i, m = .var i
  · obtain ⟨i, rfl⟩ := h
    exact s_retV (hv i rfl)
  · exact s_ret (fun i q => h ⟨i, q⟩) he
theorem var_vis (c : CO U L t n N sc X) {x : Expr} {m : E} (h : chkE U N m sc x = true) : ∀ i, m = .var i → PE X x (tVar i) := fun i e => by
  subst e
  cases x <;> simp only [chkE] at h <;> first
    | exact vis_of c h
    | (exact absurd h (by simp))
theorem nodup2 {i j : Nat} (h : [i, j].Nodup) : i ≠ j := by simpa using h
theorem nodup3 {i j k : Nat} (h : [i, j, k].Nodup) : i ≠ j ∧ i ≠ k ∧ j ≠ k := by
  simp only [List.nodup_cons, List.mem_cons, List.not_mem_nil, or_false, not_or] at h
  exact ⟨h.1.1, h.1.2, h.2.1⟩
theorem par_ok {is : List Nat} {ms : List E} {ts ys : List Expr} {k1 k2 : Nat} {p1 p2 : Pos} (c : CO U L t n N sc X) (hf : ∀ x, X.fn x = true) (hk : sc.kind = .function) (h1 : locAll sc N is ts = true) (h2 : chkEs U N ms sc ys = true) (h3 : is.Nodup) (h4 : ms.length ≤ 1000) (h5 : is.length = ms.length)
    (h6 : (sw2B sc ys ts || sw3B sc ys ts || nosB sc ts ys) = true) (hP : P.L = L) (tk : Takes X (WXo P Xp)) : PS X (.Assign [.Tuple ts k1 p1] (.Tuple ys k2 p2) pos) (tS P (Gam t n) Xp (.par is ms)) := by
  have pa := rs_of (P := P) (Xp := Xp) c h2 hP tk
  obtain ⟨lm, hok⟩ := chkEs_okF h2
  obtain ⟨pg, l1, l2, l3⟩ := names_of c hf h1
  have hkX : X.env.scope.kind = .function := by rw [c.sc]; exact hk
  simp only [Bool.or_eq_true] at h6
  rcases h6 with (h6 | h6) | h6
  · match ts, h6 with
    | [.Name g1 px, .Name g2 py], h6 =>
      obtain ⟨q1, q2, q3⟩ := stores_two (k1 := k1) (k2 := k2) (p1 := p1) (p2 := p2) hkX c.sc hok h6
      match is, l1, h5, h3, h1 with
      | [i, j], _, h5, h3, h1 =>
        obtain ⟨i', a1, a2⟩ := locAll_at h1 0 g1 px rfl
        obtain ⟨j', b1, b2⟩ := locAll_at h1 1 g2 py rfl
        cases a1; cases b1
        match ys, lm, pa, q3 with
        | [y1, y2], _, pa, q3 => exact s_par2 c.calm c.nd (by rw [c.hN]; exact a2) (by rw [c.hN]; exact b2) (nodup2 h3) (by rw [c.sc]; exact q1) (by rw [c.sc]; exact q2) pa h5.symm q3 rfl
        | [], lm, _, _ => rw [← h5] at lm; simp at lm
        | [_], lm, _, _ => rw [← h5] at lm; simp at lm
        | _ :: _ :: _ :: _, lm, _, _ => rw [← h5] at lm; simp at lm
  · match ts, h6 with
    | [.Name g1 px, .Name g2 py, .Name g3 pz], h6 =>
      obtain ⟨q1, q2, q2', q3⟩ := stores_three (k1 := k1) (k2 := k2) (p1 := p1) (p2 := p2) hkX c.sc hok h6
      match is, l1, h5, h3, h1 with
      | [i, j, l], _, h5, h3, h1 =>
        obtain ⟨i', a1, a2⟩ := locAll_at h1 0 g1 px rfl
        obtain ⟨j', b1, b2⟩ := locAll_at h1 1 g2 py rfl
        obtain ⟨l', d1, d2⟩ := locAll_at h1 2 g3 pz rfl
        cases a1; cases b1; cases d1
        obtain ⟨n1, n2, n3⟩ := nodup3 h3
        match ys, lm, pa, q3 with
        | [y1, y2, y3], _, pa, q3 => exact s_par3 c.calm c.nd (by rw [c.hN]; exact a2) (by rw [c.hN]; exact b2) (by rw [c.hN]; exact d2) n1 n2 n3 (by rw [c.sc]; exact q1) (by rw [c.sc]; exact q2) (by rw [c.sc]; exact q2') pa h5.symm q3 rfl
        | [], lm, _, _ => rw [← h5] at lm; simp at lm
        | [_], lm, _, _ => rw [← h5] at lm; simp at lm
        | [_, _], lm, _, _ => rw [← h5] at lm; simp at lm
        | _ :: _ :: _ :: _ :: _, lm, _, _ => rw [← h5] at lm; simp at lm
  · exact s_parT c.calm pa pg h4 h5 l2 l3 rfl (stores_none c.sc h6) rfl
theorem lc_shape {e : E} {el : Expr} {gs : List Comprehension} {scope : Scope} {p : Pos} (h : chkE U N e sc (.ListComp el gs scope p) = true) : ∃ elt g it cond own, e = .lc elt g it cond own := by
  cases e <;> first
    | exact ⟨_, _, _, _, _, rfl⟩
    | (rw [chk_xb0 rfl rfl] at h; cases h)
    | (rename_i k a; cases k <;> (simp [chkE, asSaidC, asCallN] at h; done))
    | (simp [chkE, asSlc, asRev, asCallN, asCallA, asAttr, asFst, asDsp, asSrt] at h)
theorem swap_cell {el : Expr} {gs : List Comprehension} {scope : Scope} {p px : Pos} {x : Str} {l : Nat} {env : PySem.Env} (h : env.kindOf x = some .cell) : swapsWith (.ListComp el gs scope p) (some (.Name x px)) l env = pure false := by
  unfold swapsWith
  simp only [h]
  have : ((some NameKind.cell : Option NameKind) == some NameKind.local) = false := by decide
  rw [this]
  simp
theorem stores_sub {o z y : Expr} {p : Pos} {env : PySem.Env} : swappedStores [.Subscript o z p] y env = pure none := by
  cases y <;> rfl
theorem asgc_ok {i : Nat} {e : E} {x : Str} {px pos : Pos} {y : Expr} (c : CO U L t n N sc X) (hf : ∀ x, X.fn x = true) (hk : sc.kind = .function) (h1 : N[i]? = some x) (h2 : locB sc x = true) (h3 : chkE U N e sc y = true) (h4 : setComp sc x px y = true) (hP : P.L = L) (tk : Takes X (WXo P Xp)) :
    PS X (.Assign [.Name x px] y pos) (tS P (Gam t n) Xp (.asg i e)) := by
  cases y
  case ListComp el gs scope p =>
    simp only [setComp, Bool.or_eq_true, decide_eq_true_eq, Bool.and_eq_true, Bool.not_eq_true'] at h4
    rcases h4 with h4 | h4
    · exact ps_imp (ps_set c.nd (by rw [c.hN]; exact h1) (loc_of c h2) (okE e X sc _ c h3 P Xp hP tk) (swap_cell (by rw [Env.kindOf, c.sc]; exact h4)) (.inl (hf x))) fun Dn σ H q => asg_imp q
    · obtain ⟨elt, g, it, cond, own, rfl⟩ := lc_shape h3
      obtain ⟨x', tg, iter, ifs, scope', p', e1, k1, k2, k3, k4, k5, k6, k7⟩ := i_lc h3
      injection e1 with a1 a2 a3 a4
      subst a1; subst a2; subst a3; subst a4
      have bk : BlkOk X.N X.env.scope scope (ownsOf N own) := by rw [c.hN, c.sc]; exact blkOk_by k5
      have hi := okI it X sc tg iter c k1 P Xp hP tk
      have hs := own_slots (N := N) (own := own)
      have q := ps_setLc (i := i) (y := x) (py := px) (spos := pos) (own := ownsOf N own) (pos := p) (elt := el) (ifs := ifs) (g := gTx P.L g) (te := tEx (Gam t n) P.L elt) (tt := tTx (Gam t n) P.L cond) c.calm c.nd (by rw [c.hN]; exact h1) (by rw [c.sc]; exact h4.1.1)
        (sw_true (by rw [c.sc]; exact hk) (by rw [c.sc]; exact h4.1.1) h4.1.2 h4.2) hi bk
        (fun s H C cl fp => pg_ex (C := fun P' => P'.L = P.L) (t := fun P' => gT P' g) fun P' hl => okTg (X := X.blk s H scope (compEnvC scope cl C X.env) fp) c.hN c.nd (c.K.trans (by rw [hl, hP])) c.calm (loc_block (X := X) (sc := sc) (cenv := compEnvC scope cl C X.env) (by show relS scope X.env.scope = _; rw [c.sc]) bk.uniq) g k3)
        (fun s H C cl fp => pts_ex (C := fun P' => P'.L = P.L) (t := fun P' => tT P' (Gam t n) XF cond) fun P' hl => by
          rcases k7 with ⟨rfl, rfl⟩ | ⟨y, rfl, h7⟩
          · exact ⟨fun pins s σ H Q I q => pts_nil.run pins s σ H Q I (by
              obtain ⟨env, F, R, ex, w, k⟩ := q
              simp only [wT] at w
              exact k _ _ H F w (LeH.refl F) ex)⟩
          · exact pts_one (okT cond _ _ y c.block h7 P' XF (hl.trans hP) takes_block))
        (fun s H C cl fp => pe_ex (C := fun P' => P'.L = P.L) (t := fun P' => tE P' (Gam t n) XF elt) fun P' hl => okE elt _ _ _ c.block k6 P' XF (hl.trans hP) takes_block) (fold_of k2)
      rw [hs] at q
      exact ps_imp q fun Dn σ H w => lc_imp k4 (asg_imp w)
  all_goals simp [setComp] at h4
mutual
theorem okS : ∀ m : S, OkS U L t n N m
  | .asg i e, X, sc, s, c, hf, hk, h, P, Xp, hP, tk => by
    unfold chkS at h
    split at h
    · rename_i x px y pos q
      rw [asSet_eq q]
      simp only [Bool.and_eq_true, decide_eq_true_eq, Bool.or_eq_true] at h
      obtain ⟨⟨⟨h1, h2⟩, h3⟩, h4⟩ := h
      rcases h4 with h4 | h4
      · exact ps_imp (ps_set c.nd (by rw [c.hN]; exact h1) (loc_of c h2) (okE e X sc y c h3 P Xp hP tk) (swap_of h4) (.inl (hf x))) fun Dn σ H q => asg_imp q
      · exact asgc_ok c hf hk h1 h2 h3 h4 hP tk
    · cases h
  | .asgT g e, X, sc, s, c, hf, hk, h, P, Xp, hP, tk => by
    unfold chkS at h
    split at h
    · rename_i tg y pos q
      rw [asOne_eq q]
      simp only [Bool.and_eq_true] at h
      obtain ⟨⟨⟨⟨h1, h2⟩, h3⟩, h4⟩, h5⟩ := h
      obtain ⟨ts, k, p, rfl⟩ := isTup_of h1
      exact s_asgT (okE e X sc y c h5 P Xp hP tk) (okTg c.hN c.nd (c.K.trans (by rw [hP])) c.calm (st_of c hf) g h2) (swapS_of h3) (stores_of h4) rfl
    · cases h
  | .par is es, X, sc, s, c, hf, hk, h, P, Xp, hP, tk => by
    unfold chkS at h
    split at h
    · rename_i q
      rw [asPar_eq q]
      simp only [Bool.and_eq_true, decide_eq_true_eq] at h
      obtain ⟨⟨⟨⟨⟨h1, h2⟩, h3⟩, h4⟩, h5⟩, h6⟩ := h
      exact par_ok c hf hk h1 h2 h3 h4 h5 h6 hP tk
    · cases h
  | .put i ix e, X, sc, s, c, hf, hk, h, P, Xp, hP, tk => by
    unfold chkS at h
    split at h
    · rename_i q
      rw [asPut_eq q]
      simp only [Bool.and_eq_true] at h
      obtain ⟨⟨⟨⟨h1, h2⟩, h3⟩, h4⟩, h5⟩ := h
      have hv := fun p => vis_of (X := X) (pos := p) c h1
      have hi := okO (okE ix) c h2 hP tk
      exact s_put (hv _) hi (okE e X sc _ c h4 P Xp hP tk) (pg_sub (hv _) hi set_list (sub_assign h3)) (swapS_of h5) stores_sub rfl
    · cases h
  | .ex e, X, sc, s, c, hf, hk, h, P, Xp, hP, tk => by
    unfold chkS at h
    split at h
    · rename_i q
      rw [asEx_eq q]
      simp only [Bool.and_eq_true] at h
      exact s_ex (okE e X sc _ c h.1 P Xp hP tk) (swap_of h.2)
    · cases h
  | .fput i f e, X, sc, s, c, hf, hk, h, P, Xp, hP, tk => by
    unfold chkS at h
    split at h
    · rename_i q
      rw [asFput_eq q]
      simp only [Bool.and_eq_true, decide_eq_true_eq] at h
      obtain ⟨⟨⟨h1, h2⟩, h3⟩, h4⟩ := h
      exact s_fput (c.hK hP) (c.cok hP) h2 (vis_of c h1) (okE e X sc _ c h3 P Xp hP tk) (swap_of h4)
    · cases h
  | .aug i op e, X, sc, s, c, hf, hk, h, P, Xp, hP, tk => by
    unfold chkS at h
    split at h
    · rename_i q
      rw [asAug_eq q]
      simp only [Bool.and_eq_true, decide_eq_true_eq] at h
      obtain ⟨⟨⟨rfl, h1⟩, h2⟩, h3⟩ := h
      exact s_aug (c.hK hP) c.nd (by rw [c.hN]; exact h1) (loc_of c h2) (okO (okE e) c h3 hP tk) (.inl (hf _))
    · cases h
  | .pass, X, sc, s, c, hf, hk, h, P, Xp, hP, tk => by
    simp only [chkS] at h
    unfold isPass at h
    split at h
    · exact s_pass
    · exact s_doc
    · cases h
  | .brk, X, sc, s, c, hf, hk, h, P, Xp, hP, tk => by
    simp only [chkS] at h
    unfold isBrk at h
    split at h
    · exact s_brk
    · cases h
  | .cnt, X, sc, s, c, hf, hk, h, P, Xp, hP, tk => by
    simp only [chkS] at h
    unfold isCnt at h
    split at h
    · exact s_cnt
    · cases h
  | .ret e, X, sc, s, c, hf, hk, h, P, Xp, hP, tk => by
    unfold chkS at h
    split at h
    · rename_i q
      rw [asRet_eq q]
      exact ret_imp (var_vis c h) (okE e X sc _ c h P Xp hP tk)
    · cases h
  | .retN, X, sc, s, c, hf, hk, h, P, Xp, hP, tk => by
    unfold chkS at h
    split at h
    · rename_i q
      rw [asRet_eq q]
      exact s_retN
    · cases h
  | .raise k, X, sc, s, c, hf, hk, h, P, Xp, hP, tk => by
    unfold chkS at h
    split at h
    · rename_i g p m j p2 pos pos2 q
      rw [asRaise_eq q]
      simp only [Bool.and_eq_true, List.any_eq_true, beq_iff_eq, decide_eq_true_eq] at h
      obtain ⟨h1, ⟨c1, g1⟩, hq, rfl, rfl⟩ := h
      obtain ⟨hg, hdb, _⟩ := glo_of c h1
      subst hP
      have T := c.gr.xc _ hq
      rw [← c.K] at T
      exact s_raise c.calm tk T hg hdb
    · cases h
  | .bad, X, sc, s, c, hf, hk, h, P, Xp, hP, tk => ⟨fun pins s' σ H Dn I q => by
    obtain ⟨_, _, _, _, z, _⟩ := q
    simp only [wS] at z⟩
  | .ite b a d, X, sc, s, c, hf, hk, h, P, Xp, hP, tk => by
    unfold chkS at h
    split at h
    · rename_i q
      rw [asIf_eq q]
      simp only [Bool.and_eq_true] at h
      exact s_ite (okT b X sc _ c h.1.1 P Xp hP tk) (okSs a X sc _ c hf hk h.1.2 P Xp hP tk) (okSs d X sc _ c hf hk h.2 P Xp hP tk)
    · cases h
  | .for_ g it b, X, sc, s, c, hf, hk, h, P, Xp, hP, tk => by
    unfold chkS at h
    split at h
    · rename_i q
      rw [asFor_eq q]
      simp only [Bool.and_eq_true] at h
      obtain ⟨⟨⟨h1, h2⟩, h3⟩, h4⟩ := h
      exact s_for c.pas c.calm (okI it X sc _ _ c h1 P Xp hP tk) (fun P' hl => okTg c.hN c.nd (c.K.trans (by rw [hl.L, hP])) c.calm (st_of c hf) g h3) (fun P' hl => okSs b X sc _ c hf hk h4 P' Xp (hl.L.trans hP) (tk.imp hl.wx)) (fold_of h2)
    · cases h
  | .while_ b a, X, sc, s, c, hf, hk, h, P, Xp, hP, tk => by
    unfold chkS at h
    split at h
    · rename_i q
      rw [asWhile_eq q]
      simp only [Bool.and_eq_true] at h
      exact s_while c.pas (okT b X sc _ c h.1 P Xp hP tk) (okSs a X sc _ c hf hk h.2 P Xp hP tk)
    · cases h
theorem okSs : ∀ ms : List S, OkSs U L t n N ms
  | [], X, sc, ss, c, hf, hk, h, P, Xp, hP, tk => by
    cases ss with
    | nil => exact ss_nil
    | cons _ _ => simp [chkSs] at h
  | m :: ms, X, sc, ss, c, hf, hk, h, P, Xp, hP, tk => by
    cases ss with
    | nil => simp [chkSs] at h
    | cons s ss =>
      simp only [chkSs, Bool.and_eq_true] at h
      exact ss_cons (okS m X sc s c hf hk h.1 P Xp hP tk) (okSs ms X sc ss c hf hk h.2 P Xp hP tk)
end
end
end G
/-! C1: defs that are called with a held exception: the look, what it gives. -/
namespace G
open PySem PySem.Spec L2
def asIsx : Expr → Option (Pos × Expr × Str × Pos × Pos)
  | .Call (.Name g p) [x, .Name h hp] [] pos => if g = "isinstance" then some (p, x, h, hp, pos) else none
  | _ => none
theorem asIsx_eq {e : Expr} {p x h hp pos} (q : asIsx e = some (p, x, h, hp, pos)) : e = .Call (.Name "isinstance" p) [x, .Name h hp] [] pos := by
  unfold asIsx at q
  split at q
  · split at q
    · rename_i z
      simp at q; obtain ⟨rfl, rfl, rfl, rfl, rfl⟩ := q; rw [z]
    · cases q
  · cases q
def asHc : Expr → Option (Str × Pos × Str × Pos × Pos)
  | .Call (.Name g p) [.Name h hp] [] pos => some (g, p, h, hp, pos)
  | _ => none
theorem asHc_eq {e : Expr} {g p h hp pos} (q : asHc e = some (g, p, h, hp, pos)) : e = .Call (.Name g p) [.Name h hp] [] pos := by
  unfold asHc at q
  split at q
  · rename_i z
    simp at q; obtain ⟨rfl, rfl, rfl, rfl, rfl⟩ := q; rfl
  · cases q
def asBinE : Expr → Option (Expr × Operator × Expr × Pos)
  | .BinOp x op y pos => some (x, op, y, pos)
  | _ => none
theorem asBinE_eq {e : Expr} {x op y pos} (q : asBinE e = some (x, op, y, pos)) : e = .BinOp x op y pos := by unfold asBinE at q; split at q <;> simp at q; obtain ⟨rfl, rfl, rfl, rfl⟩ := q; rfl
def asIteE : Expr → Option (Expr × Expr × Expr × Pos)
  | .IfExp z x y pos => some (z, x, y, pos)
  | _ => none
theorem asIteE_eq {e : Expr} {z x y pos} (q : asIteE e = some (z, x, y, pos)) : e = .IfExp z x y pos := by unfold asIteE at q; split at q <;> simp at q; obtain ⟨rfl, rfl, rfl, rfl⟩ := q; rfl
def asTupE : Expr → Option (List Expr × Nat × Pos)
  | .Tuple es k pos => some (es, k, pos)
  | _ => none
theorem asTupE_eq {e : Expr} {es k pos} (q : asTupE e = some (es, k, pos)) : e = .Tuple es k pos := by unfold asTupE at q; split at q <;> simp at q; obtain ⟨rfl, rfl, rfl⟩ := q; rfl
def asLstE : Expr → Option (List Expr × Pos)
  | .List es pos => some (es, pos)
  | _ => none
theorem asLstE_eq {e : Expr} {es pos} (q : asLstE e = some (es, pos)) : e = .List es pos := by unfold asLstE at q; split at q <;> simp at q; obtain ⟨rfl, rfl⟩ := q; rfl
def asSubE : Expr → Option (Expr × Expr × Pos)
  | .Subscript x y pos => some (x, y, pos)
  | _ => none
theorem asSubE_eq {e : Expr} {x y pos} (q : asSubE e = some (x, y, pos)) : e = .Subscript x y pos := by unfold asSubE at q; split at q <;> simp at q; obtain ⟨rfl, rfl, rfl⟩ := q; rfl
def asCmpE : Expr → Option (Expr × CmpOp × Expr × Pos)
  | .Compare x [op] [y] pos => some (x, op, y, pos)
  | _ => none
theorem asCmpE_eq {e : Expr} {x op y pos} (q : asCmpE e = some (x, op, y, pos)) : e = .Compare x [op] [y] pos := by unfold asCmpE at q; split at q <;> simp at q; obtain ⟨rfl, rfl, rfl, rfl⟩ := q; rfl
def asNotE : Expr → Option (Expr × Pos)
  | .UnaryOp .Not x pos => some (x, pos)
  | _ => none
theorem asNotE_eq {e : Expr} {x pos} (q : asNotE e = some (x, pos)) : e = .UnaryOp .Not x pos := by unfold asNotE at q; split at q <;> simp at q; obtain ⟨rfl, rfl⟩ := q; rfl
def asOrE : Expr → Option (Expr × Expr × Pos)
  | .BoolOp .Or [x, y] pos => some (x, y, pos)
  | _ => none
theorem asOrE_eq {e : Expr} {x y pos} (q : asOrE e = some (x, y, pos)) : e = .BoolOp .Or [x, y] pos := by unfold asOrE at q; split at q <;> simp at q; obtain ⟨rfl, rfl, rfl⟩ := q; rfl
/-- the class that is asked for -/
def xclB (V : HU) (sc : Scope) (c : Nat) (h : Str) : Bool := gloB sc h &&
  (if c = 100 then decide (h = "ValueError") && V.nog.contains h else if c = 101 then decide (h = "LookupError") && V.nog.contains h else V.xcl.any fun q => q.1 == c && decide (q.2 = h))
mutual
def hkE (V : HU) (N : List Str) : E → Scope → Expr → Bool
  | .var i, sc, e => match asName e with
    | some (g, _) => visN sc N g i
    | none => false
  | .ref i, sc, e => match asName e with
    | some (g, _) => visN sc N g i
    | none => false
  | .con d, sc, e => cnsB d e
  | .bin op a b, sc, e => match asBinE e with
    | some (x, op', y, _) => decide (op = op') && hkE V N a sc x && hkE V N b sc y
    | none => false
  | .ite t a b, sc, e => match asIteE e with
    | some (z, x, y, _) => hkT V N t sc z && hkE V N a sc x && hkE V N b sc y
    | none => false
  | .tup ms, sc, e => match asTupE e with
    | some (es, _, _) => hkEs V N ms sc es && decide (ms.length ≤ 1000)
    | none => false
  | .lst ms, sc, e => match asLstE e with
    | some (es, _) => hkEs V N ms sc es && decide (ms.length ≤ 1000)
    | none => false
  | .sub a b, sc, e => match asSubE e with
    | some (x, y, _) => hkE V N a sc x && hkE V N b sc y && okF y
    | none => false
  | .bm m a [b], sc, e => match asCallA e with
    | some (z, n, apos, [y], pos) => decide (n = bmN m) && (decide (m = .count) || decide (m = .index)) && okB z && (apos.endLine == pos.line) && hkE V N a sc z && hkE V N b sc y && okF y
    | _ => false
  | .hot (.isx c) a, sc, e => match asIsx e with
    | some (_, x, h, _, _) => gloB sc "isinstance" && V.nog.contains "isinstance" && hkE V N a sc x && okF x && xclB V sc c h
    | none => false
  | .hot (.xf c _) (.ref _), _, _ => !plX.contains c
  | .hot (.hc f) (.ref i), sc, e => match asHc e with
    | some (g, _, h, _, _) => gloB sc g && visN sc N h i && V.hfs.any fun q => q.1 == f && decide (q.2 = g)
    | none => false
  | _, _, _ => false
def hkT (V : HU) (N : List Str) : T → Scope → Expr → Bool
  | .tv a, sc, x => hkE V N a sc x && okTv x
  | .or a b, sc, e => match asOrE e with
    | some (x, y, _) => hkT V N a sc x && hkT V N b sc y
    | none => false
  | .not a, sc, e => match asNotE e with
    | some (x, _) => hkT V N a sc x
    | none => false
  | .cmp op a b, sc, e => match asCmpE e with
    | some (x, op', y, _) => decide (op = op') && hkE V N a sc x && hkE V N b sc y && okF y
    | none => false
  | _, _, _ => false
def hkEs (V : HU) (N : List Str) : List E → Scope → List Expr → Bool
  | [], sc, [] => true
  | m :: ms, sc, e :: es => hkE V N m sc e && okF e && hkEs V N ms sc es
  | _, _, _ => false
end
/-- what is true of the classes -/
structure GH (V : HU) (L : Lay) (mg : Str → Option Value) : Prop where
  nog : ∀ x ∈ V.nog, mg x = none
  nm : ∀ q ∈ V.xcl, mg q.2 = some (.ref (L.xc q.1))
  ex : ∀ c0 ∈ plX, ExcC L.K (L.xc c0)
  is_ : ∀ c0 ∈ plX, ∀ q ∈ V.xcl, PySem.W.kitOne L.K (.ref (L.xc c0)) (.ref (L.xc q.1)) = some (subX c0 q.1)
  isV : ∀ c0 ∈ plX, PySem.W.kitOne L.K (.ref (L.xc c0)) (.type "ValueError") = some (subX c0 100)
  isL : ∀ c0 ∈ plX, PySem.W.kitOne L.K (.ref (L.xc c0)) (.type "LookupError") = some (subX c0 101)
/-- .. of a context that holds x at ad -/
structure HOx (V : HU) (L : Lay) (t : Text) (n : Nat) (N : List Str) (sc : Scope) (ad : Nat) (x : Exn) (X : Cx) : Prop where
  hN : X.N = N
  nd : X.N.Nodup
  sc : X.env.scope = sc
  K : X.K = L.K
  w : X.w = L.w
  hu : X.A.units + 150 < cLine
  gh : GH V L X.mg
  held : Held X L ad x
  hc : x.c ∈ plX
  room : L2H.RoomH n X.A
  hcs : ∀ q ∈ V.hfs, X.mg q.2 = some (.ref (L.fn q.1)) ∧ PySem.W.keepIn L.K (.ref (L.fn q.1)) = true ∧ ∃ fd g, HotOk X.prog X.w X.mg X.base L n (L.fn q.1) fd [g] (Wh t n q.1) ∧ L2.Binds L.K fd [g] []
section
variable {V : HU} {L : Lay} {t : Text} {n : Nat} {N : List Str} {sc : Scope} {ad : Nat} {x : Exn} {X : Cx} {P : PP} {Γ : Fns} {Xp : XP} {pos : Pos}
theorem HOx.vis (c : HOx V L t n N sc ad x X) {g : Str} {i : Nat} (h : visN sc N g i = true) : PE X (.Name g pos) (tVar i) := by
  simp only [visN, Bool.and_eq_true, decide_eq_true_eq, Bool.not_eq_true'] at h
  refine pe_var (by rw [c.hN]; exact h.1.1.1) ?_ h.1.2 h.2
  have z := h.1.1.2
  rw [c.sc]
  unfold visB at z
  split at z <;> first
    | exact .inl (by assumption)
    | exact .inr (.inl (by assumption))
    | exact .inr (.inr (by assumption))
    | cases z
theorem HOx.visP (c : HOx V L t n N sc ad x X) {g : Str} {i : Nat} (h : visN sc N g i = true) : X.N[i]? = some g ∧ Vis X.env.scope g ∧ (g == ("__debug__" : Str)) = false ∧ (g == ("__classdict__" : Str)) = false := by
  simp only [visN, Bool.and_eq_true, decide_eq_true_eq, Bool.not_eq_true'] at h
  refine ⟨by rw [c.hN]; exact h.1.1.1, ?_, h.1.2, h.2⟩
  have z := h.1.1.2
  rw [c.sc]
  unfold visB at z
  split at z <;> first
    | exact .inl (by assumption)
    | exact .inr (.inl (by assumption))
    | exact .inr (.inr (by assumption))
    | cases z
theorem HOx.glo (c : HOx V L t n N sc ad x X) {g : Str} (h : gloB sc g = true) : Gl X g ∧ (g == ("__debug__" : Str)) = false ∧ g ≠ "__name__" := by
  unfold gloB at h
  split at h
  · rename_i q
    simp only [Bool.and_eq_true, Bool.not_eq_true', beq_eq_false_iff_ne, ne_eq] at h
    exact ⟨by show X.env.scope.names.lookup g = _; rw [c.sc]; exact q, beq_eq_false_iff_ne.mpr h.1, h.2⟩
  · cases h
theorem HOx.no (c : HOx V L t n N sc ad x X) {g : Str} (h : V.nog.contains g = true) : X.mg g = none := c.gh.nog g (by simpa using h)
/-- the class that is asked for, its answer -/
theorem HOx.cls (c : HOx V L t n N sc ad x X) {k : Nat} {h : Str} {hp : Pos} (q : xclB V sc k h = true) : ∃ cV cv, PE X (.Name h hp) (tC cV) ∧ (∀ u, RelV cV u → u = cv) ∧ PySem.W.kitOne L.K (.ref (L.xc x.c)) cv = some (subX x.c k) := by
  unfold xclB at q
  simp only [Bool.and_eq_true] at q
  obtain ⟨q0, q⟩ := q
  obtain ⟨hg, hdb, hn⟩ := c.glo q0
  split at q
  · rename_i e
    subst e
    simp only [Bool.and_eq_true, decide_eq_true_eq] at q
    obtain ⟨rfl, q⟩ := q
    exact ⟨.ty "ValueError", .type "ValueError", pe_bltn hg (c.no q) (show bootBuiltins "ValueError" = some (.type "ValueError") by decide +kernel) rfl hn hdb, fun u r => r, c.gh.isV _ c.hc⟩
  · split at q
    · rename_i e
      subst e
      simp only [Bool.and_eq_true, decide_eq_true_eq] at q
      obtain ⟨rfl, q⟩ := q
      exact ⟨.ty "LookupError", .type "LookupError", pe_bltn hg (c.no q) (show bootBuiltins "LookupError" = some (.type "LookupError") by decide +kernel) rfl hn hdb, fun u r => r, c.gh.isL _ c.hc⟩
    · simp only [List.any_eq_true, Bool.and_eq_true, beq_iff_eq, decide_eq_true_eq] at q
      obtain ⟨⟨k', h'⟩, hq, rfl, rfl⟩ := q
      exact ⟨.ref (L.xc k'), .ref (L.xc k'), pe_glob hg (c.gh.nm _ hq) rfl hdb, fun u r => r, c.gh.is_ _ c.hc _ hq⟩
theorem hO_any {e : Expr} {m : E} (hv : ∀ i, m = .ref i → PE X e (tVar i)) (he : PE X e (tE P Γ Xp m)) : PE X e (tO P Γ Xp m) := o_any hv he
theorem hk_ref (c : HOx V L t n N sc ad x X) {e : Expr} {m : E} (h : hkE V N m sc e = true) : ∀ i, m = .ref i → PE X e (tVar i) := fun i q => by
  subst q
  simp only [hkE] at h
  split at h
  · rename_i z
    rw [asName_eq z]
    exact c.vis h
  · cases h
mutual
theorem okHE (c : HOx V L t n N sc ad x X) (hx : Γ.hx = some (ad, x)) (hh : Γ.h = Wh t n) (hP : P.L = L) : ∀ (m : E) {e : Expr}, hkE V N m sc e = true → PE X e (tE P Γ Xp m)
  | .var i, e, h => by
    simp only [hkE] at h
    split at h
    · rename_i z
      rw [asName_eq z]
      exact e_var (c.vis h)
    · cases h
  | .ref i, e, h => ⟨fun pins s σ H Q I q => by
    obtain ⟨env, F, R, ex, w, k⟩ := q
    simp only [wE] at w⟩
  | .con d, e, h => by
    simp only [hkE] at h
    unfold cnsB at h
    split at h
    · obtain ⟨v, h1, h2⟩ := const_of (X := X) (P := P) h
      exact e_con h1 h2
    · cases h
  | .bin op a b, e, h => by
    simp only [hkE] at h
    split at h
    · rename_i z
      rw [asBinE_eq z]
      simp only [Bool.and_eq_true, decide_eq_true_eq] at h
      obtain ⟨⟨rfl, h1⟩, h2⟩ := h
      exact e_bin (c.K.trans (by rw [hP])) (hO_any (hk_ref c h1) (okHE c hx hh hP a h1)) (hO_any (hk_ref c h2) (okHE c hx hh hP b h2))
    · cases h
  | .ite t a b, e, h => by
    simp only [hkE] at h
    split at h
    · rename_i z
      rw [asIteE_eq z]
      simp only [Bool.and_eq_true] at h
      exact e_ite (okHT c hx hh hP t h.1.1) (okHE c hx hh hP a h.1.2) (okHE c hx hh hP b h.2)
    · cases h
  | .tup ms, e, h => by
    simp only [hkE] at h
    split at h
    · rename_i z
      rw [asTupE_eq z]
      simp only [Bool.and_eq_true, decide_eq_true_eq] at h
      exact e_tup (okHEs c hx hh hP ms h.1) h.2
    · cases h
  | .lst ms, e, h => by
    simp only [hkE] at h
    split at h
    · rename_i z
      rw [asLstE_eq z]
      simp only [Bool.and_eq_true, decide_eq_true_eq] at h
      exact e_lst (okHEs c hx hh hP ms h.1) h.2
    · cases h
  | .sub a b, e, h => by
    simp only [hkE] at h
    split at h
    · rename_i z
      rw [asSubE_eq z]
      simp only [Bool.and_eq_true] at h
      exact e_sub (c.K.trans (by rw [hP])) (c.w.trans (by rw [hP])) c.hu (hO_any (hk_ref c h.1.1) (okHE c hx hh hP a h.1.1)) (hO_any (hk_ref c h.1.2) (okHE c hx hh hP b h.1.2)) (ix_of h.2)
    · cases h
  | .bm m a [b], e, h => by
    simp only [hkE] at h
    split at h
    · rename_i z
      rw [asCallA_eq z]
      simp only [Bool.and_eq_true, Bool.or_eq_true, decide_eq_true_eq] at h
      obtain ⟨⟨⟨⟨⟨⟨rfl, hm⟩, h2⟩, h3⟩, h4⟩, h5⟩, h6⟩ := h
      have ha := hO_any (P := P) (Xp := Xp) (hk_ref c h4) (okHE c hx hh hP a h4)
      have pa := os_cons (hO_any (P := P) (Xp := Xp) (hk_ref c h5) (okHE c hx hh hP b h5)) os_nil (star_of h6)
      rcases hm with rfl | rfl
      · exact e_cnt (c.K.trans (by rw [hP])) ha pa (base_of h2) h3 (star_of h6)
      · exact e_ixb (c.K.trans (by rw [hP])) ha pa (base_of h2) h3 (star_of h6)
    · cases h
  | .hot (.isx k) a, e, h => by
    simp only [hkE] at h
    split at h
    · rename_i p0 y hn hp pos z
      rw [asIsx_eq z]
      simp only [Bool.and_eq_true] at h
      obtain ⟨⟨⟨⟨h1, h2⟩, h3⟩, h4⟩, h5⟩ := h
      have ha := hO_any (P := P) (Xp := Xp) (hk_ref c h3) (okHE c hx hh hP a h3)
      obtain ⟨cV, cv, q1, q2, q3⟩ := c.cls (hp := hp) h5
      have C := c.gh.ex _ c.hc
      rw [← hP] at q3 C
      exact e_isx hx (by rw [hP]; exact c.held) (by rw [c.K, ← hP]; exact C) (by rw [c.K, ← hP]; exact q3) q2 (c.glo h1).1 (c.no h2) ha q1 (star_of h4) rfl
    · cases h
  | .neg _, _, h => by simp [hkE] at h
  | .cmp _ _ _, _, h => by simp [hkE] at h
  | .chn _ _ _ _ _, _, h => by simp [hkE] at h
  | .and _ _, _, h => by simp [hkE] at h
  | .or _ _, _, h => by simp [hkE] at h
  | .not _, _, h => by simp [hkE] at h
  | .slc _ _ _, _, h => by simp [hkE] at h
  | .rev _, _, h => by simp [hkE] at h
  | .call _ _ _, _, h => by simp [hkE] at h
  | .make _ _ _ _, _, h => by simp [hkE] at h
  | .meth _ _ _ _ _, _, h => by simp [hkE] at h
  | .cv _ _ _, _, h => by simp [hkE] at h
  | .bm _ _ [], _, h => by simp [hkE] at h
  | .bm _ _ (_ :: _ :: _), _, h => by simp [hkE] at h
  | .dsp _ _, _, h => by simp [hkE] at h
  | .fst _, _, h => by simp [hkE] at h
  | .bi _ _, _, h => by simp [hkE] at h
  | .isi _ _, _, h => by simp [hkE] at h
  | .fld _ _, _, h => by simp [hkE] at h
  | .lm _ _ _, _, h => by simp [hkE] at h
  | .srk _ _, _, h => by simp [hkE] at h
  | .xb _ _, _, h => by simp [hkE] at h
  | .own _ _ _ _ _, _, h => by simp [hkE] at h
  | .spc _ _ _ _, _, h => by simp [hkE] at h
  | .hot (.xf k j) (.ref i), e, h => by
    simp only [hkE, Bool.not_eq_true'] at h
    exact ⟨fun pins s σ H Q I q => by
      obtain ⟨env, F, R, ex, w, kk⟩ := q
      simp only [wE, opd] at w
      split at w
      · obtain ⟨ad', x', d, q1, q2, q3, _⟩ := w
        rw [hx] at q2
        cases q2
        have := c.hc
        rw [q3] at this
        have : plX.contains k = true := List.contains_iff_mem.mpr this
        rw [this] at h
        cases h
      · exact w.elim⟩
  | .hot (.xf _ _) (.var _), _, h => by simp [hkE] at h
  | .hot (.xf _ _) (.con _), _, h => by simp [hkE] at h
  | .hot (.xf _ _) (.bin _ _ _), _, h => by simp [hkE] at h
  | .hot (.xf _ _) (.neg _), _, h => by simp [hkE] at h
  | .hot (.xf _ _) (.cmp _ _ _), _, h => by simp [hkE] at h
  | .hot (.xf _ _) (.chn _ _ _ _ _), _, h => by simp [hkE] at h
  | .hot (.xf _ _) (.and _ _), _, h => by simp [hkE] at h
  | .hot (.xf _ _) (.or _ _), _, h => by simp [hkE] at h
  | .hot (.xf _ _) (.not _), _, h => by simp [hkE] at h
  | .hot (.xf _ _) (.ite _ _ _), _, h => by simp [hkE] at h
  | .hot (.xf _ _) (.tup _), _, h => by simp [hkE] at h
  | .hot (.xf _ _) (.lst _), _, h => by simp [hkE] at h
  | .hot (.xf _ _) (.sub _ _), _, h => by simp [hkE] at h
  | .hot (.xf _ _) (.slc _ _ _), _, h => by simp [hkE] at h
  | .hot (.xf _ _) (.rev _), _, h => by simp [hkE] at h
  | .hot (.xf _ _) (.call _ _ _), _, h => by simp [hkE] at h
  | .hot (.xf _ _) (.make _ _ _ _), _, h => by simp [hkE] at h
  | .hot (.xf _ _) (.meth _ _ _ _ _), _, h => by simp [hkE] at h
  | .hot (.xf _ _) (.cv _ _ _), _, h => by simp [hkE] at h
  | .hot (.xf _ _) (.bm _ _ _), _, h => by simp [hkE] at h
  | .hot (.xf _ _) (.dsp _ _), _, h => by simp [hkE] at h
  | .hot (.xf _ _) (.fst _), _, h => by simp [hkE] at h
  | .hot (.xf _ _) (.bi _ _), _, h => by simp [hkE] at h
  | .hot (.xf _ _) (.isi _ _), _, h => by simp [hkE] at h
  | .hot (.xf _ _) (.fld _ _), _, h => by simp [hkE] at h
  | .hot (.xf _ _) (.lm _ _ _), _, h => by simp [hkE] at h
  | .hot (.xf _ _) (.srk _ _), _, h => by simp [hkE] at h
  | .hot (.xf _ _) (.xb _ _), _, h => by simp [hkE] at h
  | .hot (.xf _ _) (.own _ _ _ _ _), _, h => by simp [hkE] at h
  | .hot (.xf _ _) (.spc _ _ _ _), _, h => by simp [hkE] at h
  | .hot (.xf _ _) (.hot _ _), _, h => by simp [hkE] at h
  | .hot (.xf _ _) (.lc _ _ _ _ _), _, h => by simp [hkE] at h
  | .hot (.hc f) (.ref i), e, h => by
    simp only [hkE] at h
    split at h
    · rename_i g p hn hp pos z
      rw [asHc_eq z]
      simp only [Bool.and_eq_true, List.any_eq_true, beq_iff_eq, decide_eq_true_eq] at h
      obtain ⟨⟨h1, h2⟩, ⟨q1, q2⟩, hq, rfl, rfl⟩ := h
      obtain ⟨m1, m2, fd, gp, m3, m4⟩ := c.hcs _ hq
      obtain ⟨v1, v2, v3, v4⟩ := c.visP h2
      subst hP
      exact e_hc hx c.hc (by rw [hh]; exact m3) c.K c.room c.held (c.glo h1).1 m1 (by rw [c.K]; exact m2) (by rw [c.K]; exact m4) v1 v2 (c.glo h1).2.1 v3 v4
    · cases h
  | .hot (.hc _) (.var _), _, h => by simp [hkE] at h
  | .hot (.hc _) (.con _), _, h => by simp [hkE] at h
  | .hot (.hc _) (.bin _ _ _), _, h => by simp [hkE] at h
  | .hot (.hc _) (.neg _), _, h => by simp [hkE] at h
  | .hot (.hc _) (.cmp _ _ _), _, h => by simp [hkE] at h
  | .hot (.hc _) (.chn _ _ _ _ _), _, h => by simp [hkE] at h
  | .hot (.hc _) (.and _ _), _, h => by simp [hkE] at h
  | .hot (.hc _) (.or _ _), _, h => by simp [hkE] at h
  | .hot (.hc _) (.not _), _, h => by simp [hkE] at h
  | .hot (.hc _) (.ite _ _ _), _, h => by simp [hkE] at h
  | .hot (.hc _) (.tup _), _, h => by simp [hkE] at h
  | .hot (.hc _) (.lst _), _, h => by simp [hkE] at h
  | .hot (.hc _) (.sub _ _), _, h => by simp [hkE] at h
  | .hot (.hc _) (.slc _ _ _), _, h => by simp [hkE] at h
  | .hot (.hc _) (.rev _), _, h => by simp [hkE] at h
  | .hot (.hc _) (.call _ _ _), _, h => by simp [hkE] at h
  | .hot (.hc _) (.make _ _ _ _), _, h => by simp [hkE] at h
  | .hot (.hc _) (.meth _ _ _ _ _), _, h => by simp [hkE] at h
  | .hot (.hc _) (.cv _ _ _), _, h => by simp [hkE] at h
  | .hot (.hc _) (.bm _ _ _), _, h => by simp [hkE] at h
  | .hot (.hc _) (.dsp _ _), _, h => by simp [hkE] at h
  | .hot (.hc _) (.fst _), _, h => by simp [hkE] at h
  | .hot (.hc _) (.bi _ _), _, h => by simp [hkE] at h
  | .hot (.hc _) (.isi _ _), _, h => by simp [hkE] at h
  | .hot (.hc _) (.fld _ _), _, h => by simp [hkE] at h
  | .hot (.hc _) (.lm _ _ _), _, h => by simp [hkE] at h
  | .hot (.hc _) (.srk _ _), _, h => by simp [hkE] at h
  | .hot (.hc _) (.xb _ _), _, h => by simp [hkE] at h
  | .hot (.hc _) (.own _ _ _ _ _), _, h => by simp [hkE] at h
  | .hot (.hc _) (.spc _ _ _ _), _, h => by simp [hkE] at h
  | .hot (.hc _) (.hot _ _), _, h => by simp [hkE] at h
  | .hot (.hc _) (.lc _ _ _ _ _), _, h => by simp [hkE] at h
  | .hot (.said _ _) _, _, h => by simp [hkE] at h
  | .hot (.nst _ _) _, _, h => by simp [hkE] at h
  | .lc _ _ _ _ _, _, h => by simp [hkE] at h
theorem okHT (c : HOx V L t n N sc ad x X) (hx : Γ.hx = some (ad, x)) (hh : Γ.h = Wh t n) (hP : P.L = L) : ∀ (m : T) {e : Expr}, hkT V N m sc e = true → PT X e (tT P Γ Xp m)
  | .tv a, e, h => by
    simp only [hkT, Bool.and_eq_true] at h
    exact t_tv (c.K.trans (by rw [hP])) (hO_any (hk_ref c h.1) (okHE c hx hh hP a h.1)) (tv_of h.2)
  | .or a b, e, h => by
    simp only [hkT] at h
    split at h
    · rename_i z
      rw [asOrE_eq z]
      simp only [Bool.and_eq_true] at h
      exact pt_imp (PW.pt (pw_or (okHT c hx hh hP a h.1) (pw_or1 (okHT c hx hh hP b h.2)))) fun σ H Q h => tor_core h
    · cases h
  | .not a, e, h => by
    simp only [hkT] at h
    split at h
    · rename_i z
      rw [asNotE_eq z]
      exact t_not (okHT c hx hh hP a h)
    · cases h
  | .cmp op a b, e, h => by
    simp only [hkT] at h
    split at h
    · rename_i z
      rw [asCmpE_eq z]
      simp only [Bool.and_eq_true, decide_eq_true_eq] at h
      obtain ⟨⟨⟨rfl, h1⟩, h2⟩, h3⟩ := h
      exact t_cmp (c.K.trans (by rw [hP])) (c.w.trans (by rw [hP])) c.hu (hO_any (hk_ref c h1) (okHE c hx hh hP a h1)) (hO_any (hk_ref c h2) (okHE c hx hh hP b h2)) (mark_of h3)
    · cases h
  | .yes, _, h => by simp [hkT] at h
  | .and _ _, _, h => by simp [hkT] at h
  | .own _ _ _ _ _, _, h => by simp [hkT] at h
  | .chn _ _ _ _ _, _, h => by simp [hkT] at h
theorem okHEs (c : HOx V L t n N sc ad x X) (hx : Γ.hx = some (ad, x)) (hh : Γ.h = Wh t n) (hP : P.L = L) : ∀ (ms : List E) {es : List Expr}, hkEs V N ms sc es = true → PA X es (tOs P Γ Xp ms)
  | [], [], _ => os_nil
  | [], _ :: _, h => by simp [hkEs] at h
  | _ :: _, [], h => by simp [hkEs] at h
  | m :: ms, e :: es, h => by
    simp only [hkEs, Bool.and_eq_true] at h
    exact os_cons (hO_any (hk_ref c h.1.1) (okHE c hx hh hP m h.1.1)) (okHEs c hx hh hP ms h.2) (star_of h.1.2)
end
end
end G
/-! C2: statements of such defs; what such a def promises. -/
namespace G
open PySem PySem.Spec L2
mutual
def hkS (Y : HU) (N : List Str) : S → Scope → Stmt → Bool
  | .asg i e, sc, s => match asSet s with
    | some (x, _, y, _) => decide (N[i]? = some x) && locB sc x && hkE Y N e sc y && noComp y
    | none => false
  | .ret e, sc, s => match asRet s with
    | some (some y, _) => hkE Y N e sc y
    | _ => false
  | .ite b a d, sc, s => match asIf s with
    | some (x, xs, ys, _) => hkT Y N b sc x && hkSs Y N a sc xs && hkSs Y N d sc ys
    | none => false
  | .bad, _, _ => true
  | _, _, _ => false
def hkSs (Y : HU) (N : List Str) : List S → Scope → List Stmt → Bool
  | [], _, [] => true
  | m :: ms, sc, s :: ss => hkS Y N m sc s && hkSs Y N ms sc ss
  | _, _, _ => false
end
section
variable {Y : HU} {L : Lay} {t : Text} {n : Nat} {N : List Str} {sc : Scope} {ad : Nat} {x : Exn} {X : Cx} {P : PP} {Γ : Fns} {Xp : XP} {pos : Pos}
theorem HOx.loc (c : HOx Y L t n N sc ad x X) {g : Str} (h : locB sc g = true) : Loc X.env.scope g := by
  rw [c.sc]
  unfold locB at h
  split at h <;> first
    | exact .inl (by assumption)
    | exact .inr (by assumption)
    | cases h
mutual
theorem okHS (c : HOx Y L t n N sc ad x X) (hf : ∀ y, X.fn y = true) (hx : Γ.hx = some (ad, x)) (hh : Γ.h = Wh t n) (hP : P.L = L) : ∀ (m : S) {s : Stmt}, hkS Y N m sc s = true → PS X s (tS P Γ Xp m)
  | .asg i e, s, h => by
    simp only [hkS] at h
    split at h
    · rename_i z
      rw [asSet_eq z]
      simp only [Bool.and_eq_true, decide_eq_true_eq] at h
      obtain ⟨⟨⟨h1, h2⟩, h3⟩, h4⟩ := h
      exact ps_imp (ps_set c.nd (by rw [c.hN]; exact h1) (c.loc h2) (okHE c hx hh hP e h3) (swap_of h4) (.inl (hf _))) fun Dn σ H q => asg_imp q
    · cases h
  | .ret e, s, h => by
    simp only [hkS] at h
    split at h
    · rename_i z
      rw [asRet_eq z]
      by_cases hv : ∃ i, e = .var i
      · obtain ⟨i, rfl⟩ := hv
        simp only [hkE] at h
        split at h
        · rename_i z
          rw [asName_eq z]
          exact s_retV (c.vis h)
        · cases h
      · exact s_ret (fun i q => hv ⟨i, q⟩) (okHE c hx hh hP e h)
    · cases h
  | .ite b a d, s, h => by
    simp only [hkS] at h
    split at h
    · rename_i z
      rw [asIf_eq z]
      simp only [Bool.and_eq_true] at h
      exact s_ite (okHT c hx hh hP b h.1.1) (okHSs c hf hx hh hP a h.1.2) (okHSs c hf hx hh hP d h.2)
    · cases h
  | .bad, s, h => ⟨fun pins s' σ H Dn I q => by
    obtain ⟨_, _, _, _, z, _⟩ := q
    simp only [wS] at z⟩
  | .asgT _ _, _, h => by simp [hkS] at h
  | .par _ _, _, h => by simp [hkS] at h
  | .put _ _ _, _, h => by simp [hkS] at h
  | .ex _, _, h => by simp [hkS] at h
  | .retN, _, h => by simp [hkS] at h
  | .fput _ _ _, _, h => by simp [hkS] at h
  | .aug _ _ _, _, h => by simp [hkS] at h
  | .for_ _ _ _, _, h => by simp [hkS] at h
  | .while_ _ _, _, h => by simp [hkS] at h
  | .brk, _, h => by simp [hkS] at h
  | .cnt, _, h => by simp [hkS] at h
  | .pass, _, h => by simp [hkS] at h
  | .raise _, _, h => by simp [hkS] at h
theorem okHSs (c : HOx Y L t n N sc ad x X) (hf : ∀ y, X.fn y = true) (hx : Γ.hx = some (ad, x)) (hh : Γ.h = Wh t n) (hP : P.L = L) : ∀ (ms : List S) {ss : List Stmt}, hkSs Y N ms sc ss = true → PSs X ss (tSs P Γ Xp ms)
  | [], [], _ => ss_nil
  | [], _ :: _, h => by simp [hkSs] at h
  | _ :: _, [], h => by simp [hkSs] at h
  | m :: ms, s :: ss, h => by
    simp only [hkSs, Bool.and_eq_true] at h
    exact ss_cons (okHS c hf hx hh hP m h.1) (okHSs c hf hx hh hP ms h.2)
end
end
theorem hot_def {Y : HU} {L : Lay} {t : Text} {n : Nat} {p : Program} {w : World} {mg : Str → Option Value} {base : Heap} {f : Nat} {name qual : Str} {params : Arguments} {body : List Stmt} {scope : Scope} {dV kV doc pm cdv ct oc : Value} {an od : Option Addr} {osl : Array (Option Value)} {N : List Str} {g : Str} {d : FD}
    (G : GH Y L mg) (Hc : ∀ q ∈ Y.hfs, mg q.2 = some (.ref (L.fn q.1)) ∧ PySem.W.keepIn L.K (.ref (L.fn q.1)) = true ∧ ∃ fd g, HotOk p w mg base L n (L.fn q.1) fd [g] (Wh t n q.1) ∧ L2.Binds L.K fd [g] []) (hw : w = L.w) (lk : L.K.lookup (L.fn f) = some ⟨oc, od, .func (PySem.W.fnOf name qual params body scope dV kV doc pm an cdv ct), osl⟩) (hcd : PySem.W.codeIn L.K cdv qual = true) (S : FnScope N [g] scope)
    (hd : t.at f = some d) (hns : d.ns = N.length) (hc : hkSs Y N d.body scope body = true) :
    HotOk p w mg base L (n + 1) (L.fn f) (PySem.W.fnOf name qual params body scope dV kV doc pm an cdv ct) [g] (Wh t (n + 1) f) := by
  refine ⟨fun A outer s H args Q E a oe x F R hr hpin hof hz hxl e0 hb sub tf hW kR => ?_⟩
  simp only [Wh, hd] at hW
  obtain ⟨la, hW⟩ := hW
  have rv : Vals [V.ref a] [Value.ref a] := .cons rfl .nil
  have KX : L.K.In s.heap := e0.mod.kin.keeps fun b o e => (e0.bs b o e).1
  have lim : s.heap.NoLimit := e0.mod.nolimit.keeps fun b o e => (e0.bs b o e).1
  have hkind : ∀ y ∈ [g].zip [Value.ref a], scope.names.lookup y.1 = some .local ∨ (scope.names.lookup y.1 = some .cell ∧ ((cellsFrom (s.heap.objs.size + 1) scope.names []).lookup y.1).isSome = true) := fun ⟨n, v⟩ hy => by
    rcases S.par n (List.of_mem_zip hy).1 with q | q
    · exact .inl q
    · exact .inr ⟨q, PySem.W.cellsFrom_some _ _ _ (.inl q)⟩
  refine codeAny_call_function hr.depth (KX _ _ lk) rfl S.co S.gen rfl (PySem.W.codeRec_of KX hcd) (hb _ _ _ _ ?_)
  refine wpAny_newFunctionEnv_cells S.kind hkind fun env he s1 z => ?_
  subst he
  refine ⟨lim.keeps z.toInCall.keep, codeAny_func ?_⟩
  have I : Inv (L2H.cxH (L2.CX p w) p w L.K mg base N qual scope (L.fn f) cdv A outer s H E (a, oe)) [] (L2.start N [.ref a]) H s1 := L2H.inv_startH S hpin e0 rfl rv z
  have lN : 1 ≤ N.length := by
    have h1 := congrArg List.length S.pre
    rw [List.length_take] at h1
    simp at h1
    omega
  have c : HOx Y L t n N scope a x (L2H.cxH (L2.CX p w) p w L.K mg base N qual scope (L.fn f) cdv A outer s H E (a, oe)) :=
    ⟨rfl, S.nd, rfl, rfl, hw, by have := hr.un; show A.units + 3 + 150 < _; omega, G, ⟨oe, hof.choose, List.mem_cons_self, hof.choose_spec, hz⟩, hxl, hr.deeper _, Hc⟩
  have st : EX (bodyP L F H [.ref a] [.val (.exn a)]) (L2.start N [.ref a]) H (some (.val (.exn a)) :: List.replicate (d.ns - 1) none) F :=
    er_start (as := [.val (.exn a)]) sub tf (.cons rfl .nil) List.nodup_nil (by show 1 + (d.ns - 1) = _; rw [hns]; omega)
  have hbd := okHSs (Γ := ⟨fun _ _ _ _ => False, some (a, x), Wh t n⟩) (P := bodyP L F H [.ref a] [.val (.exn a)]) (Xp := fun _ _ => False) c (fun _ => rfl) rfl rfl rfl d.body hc
  have hq : tSs (bodyP L F H [.ref a] [.val (.exn a)]) ⟨fun _ _ _ _ => False, some (a, x), Wh t n⟩ (fun _ _ => False) d.body { nx := fun _ H' => Q .non H', rt := Q } (L2.start N [.ref a]) H :=
    ⟨_, F, _, st, hW, fun σ' H' env' F' y ⟨A', e⟩ => by
      obtain ⟨h1, h2, h3, h4, h5⟩ := er_end (vs := [.ref a]) (as := [.val (.exn a)]) rfl e
      exact kR _ .non F' H' y h1 h2 h3 h5 rfl, fun σ' r env' v H' F' y ⟨A', e, ve⟩ => by
      obtain ⟨h1, h2, h3, h4, h5⟩ := er_end (vs := [.ref a]) (as := [.val (.exn a)]) rfl e
      exact kR _ v F' H' y h1 h2 h3 h5 (ret_end (vs := [.ref a]) (as := [.val (.exn a)]) rfl e ve), fun _ _ _ _ y _ => y.elim, fun _ _ _ _ y _ => y.elim⟩
  refine wpAny_mono (hbd.run [] s1 (L2.start N [.ref a]) H _ I hq) (fun fl s' hs => ?_) fun e s' hs => hs
  have fin : ∀ {σ' : L2.St} {H' : Hp} {v : V} {u : Value}, Inv (L2H.cxH (L2.CX p w) p w L.K mg base N qual scope (L.fn f) cdv A outer s H E (a, oe)) [] σ' H' s' → RelV v u → Q v H' → CE outer p w H s Q u s' :=
    fun {σ' H' v u} J rv q => ⟨v, H', J.os, J.bare, J.base, J.hok, rv, q⟩
  cases fl with
  | ret u =>
    obtain ⟨v, σ', H', J, rv, q⟩ := hs
    exact fin J rv q
  | next =>
    obtain ⟨σ', H', J, q⟩ := hs
    exact fin (v := V.non) (u := Value.none) J rfl q
  | brk =>
    obtain ⟨_, _, _, q⟩ := hs
    exact False.elim q
  | cont =>
    obtain ⟨_, _, _, q⟩ := hs
    exact False.elim q
/-- such a def as it stands behind the top -/
structure HotAt (Y : HU) (L : Lay) (t : Text) (f : Nat) (fd : FuncData) (g : Str) : Prop where
  ex : ∃ (name qual : Str) (params : Arguments) (body : List Stmt) (scope : Scope) (dV kV doc pm cdv ct oc : Value) (an od : Option Addr) (osl : Array (Option Value)) (N : List Str) (d : FD),
    fd = PySem.W.fnOf name qual params body scope dV kV doc pm an cdv ct ∧ L.K.lookup (L.fn f) = some ⟨oc, od, .func fd, osl⟩ ∧ PySem.W.codeIn L.K cdv qual = true ∧ FnScope N [g] scope ∧ t.at f = some d ∧ d.ns = N.length ∧ hkSs Y N d.body scope body = true
structure HotU (Y : HU) (L : Lay) (t : Text) (mg : Str → Option Value) : Prop where
  gh : GH Y L mg
  at_ : ∀ q ∈ Y.hfs, mg q.2 = some (.ref (L.fn q.1)) ∧ PySem.W.keepIn L.K (.ref (L.fn q.1)) = true ∧ ∃ fd g, HotAt Y L t q.1 fd g ∧ L2.Binds L.K fd [g] []
theorem hot_all {Y : HU} {L : Lay} {t : Text} {p : Program} {w : World} {mg : Str → Option Value} {base : Heap} (G : Y.hfs = [] ∨ HotU Y L t mg) (hw : w = L.w) : ∀ n, ∀ q ∈ Y.hfs, mg q.2 = some (.ref (L.fn q.1)) ∧ PySem.W.keepIn L.K (.ref (L.fn q.1)) = true ∧
    ∃ fd g, HotOk p w mg base L n (L.fn q.1) fd [g] (Wh t n q.1) ∧ L2.Binds L.K fd [g] [] := by
  rcases G with e | G
  · intro n q hq
    rw [e] at hq
    cases hq
  intro n
  induction n with
  | zero =>
    intro q hq
    obtain ⟨h1, h2, fd, g, _, h4⟩ := G.at_ q hq
    exact ⟨h1, h2, fd, g, ⟨fun _ _ _ _ _ _ _ _ _ _ _ _ _ _ _ _ _ _ _ _ _ z => z.elim⟩, h4⟩
  | succ n ih =>
    intro q hq
    obtain ⟨h1, h2, fd, g, h3, h4⟩ := G.at_ q hq
    obtain ⟨name, qual, params, body, scope, dV, kV, doc, pm, cdv, ct, oc, an, od, osl, N, d, rfl, lk, hcd, S, hd, hns, hc⟩ := h3.ex
    exact ⟨h1, h2, _, g, hot_def G.gh ih hw lk hcd S hd hns hc, h4⟩
end G
/-! B4: every def keeps its meaning, calls n deep. -/
namespace G
open PySem PySem.Spec L2
/-- a def as it stands behind the top, its tree beside it -/
structure DefAt (U : Tx) (L : Lay) (t : Text) (f : Nat) (fd : FuncData) (ps : List Str) : Prop where
  ex : ∃ (name qual : Str) (params : Arguments) (body : List Stmt) (scope : Scope) (dV kV doc pm cdv ct oc : Value) (an od : Option Addr) (osl : Array (Option Value)) (N : List Str) (d : FD),
    fd = PySem.W.fnOf name qual params body scope dV kV doc pm an cdv ct ∧ L.K.lookup (L.fn f) = some ⟨oc, od, .func fd, osl⟩ ∧ PySem.W.codeIn L.K cdv qual = true ∧ FnScope N ps scope ∧
    t.at f = some d ∧ d.np = ps.length ∧ d.ns = N.length ∧ ∃ lm : Bool, chkSs { U with lam := lm } N d.body scope body = true ∧ (lm = true → ∃ c Pt, cdv = .ref c ∧ (c, Pt, (qual ++ ".<locals>." : Str) ++ "<lambda>") ∈ L.C)
/-- no tables -/
def U0 : Tx := { fnm := [], pats := [], cst := [], nog := [] }
/-- .. a def that makes no calls -/
structure DefFr (L : Lay) (t : Text) (f : Nat) (fd : FuncData) (ps : List Str) : Prop where
  ex : ∃ (name qual : Str) (params : Arguments) (body : List Stmt) (scope : Scope) (dV kV doc pm cdv ct oc : Value) (an od : Option Addr) (osl : Array (Option Value)) (N : List Str) (d : FD),
    fd = PySem.W.fnOf name qual params body scope dV kV doc pm an cdv ct ∧ L.K.lookup (L.fn f) = some ⟨oc, od, .func fd, osl⟩ ∧ PySem.W.codeIn L.K cdv qual = true ∧ FnScope N ps scope ∧
    t.at f = some d ∧ d.np = ps.length ∧ d.ns = N.length ∧ chkSs U0 N d.body scope body = true
/-- what is true of the module, calls aside -/
structure GR0 (U : Tx) (L : Lay) (t : Text) (w : World) (mg : Str → Option Value) : Prop where
  nog : ∀ x ∈ U.nog, mg x = none
  cst : ∀ q ∈ U.cst, ∃ u v, mg q.1 = some u ∧ RelV v u ∧ ∀ F, Rep L F q.2 v
  fns : ∀ q ∈ U.fnm, mg q.2 = some (.ref (L.fn q.1))
  dfs : ∀ q ∈ U.pats, PySem.W.keepIn L.K (.ref (L.fn q.1)) = true ∧ ∃ fd ps, DefAt U L t q.1 fd ps ∧ BindOk L.K fd ps q.2.1 q.2.2.1 q.2.2.2
  cls : ∀ q ∈ U.cls, Mk L.K (L.cls q.1) (L.fn q.2.2) ∧ L.kc q.1 = true ∧ mg q.2.1 = some (.ref (L.cls q.1))
  mth : ∀ q ∈ U.mth, Meth L.K (L.cls q.1) q.2.1 (L.fn q.2.2)
  cok : ∀ c, L.kc c = true → ClsOk L c
  isi : ∀ y ∈ U.tys, IsiOk L y
  ow : ∀ q ∈ U.own, OwnB L.K (L.cls q.1) (L.fn q.2)
  sp : ∀ q ∈ U.spc, SpcB L.K (L.cls q.2.1) (L.fn q.2.2) q.1
  xc : ∀ q ∈ U.exc, XcOk L.K mg (L.xc q.1) q.2
  hot : U.hot.hfs = [] ∨ HotU U.hot L t mg
  sd : ∀ q ∈ U.said, SaidOk L mg q
  nr : ∀ q ∈ U.nst, SpcB L.K (L.cls q.1) (L.fn q.2) .repr ∧ ∃ fd ps, DefFr L t q.2 fd ps ∧ BindOk L.K fd ps 1 [] [.inl 0]
  hw : w = L.w
  tu : ∀ p ∈ L.T, ∀ q ∈ L.T, p.1 = q.1 → p.2 = q.2
theorem GR.withLam {U : Tx} {L : Lay} {t : Text} {n : Nat} {p : Program} {w : World} {mg : Str → Option Value} {base : Heap} (G : GR U L t n p w mg base) (lm : Bool) : GR { U with lam := lm } L t n p w mg base :=
  ⟨G.nog, G.cst, G.fns, G.dfs, G.cls, G.mth, G.cok, G.isi, G.ow, G.sp, G.xc, G.hc, G.sd, G.nr, G.sm, G.hw, G.tu, G.tb⟩
theorem def_zero {L : Lay} {t : Text} {p : Program} {w : World} {mg : Str → Option Value} {base : Heap} {f : Nat} {fd : FuncData} {ps : List Str} : DefOk p w L.K mg base (4 * 0) (L.fn f) fd ps (lift L (W t 0 f)) :=
  ⟨fun vs H Q E ⟨_, _, _, _, _, _, _, _, h, _⟩ => h.elim, fun _ _ _ _ _ _ _ _ _ _ _ _ _ _ ⟨_, _, _, _, _, _, _, _, h, _⟩ => h.elim⟩
theorem def_zeroG {L : Lay} {t : Text} {p : Program} {w : World} {mg : Str → Option Value} {base : Heap} {f : Nat} {fd : FuncData} {ps : List Str} {gs : Option (List Code) → Prop} : DefOkG gs p w L.K mg base (4 * 0) (L.fn f) fd ps (lift L (W t 0 f)) :=
  ⟨fun vs H Q E ⟨_, _, _, _, _, _, _, _, h, _⟩ => h.elim, fun _ _ _ _ _ _ _ _ _ _ _ _ _ _ ⟨_, _, _, _, _, _, _, _, h, _⟩ => h.elim⟩
theorem deeper_guards {A : Around} {env : PySem.Env} (h : A.guards = some []) : (A.deeper env).guards = some [] := h
theorem def_succ {U : Tx} {L : Lay} {t : Text} {n : Nat} {p : Program} {w : World} {mg : Str → Option Value} {base : Heap} (G : GR U L t n p w mg base) {f : Nat} {fd : FuncData} {ps : List Str} (D : DefAt U L t f fd ps) : DefOk p w L.K mg base (4 * (n + 1)) (L.fn f) fd ps (lift L (W t (n + 1) f)) := by
  obtain ⟨name, qual, params, body, scope, dV, kV, doc, pm, cdv, ct, oc, an, od, osl, N, d, rfl, lk, hcd, S, hd, hnp, hns, lm, hc, hlm⟩ := D.ex
  have len : ∀ vs H Q E, lift L (W t (n + 1) f) vs H Q E → vs.length = ps.length := fun vs H Q E ⟨F, as, R, Rx, _, _, r, _, h, _⟩ => by
    simp only [W, hd] at h
    rw [Paired.length r, h.1, hnp]
  refine ⟨len, fun A outer s H args us vs Q E hg hr e0 hb r hsp => ?_⟩
  have hl := len _ _ _ _ hsp
  obtain ⟨F, as, R, Rx, sub, tf, ra, nd, hW, kR, kX⟩ := hsp
  simp only [W, hd] at hW
  obtain ⟨la, hW⟩ := hW
  have KX : L.K.In s.heap := e0.mod.kin.keeps fun b o e => (e0.bs b o e).1
  have lim : s.heap.NoLimit := e0.mod.nolimit.keeps fun b o e => (e0.bs b o e).1
  have hkind : ∀ y ∈ ps.zip us, scope.names.lookup y.1 = some .local ∨ (scope.names.lookup y.1 = some .cell ∧ ((cellsFrom (s.heap.objs.size + 1) scope.names []).lookup y.1).isSome = true) := fun ⟨n, v⟩ hy => by
    rcases S.par n (List.of_mem_zip hy).1 with q | q
    · exact .inl q
    · exact .inr ⟨q, PySem.W.cellsFrom_some _ _ _ (.inl q)⟩
  refine codeAny_call_function hr.depth (KX _ _ lk) rfl S.co S.gen rfl (PySem.W.codeRec_of KX hcd) (hb _ _ _ _ ?_)
  refine wpAny_newFunctionEnv_cells S.kind hkind fun env he s1 x => ?_
  subst he
  refine ⟨lim.keeps x.toInCall.keep, codeAny_func ?_⟩
  have I : Inv (cxOf (L2.CX p w) p w L.K mg base N qual scope (L.fn f) cdv A outer s H E) [] (L2.start N vs) H s1 := inv_start S hr.hd e0 hl r x
  have hN : N.take ps.length = ps := S.pre
  have lN : ps.length ≤ N.length := by
    have := congrArg List.length hN
    rw [List.length_take] at this
    omega
  have lvs : vs.length = as.length := Paired.length ra
  have lst : (L2.start N vs).length = N.length := by
    unfold L2.start
    rw [List.length_append, List.length_map, List.length_replicate]
    omega
  have c : CO { U with lam := lm } L t n N scope (cxOf (L2.CX p w) p w L.K mg base N qual scope (L.fn f) cdv A outer s H E) :=
    ⟨rfl, S.nd, rfl, rfl, rfl, fun _ => deeper_guards hg, (Room.deeper (show Room (4 * n + 3 + 1) A from hr) _).mono (by omega), passes_of rfl, G.withLam lm, fun z => by
      obtain ⟨c, Pt, e1, e2⟩ := hlm z
      exact ⟨Room.deeper (show Room (4 * n + 3 + 1) A from hr) _, c, Pt, e1, e2⟩⟩
  have tk : Takes (cxOf (L2.CX p w) p w L.K mg base N qual scope (L.fn f) cdv A outer s H E) (WXo (bodyP L F H vs as) fun x env => Rx x (bors env)) :=
    (takes_of rfl rfl rfl rfl).imp fun cls d' σ H' ⟨env, F', x, ⟨A', e⟩, q, z⟩ => by
      obtain ⟨h1, h2, h3, h4, h5⟩ := er_end lvs e
      exact kX _ _ _ _ _ _ z h1 h2 h3 h4 h5 q
  have st : EX (bodyP L F H vs as) (L2.start N vs) H (as.map some ++ List.replicate (d.ns - d.np) none) F := er_start sub tf ra nd (by rw [la, hnp, hns]; omega)
  have hb := okSs d.body _ scope body c (fun _ => rfl) S.kind hc (bodyP L F H vs as) (fun x env => Rx x (bors env)) rfl tk
  have hq : tSs (bodyP L F H vs as) (Gam t n) (fun x env => Rx x (bors env)) d.body { nx := fun _ H' => Q .non H', rt := Q } (L2.start N vs) H :=
    ⟨_, F, _, st, hW, fun σ' H' env' F' z ⟨A', e⟩ => by
      obtain ⟨h1, h2, h3, h4, h5⟩ := er_end lvs e
      exact kR _ _ .non F' H' z h1 h2 h3 h4 h5 rfl, fun σ' r env' v H' F' z ⟨A', e, rv⟩ => by
      obtain ⟨h1, h2, h3, h4, h5⟩ := er_end lvs e
      exact kR _ _ v F' H' z h1 h2 h3 h4 h5 (ret_end lvs e rv), fun _ _ _ _ z _ => z.elim, fun _ _ _ _ z _ => z.elim⟩
  refine wpAny_mono (hb.run [] s1 (L2.start N vs) H _ I hq) (fun fl s' hs => ?_) fun e s' hs => hs
  have fin : ∀ {σ' : L2.St} {H' : Hp} {v : V} {u : Value}, Inv (cxOf (L2.CX p w) p w L.K mg base N qual scope (L.fn f) cdv A outer s H E) [] σ' H' s' → RelV v u → Q v H' → CE outer p w H s Q u s' :=
    fun {σ' H' v u} J rv q => ⟨v, H', J.os, J.bare, J.base, J.hok, rv, q⟩
  cases fl with
  | ret u =>
    obtain ⟨v, σ', H', J, rv, q⟩ := hs
    exact fin J rv q
  | next =>
    obtain ⟨σ', H', J, q⟩ := hs
    exact fin (v := V.non) (u := Value.none) J rfl q
  | brk =>
    obtain ⟨_, _, _, q⟩ := hs
    exact False.elim q
  | cont =>
    obtain ⟨_, _, _, q⟩ := hs
    exact False.elim q
theorem def_fr {U : Tx} {L : Lay} {t : Text} {n : Nat} {p : Program} {w : World} {mg : Str → Option Value} {base : Heap} (G : GR U L t n p w mg base) {f : Nat} {fd : FuncData} {ps : List Str} (D : DefFr L t f fd ps) : DefOkG (fun g => ∃ l, g = some l) p w L.K mg base (4 * (n + 1)) (L.fn f) fd ps (lift L (W t (n + 1) f)) := by
  obtain ⟨name, qual, params, body, scope, dV, kV, doc, pm, cdv, ct, oc, an, od, osl, N, d, rfl, lk, hcd, S, hd, hnp, hns, hc⟩ := D.ex
  have no : ∀ {α : Type} {x : α}, x ∈ ([] : List α) → False := fun z => by cases z
  have G0 : GR U0 L t n p w mg base := ⟨fun _ z => (no z).elim, fun _ z => (no z).elim, fun _ z => (no z).elim, fun _ z => (no z).elim, fun _ z => (no z).elim, fun _ z => (no z).elim, G.cok, fun _ z => (no z).elim, fun _ z => (no z).elim, fun _ z => (no z).elim, fun _ z => (no z).elim, fun _ z => (no z).elim, fun _ z => (no z).elim, fun _ z => (no z).elim, G.sm, G.hw, G.tu, G.tb⟩
  have len : ∀ vs H Q E, lift L (W t (n + 1) f) vs H Q E → vs.length = ps.length := fun vs H Q E ⟨F, as, R, Rx, _, _, r, _, h, _⟩ => by
    simp only [W, hd] at h
    rw [Paired.length r, h.1, hnp]
  refine ⟨len, fun A outer s H args us vs Q E hg hr e0 hb r hsp => ?_⟩
  have hl := len _ _ _ _ hsp
  obtain ⟨F, as, R, Rx, sub, tf, ra, nd, hW, kR, kX⟩ := hsp
  simp only [W, hd] at hW
  obtain ⟨la, hW⟩ := hW
  have KX : L.K.In s.heap := e0.mod.kin.keeps fun b o e => (e0.bs b o e).1
  have lim : s.heap.NoLimit := e0.mod.nolimit.keeps fun b o e => (e0.bs b o e).1
  have hkind : ∀ y ∈ ps.zip us, scope.names.lookup y.1 = some .local ∨ (scope.names.lookup y.1 = some .cell ∧ ((cellsFrom (s.heap.objs.size + 1) scope.names []).lookup y.1).isSome = true) := fun ⟨n, v⟩ hy => by
    rcases S.par n (List.of_mem_zip hy).1 with q | q
    · exact .inl q
    · exact .inr ⟨q, PySem.W.cellsFrom_some _ _ _ (.inl q)⟩
  refine codeAny_call_function hr.depth (KX _ _ lk) rfl S.co S.gen rfl (PySem.W.codeRec_of KX hcd) (hb _ _ _ _ ?_)
  refine wpAny_newFunctionEnv_cells S.kind hkind fun env he s1 x => ?_
  subst he
  refine ⟨lim.keeps x.toInCall.keep, codeAny_func ?_⟩
  have I : Inv (cxOf (L2.CX p w) p w L.K mg base N qual scope (L.fn f) cdv A outer s H E) [] (L2.start N vs) H s1 := inv_start S hr.hd e0 hl r x
  have hN : N.take ps.length = ps := S.pre
  have lN : ps.length ≤ N.length := by
    have := congrArg List.length hN
    rw [List.length_take] at this
    omega
  have lvs : vs.length = as.length := Paired.length ra
  have lst : (L2.start N vs).length = N.length := by
    unfold L2.start
    rw [List.length_append, List.length_map, List.length_replicate]
    omega
  have c : CO U0 L t n N scope (cxOf (L2.CX p w) p w L.K mg base N qual scope (L.fn f) cdv A outer s H E) :=
    ⟨rfl, S.nd, rfl, rfl, rfl, fun z => absurd z (by decide), (Room.deeper (show Room (4 * n + 3 + 1) A from hr) _).mono (by omega), passes_of rfl, G0, fun z => absurd z (by decide)⟩
  have tk : Takes (cxOf (L2.CX p w) p w L.K mg base N qual scope (L.fn f) cdv A outer s H E) (WXo (bodyP L F H vs as) fun x env => Rx x (bors env)) :=
    (takes_of rfl rfl rfl rfl).imp fun cls d' σ H' ⟨env, F', x, ⟨A', e⟩, q, z⟩ => by
      obtain ⟨h1, h2, h3, h4, h5⟩ := er_end lvs e
      exact kX _ _ _ _ _ _ z h1 h2 h3 h4 h5 q
  have st : EX (bodyP L F H vs as) (L2.start N vs) H (as.map some ++ List.replicate (d.ns - d.np) none) F := er_start sub tf ra nd (by rw [la, hnp, hns]; omega)
  have hb := okSs d.body _ scope body c (fun _ => rfl) S.kind hc (bodyP L F H vs as) (fun x env => Rx x (bors env)) rfl tk
  have hq : tSs (bodyP L F H vs as) (Gam t n) (fun x env => Rx x (bors env)) d.body { nx := fun _ H' => Q .non H', rt := Q } (L2.start N vs) H :=
    ⟨_, F, _, st, hW, fun σ' H' env' F' z ⟨A', e⟩ => by
      obtain ⟨h1, h2, h3, h4, h5⟩ := er_end lvs e
      exact kR _ _ .non F' H' z h1 h2 h3 h4 h5 rfl, fun σ' r env' v H' F' z ⟨A', e, rv⟩ => by
      obtain ⟨h1, h2, h3, h4, h5⟩ := er_end lvs e
      exact kR _ _ v F' H' z h1 h2 h3 h4 h5 (ret_end lvs e rv), fun _ _ _ _ z _ => z.elim, fun _ _ _ _ z _ => z.elim⟩
  refine wpAny_mono (hb.run [] s1 (L2.start N vs) H _ I hq) (fun fl s' hs => ?_) fun e s' hs => hs
  have fin : ∀ {σ' : L2.St} {H' : Hp} {v : V} {u : Value}, Inv (cxOf (L2.CX p w) p w L.K mg base N qual scope (L.fn f) cdv A outer s H E) [] σ' H' s' → RelV v u → Q v H' → CE outer p w H s Q u s' :=
    fun {σ' H' v u} J rv q => ⟨v, H', J.os, J.bare, J.base, J.hok, rv, q⟩
  cases fl with
  | ret u =>
    obtain ⟨v, σ', H', J, rv, q⟩ := hs
    exact fin J rv q
  | next =>
    obtain ⟨σ', H', J, q⟩ := hs
    exact fin (v := V.non) (u := Value.none) J rfl q
  | brk =>
    obtain ⟨_, _, _, q⟩ := hs
    exact False.elim q
  | cont =>
    obtain ⟨_, _, _, q⟩ := hs
    exact False.elim q
/-- calls n deep, every n -/
theorem gr_all {U : Tx} {L : Lay} {t : Text} {p : Program} {w : World} {mg : Str → Option Value} {base : Heap} (G : GR0 U L t w mg) (sm : ∃ o, base.get? sysModules = some o) (tb : ∀ q ∈ L.C, LamX.TabB base mg q.1 q.2.1) : ∀ n, GR U L t n p w mg base
  | 0 => ⟨G.nog, G.cst, G.fns, fun q hq => by
    obtain ⟨h2, fd, ps, _, h4⟩ := G.dfs q hq
    exact ⟨h2, fd, ps, def_zero, h4⟩, G.cls, G.mth, G.cok, G.isi, G.ow, G.sp, G.xc, hot_all G.hot G.hw _, G.sd, fun q hq => by
    obtain ⟨h1, fd, ps, _, h3⟩ := G.nr q hq
    exact ⟨h1, fd, ps, def_zeroG, h3⟩, sm, G.hw, G.tu, tb⟩
  | n + 1 => ⟨G.nog, G.cst, G.fns, fun q hq => by
    obtain ⟨h2, fd, ps, h3, h4⟩ := G.dfs q hq
    exact ⟨h2, fd, ps, def_succ (gr_all G sm tb n) h3, h4⟩, G.cls, G.mth, G.cok, G.isi, G.ow, G.sp, G.xc, hot_all G.hot G.hw _, G.sd, fun q hq => by
    obtain ⟨h1, fd, ps, h2, h3⟩ := G.nr q hq
    exact ⟨h1, fd, ps, def_fr (gr_all G sm tb n) h2, h3⟩, sm, G.hw, G.tu, tb⟩
end G
/-! B5: the law's end; binding. -/
namespace G
open PySem PySem.Spec L2 PyProof.Rows Att

theorem caller_guards : callerA.guards = some [] := rfl
/-- all but the tables -/
def noTbl (H : Hp) : Hp := fun b => if (H b).all notTbl = true then H b else none
theorem noTbl_le (H : Hp) : LeH (noTbl H) H := fun b o q => by
  unfold noTbl at q
  split at q
  · exact q
  · cases q
theorem noTbl_no (H : Hp) (b : Addr) (ps : Array Value) : noTbl H b ≠ some (.tbl ps) := fun q => by
  unfold noTbl at q
  split at q
  · rename_i z
    rw [q] at z
    cases z
  · cases q
theorem noTbl_at {H : Hp} {b : Addr} {o : HO} (h : H b = some o) (n : notTbl o = true) : noTbl H b = some o := by
  unfold noTbl
  rw [h]
  exact if_pos n
/-- an empty table's object -/
abbrev tab0 : Obj := { cls := .none, data := .fields #[] }
/-- what the layer sees as the law is called: the tables, empty; the script, unless the written part holds it -/
abbrev lob (us : Array Value) : Obj := { cls := .type "list", data := .seq us }
def seen (K : PySem.W.Frag) (T : List Addr) (a : Addr) (sc : Array Value) (xs : List V) : Hp := fun b =>
  if b ∈ T then some (.tbl #[]) else if b = a ∧ K.lookup a = none then some (.frz (lob sc) (.lst xs)) else none
/-- what is so in the heap at the law's call -/
structure AtCall (K : PySem.W.Frag) (T : List Addr) (a : Addr) (sc : Array Value) (xs : List V) (h : Heap) : Prop where
  kin : K.In h
  tab : ∀ b ∈ T, h.get? b = some tab0
  out : ∀ b ∈ T, K.lookup b = none
  obj : h.get? a = some (lob sc)
  size : sc.size ≤ sizeLine
  vals : Vals xs sc.toList
section
variable {P : Program} {w : World} {K : PySem.W.Frag} {T : List Addr} {a b : Addr} {sc : Array Value} {xs : List V} {h : Heap} {u : HO} {o : Obj}
theorem seen_tab (m : b ∈ T) : seen K T a sc xs b = some (.tbl #[]) := if_pos m
theorem seen_of (q : seen K T a sc xs b = some u) : (b ∈ T ∧ u = .tbl #[]) ∨ (b ∉ T ∧ b = a ∧ K.lookup a = none ∧ u = .frz (lob sc) (.lst xs)) := by
  unfold seen at q
  split at q
  · rename_i m; cases q; exact .inl ⟨m, rfl⟩
  · rename_i m
    split at q
    · rename_i z; cases q; exact .inr ⟨m, z.1, z.2, rfl⟩
    · cases q
/-- neither a table nor the script: not seen -/
theorem AtCall.not_seen (c : AtCall K T a sc xs h) (e : h.get? b = some o) (n1 : o.data ≠ .fields #[]) (n2 : ∀ us n, o.data ≠ .seq us n) : seen K T a sc xs b = none := by
  cases q : seen K T a sc xs b with
  | none => rfl
  | some u =>
    exfalso
    rcases seen_of q with ⟨m, _⟩ | ⟨_, rfl, _, _⟩
    · have t := c.tab b m
      rw [e] at t
      exact n1 (congrArg Obj.data (Option.some.inj t))
    · have t := c.obj
      rw [e] at t
      rw [Option.some.inj t] at n2
      exact n2 sc _ rfl
theorem AtCall.hid (c : AtCall K T a sc xs h) (e : h.get? b = some o) (n1 : o.data ≠ .fields #[]) (n2 : ∀ us n, o.data ≠ .seq us n) : (hidT h (seen K T a sc xs)).get? b = some o := hidT_get e (c.not_seen e n1 n2)
theorem AtCall.space (c : AtCall K T a sc xs h) {m : Str → Option Value} (n : h.Ns b m) : (hidT h (seen K T a sc xs)).Ns b m := by
  obtain ⟨o, es, ep, e, d, r⟩ := n
  exact ⟨o, es, ep, c.hid e (by rw [d]; exact fun z => nomatch z) (by rw [d]; exact fun _ _ z => nomatch z), d, r⟩
theorem AtCall.frag (c : AtCall K T a sc xs h) : K.In (hidT h (seen K T a sc xs)) := fun b o e => hidT_get (c.kin b o e) (by
  cases q : seen K T a sc xs b with
  | none => rfl
  | some u =>
    rcases seen_of q with ⟨m, _⟩ | ⟨_, rfl, z, _⟩
    · rw [c.out b m] at e; cases e
    · rw [z] at e; cases e)
theorem AtCall.objs (c : AtCall K T a sc xs h) : HOk P w (seen K T a sc xs) h := fun b u q => by
  rcases seen_of q with ⟨m, rfl⟩ | ⟨_, rfl, _, rfl⟩
  · exact c.tab b m
  · exact ⟨c.obj, by rw [c.vals.length, Array.length_toList]; exact c.size, sc.toList, _, c.vals, c.obj⟩
theorem AtCall.script (c : AtCall K T a sc xs h) (hT : a ∉ T) : SqL K (seen K T a sc xs) a xs := by
  cases q : K.lookup a with
  | none => exact .inl (.inr ⟨lob sc, (if_neg hT).trans (if_pos ⟨rfl, q⟩)⟩)
  | some o =>
    have t := c.kin a o q
    rw [c.obj] at t
    cases t
    exact .inr ⟨lob sc, sc, _, q, rfl, rfl, rfl, c.size, c.vals⟩
theorem AtCall.tb (c : AtCall K T a sc xs h) {mg : Str → Option Value} {cd Pt : Addr} (C : PySem.W.CodeHd h cd Pt) (m : Pt ∈ T) (g : h.Ns mainGlobals mg)
    (hbm : ∃ (bm : Addr) (ob : Obj), mg "__builtins__" = some (.ref bm) ∧ bm ≠ builtinsNs ∧ h.get? bm = some ob ∧ ob.cls = .type "module" ∧ ob.dict = some builtinsNs ∧ ob.data = .plain) : LamX.TabB (hidT h (seen K T a sc xs)) mg cd Pt := by
  have tm := c.tab Pt m
  obtain ⟨og, es, ep, eg, dg, _⟩ := g
  refine ⟨?_, ?_, fun z => ?_⟩
  · obtain ⟨o, vs, x1, x2, x3, x4, x5, x6, x7, e, r1, r2, r3, r⟩ := C
    exact ⟨o, vs, x1, x2, x3, x4, x5, x6, x7, c.hid e (fun z => by rw [r2] at z; cases z; simp at r3) (fun _ _ z => by rw [r2] at z; cases z), r1, r2, r3, r⟩
  · obtain ⟨bm, ob, b1, b2, b3, b4, b5, b6⟩ := hbm
    refine ⟨bm, ob, b1, b2, fun z => ?_, fun z => ?_, c.hid b3 (by rw [b6]; exact fun z => nomatch z) (by rw [b6]; exact fun _ _ z => nomatch z), b4, b5, b6⟩
    · rw [z, eg] at b3; cases b3; rw [dg] at b6; cases b6
    · rw [z, tm] at b3; cases b3; cases b6
  · rw [z, tm] at eg; cases eg; cases dg
end
/-- the law's def is called, its promise is kept: what k_head asks -/
theorem law_callG {P : Program} {w : World} {K : PySem.W.Frag} {mg mb : Str → Option Value} {k : Nat} {fa a : Addr} {C : List (Addr × Addr × Str)} {fd : FuncData} {ps : List Str} {sp : Sp} {s : Shared} {vs : List Value} {ns : List Int}
    (kin : K.In s.heap) (ng : s.heap.Ns mainGlobals mg) (nb : s.heap.Ns builtinsNs mb) (bl : ∀ x : Str, x ≠ "__name__" → mb x = bootBuiltins x) (lim : s.heap.NoLimit) (gens : s.gens = #[])
    (hC : ∀ q ∈ C, PySem.W.CodeHd s.heap q.1 q.2.1 ∧ s.heap.get? q.2.1 = some tab0 ∧ K.lookup q.2.1 = none)
    (hbm : ∃ (bm : Addr) (ob : Obj), mg "__builtins__" = some (.ref bm) ∧ bm ≠ builtinsNs ∧ s.heap.get? bm = some ob ∧ ob.cls = .type "module" ∧ ob.dict = some builtinsNs ∧ ob.data = .plain)
    (ha : s.heap.get? a = some { cls := .type "list", data := .seq vs.toArray }) (hi : IntsAre vs ns) (hl : ns.length ≤ sizeLine) (hr : Room k callerA) (hsy : ∃ mm, s.heap.Ns sysModules mm)
    (F : ∀ base : Heap, (∃ o, base.get? sysModules = some o) → (∀ q ∈ C, LamX.TabB base mg q.1 q.2.1) → DefOk P w K mg base k fa fd ps sp) (hbind : ∀ (s : Shared) (u : Value), K.In s.heap → BindsTo s fd ⟨[u], []⟩ (ps.zip [u]))
    (hsp : ∀ H : Hp, (∀ q ∈ C, H q.2.1 = some (.tbl #[])) → SqL K H a (ns.map V.int) → sp [.ref a] H (fun v _ => v = .bl true) fun _ _ _ => False) :
    codeAny (model P w) callerA (.call (.ref fa) ⟨[.ref a], []⟩) (fun r s' => r = .ok (.ret (.bool true)) ∧ OldK s.heap s'.heap ∧ s'.os = s.os ∧ AllBare s'.gens) s := by
  have c : AtCall K (C.map (·.2.1)) a vs.toArray (ns.map V.int) s.heap :=
    ⟨kin, fun b m => by obtain ⟨q, hq, rfl⟩ := List.mem_map.mp m; exact (hC q hq).2.1, fun b m => by obtain ⟨q, hq, rfl⟩ := List.mem_map.mp m; exact (hC q hq).2.2, ha, by rw [List.size_toArray, hi.length]; exact hl, by simpa using vals_ints hi⟩
  have aT : a ∉ C.map (·.2.1) := fun m => by
    have t := c.tab a m
    rw [ha] at t
    have d := congrArg Obj.data (Option.some.inj t)
    cases d
  obtain ⟨mm, hmm⟩ := hsy
  have md : L2.Mod K mg (hidT s.heap (seen K (C.map (·.2.1)) a vs.toArray (ns.map V.int))) := ⟨c.frag, c.space ng, ⟨mb, c.space nb, bl⟩, lim.elim fun mc z => ⟨mc, c.space z.1, z.2⟩⟩
  have sm := c.space hmm
  have run := (F _ (sm.elim fun o z => by obtain ⟨_, _, e, _⟩ := z; exact ⟨o, e⟩) fun q hq => c.tb (hC q hq).1 (List.mem_map.mpr ⟨q, hq, rfl⟩) ng hbm).run callerA [] s _ ⟨[.ref a], []⟩ [.ref a] [.ref a] _ _ caller_guards hr
    ⟨rfl, md, fun b o e => of_hidT e, Nat.le_of_eq (hidT_size _ _), trivial, fun b m => (List.not_mem_nil (show b ∈ ([] : List Addr) from m)).elim, c.objs, AllBare.of_eq gens⟩ (hbind s (.ref a) kin) (.cons rfl .nil)
    (hsp _ (fun q hq => seen_tab (List.mem_map.mpr ⟨q, hq, rfl⟩)) (c.script aT))
  refine codeAny_mono run fun r s' z => ?_
  match r, z with
  | .error e, z =>
    obtain ⟨_, _, _, _, _, _, _, _, _, _, _, _, z⟩ := z
    exact z.elim
  | .ok .next, z => exact False.elim z
  | .ok .brk, z => exact False.elim z
  | .ok .cont, z => exact False.elim z
  | .ok (.ret u), z =>
    obtain ⟨v, H', os, bare, un, ok', ru, rfl⟩ := z
    cases ru
    have same : ∀ b o, b ∉ C.map (·.2.1) → s.heap.get? b = some o → s'.heap.get? b = some o := fun b o nb e => by
      cases q : seen K (C.map (·.2.1)) a vs.toArray (ns.map V.int) b with
      | none => exact un.keep b o e q (fun z => List.not_mem_nil (show b ∈ ([] : List Addr) from z)) (fun z => List.not_mem_nil z)
      | some u =>
        rcases seen_of q with ⟨m, _⟩ | ⟨_, rfl, _, rfl⟩
        · exact absurd m nb
        · rw [ha] at e
          cases e
          exact (ok' b _ (un.frzs b _ _ q)).1
    have more : ∀ q ∈ C, ∃ ps : Array Value, s'.heap.get? q.2.1 = some { cls := .none, data := .fields ps } := fun q hq => by
      obtain ⟨ps, e⟩ := un.tbls q.2.1 #[] (seen_tab (List.mem_map.mpr ⟨q, hq, rfl⟩))
      exact ⟨_, ok' _ _ e⟩
    refine ⟨rfl, ⟨fun b o e => ?_, fun b o e => ?_⟩, os, bare⟩
    · by_cases m : b ∈ C.map (·.2.1)
      · obtain ⟨q, hq, rfl⟩ := List.mem_map.mp m
        obtain ⟨cd, t0, _⟩ := hC q hq
        obtain ⟨ps, e2⟩ := more q hq
        rw [t0] at e
        cases e
        exact .inr (.inl ⟨(cd.tab t0).isCodeTable, rfl, #[], ps, rfl, by rw [Array.empty_append]; exact e2⟩)
      · exact .inl (same b o m e)
    · by_cases m : b ∈ C.map (·.2.1)
      · obtain ⟨q, hq, rfl⟩ := List.mem_map.mp m
        obtain ⟨ps, e2⟩ := more q hq
        exact ⟨_, e2⟩
      · exact ⟨o, same b o m e⟩

/-- THE END: from the meaning of the law's def to the goal that k_head leaves -/
theorem walkG {l : PySem.W.OpenLaw} {q : Program} {loose : List Str} {XP : (Str → Option Value) → Heap → Prop} {YP : World → Heap → Prop} {d : DefRec} {K : Params → PySem.W.Frag} {k fl : Nat} {U : Tx} {t : Text} {lams : List Str}
    (hn : l.most = some 63) (hdf : d.params.defaults = []) (hi : importsNone q = true) (hr : Room (4 * k) callerA)
    (hlam : lams.all (fun x => ((recsOf q).find? fun e => e.name == x).isSome) = true)
    (hY : ∀ (w : World) (h : Heap), YP w h → (K w.params).In h)
    (F : ∀ (w : World) (mg : Str → Option Value) (fa : Addr) (h : Heap), (K w.params).In h → h.Ns mainGlobals mg → mg d.name = some (.ref fa) →
      ∃ L : Lay, L.K = K w.params ∧ L.fn fl = fa ∧ (∀ q ∈ L.C, ∃ x ∈ lams, PySem.W.tabIn L.K x = some (q.1, q.2.1) ∧ L.K.lookup q.2.1 = none) ∧ GR0 U L t w mg ∧ ∃ fd ps, DefAt U L t fl fd ps ∧ BindOk L.K fd ps 1 [] [.inl 0])
    (hW : ∀ ns : List Int, ns.length ≤ 63 → (∀ z ∈ ns, Builtin.Int.intBits z ≤ 1048576) → W t k fl [.val (.scr ns)] (fun r _ => r = .val (.bl true)) (fun _ _ => False)) :
    PySem.W.WalkO q loose XP YP l.row.toRowW d [] (fun f vs => PySem.call f vs) := by
  refine Att.attach_callB hn hdf fun w s₀ s₁ mg mb fa o pm cd doc a vs ns G Y ho hd hcd hmg hobj hints hlen hbits hg => ?_
  have KX := hY w _ Y
  obtain ⟨L, hK, rfl, hC, hG, fd, ps, D, B⟩ := F w mg fa _ KX G.T.g hmg
  have hF : ∀ base : Heap, (∃ o, base.get? sysModules = some o) → (∀ q ∈ L.C, LamX.TabB base mg q.1 q.2.1) → DefOk l.prog w L.K mg base (4 * k) (L.fn fl) fd ps (lift L (W t k fl)) := fun base sm tb => by
    cases k with
    | zero => exact (hW [] (by decide) (fun z hz => by cases hz)).elim
    | succ k => exact def_succ (gr_all hG sm tb k) D
  rw [← hK] at KX
  have hb : ∀ (s : Shared) (u : Value), L.K.In s.heap → BindsTo s fd ⟨[u], []⟩ (ps.zip [u]) := fun s u hs => by
    obtain ⟨zs, b, sr, _⟩ := B s [u] [] hs rfl rfl
    cases sr with
    | cons h t =>
      cases t
      cases h
      exact b
  have hsy : ∃ mm, s₁.heap.Ns sysModules mm := let ⟨mm, h, _⟩ := (G.T.seer hi).mods; ⟨mm, h⟩
  refine law_callG KX G.T.g G.T.b G.T.builtins G.T.nolimit hg (fun p hp => ?_) G.T.bmain hobj hints (Nat.le_trans hlen (by decide)) hr hsy hF hb fun H hT hS => ?_
  · obtain ⟨x, hx, e1, e2⟩ := hC p hp
    have hs := List.all_eq_true.mp hlam x hx
    obtain ⟨dr, hdr⟩ := Option.isSome_iff_exists.mp hs
    obtain ⟨c1, c2⟩ := PySem.W.tab_of G.T KX hdr e1
    exact ⟨c1, c2, e2⟩
  · have hS' : SqL L.K (noTbl H) a (ns.map V.int) := by
      rcases hS with (z | ⟨o, z⟩) | z
      · exact .inl (.inl (noTbl_at z rfl))
      · exact .inl (.inr ⟨o, noTbl_at z rfl⟩)
      · exact .inr z
    refine ⟨noTbl H, [.val (.scr ns)], _, _, noTbl_le H, ⟨fun p hp => ?_, noTbl_no H⟩, .cons ⟨a, rfl, hS'⟩ .nil, List.nodup_nil, hW ns hlen hbits, fun r outs v F' H' e _ _ _ _ _ rr => ?_, fun _ _ _ _ _ _ z => z.elim⟩
    · obtain ⟨q, hq, rfl⟩ := List.mem_map.mp hp
      exact LamX.TabS.nil (hT q hq)
    · subst e
      exact rr

/-! ### binding -/
/-- no defaults are asked -/
theorem bind_no {K : PySem.W.Frag} {fd : FuncData} {ps : List Str} {np : Nat} {kws : List Str} {src : List Nat} (hl : src.length = ps.length) (hs : ∀ k ∈ src, k < np + kws.length)
    (h : ∀ us ws : List Value, us.length = np → ws.length = kws.length → bindArgs fd ⟨us, kws.zip ws⟩ = pure (ps.zip (src.map fun k => (us ++ ws)[k]?.getD .none))) : BindOk K fd ps np kws (src.map .inl) := fun s us ws hs' l1 l2 => by
  refine ⟨_, .of_eq (h us ws l1 l2), ?_, by rw [List.length_map, hl]⟩
  have l : (us ++ ws).length = np + kws.length := by rw [List.length_append, l1, l2]
  clear h hl
  induction src with
  | nil => exact .nil
  | cons k r ih =>
    refine .cons ?_ (ih fun j hj => hs j (List.mem_cons_of_mem _ hj))
    have := hs k (List.mem_cons_self ..)
    show (us ++ ws)[k]? = some ((us ++ ws)[k]?.getD .none)
    rw [List.getElem?_eq_getElem (by omega)]
    rfl
/-- what a default is, as data -/
def Dfl (d : D) (z : Value) : Prop := ∃ v, RelV v z ∧ ∀ L F, Rep L F d v
def pickV (us its : List Value) : Sum Nat Nat → Value
  | .inl k => us[k]?.getD .none
  | .inr j => its[j]?.getD .none
def pickD (ds : List D) : Sum Nat Nat → Sum Nat D
  | .inl k => .inl k
  | .inr j => .inr (ds[j]?.getD .non)
theorem Dfl.get {ds : List D} {its : List Value} : ∀ {j : Nat}, Paired Dfl ds its → j < ds.length → Dfl (ds[j]?.getD .non) (its[j]?.getD .none) := fun {j} h => by
  induction h generalizing j with
  | nil => intro h; simp at h
  | cons a t ih =>
    intro h
    cases j with
    | zero => exact a
    | succ j => exact ih (by simpa using h)
/-- the defaults are a tuple -/
theorem bind_tup {K : PySem.W.Frag} {fd : FuncData} {ps : List Str} {np : Nat} {kws : List Str} {src : List (Sum Nat Nat)} {T : Addr} {o : Obj} {its : List Value} {m : Nat} {ds : List D} (lT : K.lookup T = some o) (oT : o.data = .seq its.toArray m) (hd : Paired Dfl ds its)
    (hl : src.length = ps.length) (hs : src.all (fun k => match k with | .inl k => decide (k < np + kws.length) | .inr j => decide (j < ds.length)) = true)
    (h : ∀ us ws : List Value, us.length = np → ws.length = kws.length → ∃ k, bindArgs fd ⟨us, kws.zip ws⟩ = seqItems? (.ref T) >>= k ∧ k (some its.toArray) = pure (ps.zip (src.map (pickV (us ++ ws) its)))) : BindOk K fd ps np kws (src.map (pickD ds)) := fun s us ws X l1 l2 => by
  obtain ⟨k, e1, e2⟩ := h us ws l1 l2
  refine ⟨src.map (pickV (us ++ ws) its), L2.BindsTo.of_looks fun M => ?_, ?_, by rw [List.length_map, hl]⟩
  · rw [e1]
    exact looks_items X lT oT (.of_pure e2)
  · have l : (us ++ ws).length = np + kws.length := by rw [List.length_append, l1, l2]
    clear h hl e1 e2
    induction src with
    | nil => exact .nil
    | cons q r ih =>
      rw [List.all_cons, Bool.and_eq_true] at hs
      refine .cons ?_ (ih hs.2)
      have := hs.1
      cases q with
      | inl k =>
        show (us ++ ws)[k]? = some ((us ++ ws)[k]?.getD .none)
        have : k < np + kws.length := of_decide_eq_true this
        rw [List.getElem?_eq_getElem (by omega)]
        rfl
      | inr j => exact Dfl.get hd (of_decide_eq_true this)
theorem len0 {α : Type} {xs : List α} (h : xs.length = 0) : xs = [] := List.eq_nil_of_length_eq_zero h

/-! ### the facts, put together -/
theorem fa_nil {α : Type} {B : α → Prop} : ∀ q ∈ ([] : List α), B q := fun q h => by simp at h
theorem fa_cons {α : Type} {B : α → Prop} {a : α} {r : List α} (h0 : B a) (hr : ∀ q ∈ r, B q) : ∀ q ∈ a :: r, B q := fun q h => by
  rcases List.mem_cons.mp h with rfl | h
  · exact h0
  · exact hr q h
theorem fa_has {l : List Nat} {B : Nat → Prop} (h : ∀ q ∈ l, B q) : ∀ q, l.contains q = true → B q := fun q z => h q (by simpa using z)
def TUniq (T : List (Addr × Str)) : Prop := ∀ p ∈ T, ∀ q ∈ T, p.1 = q.1 → p.2 = q.2
theorem tu_nil : TUniq [] := fun p hp => (List.not_mem_nil hp).elim
theorem tu_cons {a : Addr} {x : Str} {T : List (Addr × Str)} (h : ∀ q ∈ T, (a == q.1) = false) (r : TUniq T) : TUniq ((a, x) :: T) := fun p hp q hq e => by
  rcases List.mem_cons.mp hp with rfl | hp
  · rcases List.mem_cons.mp hq with rfl | hq
    · rfl
    · have := h q hq
      rw [beq_eq_false_iff_ne] at this
      exact absurd e this
  · rcases List.mem_cons.mp hq with rfl | hq
    · have := h p hp
      rw [beq_eq_false_iff_ne] at this
      exact absurd e.symm this
    · exact r p hp q hq e
theorem defAt {U : Tx} {L : Lay} {t : Text} {f : Nat} {fa : Addr} {name qual : Str} {params : Arguments} {body : List Stmt} {scope : Scope} {dV kV doc pm cdv ct oc : Value} {an od : Option Addr} {osl : Array (Option Value)} (N ps : List Str) (d : FD) (hf : L.fn f = fa)
    (lk : L.K.lookup fa = some ⟨oc, od, .func (PySem.W.fnOf name qual params body scope dV kV doc pm an cdv ct), osl⟩) (hcd : PySem.W.codeIn L.K cdv qual = true) (hd : t.at f = some d) (S : C8.scC N ps scope = true) (h1 : d.np = ps.length) (h2 : d.ns = N.length) (hc : chkSs { U with lam := false } N d.body scope body = true) :
    DefAt U L t f (PySem.W.fnOf name qual params body scope dV kV doc pm an cdv ct) ps :=
  ⟨name, qual, params, body, scope, dV, kV, doc, pm, cdv, ct, oc, an, od, osl, N, d, rfl, by rw [hf]; exact lk, hcd, C8.fnScope_by S, hd, h1, h2, false, hc, fun z => nomatch z⟩
theorem defFr {L : Lay} {t : Text} {f : Nat} {fa : Addr} {name qual : Str} {params : Arguments} {body : List Stmt} {scope : Scope} {dV kV doc pm cdv ct oc : Value} {an od : Option Addr} {osl : Array (Option Value)} (N ps : List Str) (d : FD) (hf : L.fn f = fa)
    (lk : L.K.lookup fa = some ⟨oc, od, .func (PySem.W.fnOf name qual params body scope dV kV doc pm an cdv ct), osl⟩) (hcd : PySem.W.codeIn L.K cdv qual = true) (hd : t.at f = some d) (S : C8.scC N ps scope = true) (h1 : d.np = ps.length) (h2 : d.ns = N.length) (hc : chkSs U0 N d.body scope body = true) :
    DefFr L t f (PySem.W.fnOf name qual params body scope dV kV doc pm an cdv ct) ps :=
  ⟨name, qual, params, body, scope, dV, kV, doc, pm, cdv, ct, oc, an, od, osl, N, d, rfl, by rw [hf]; exact lk, hcd, C8.fnScope_by S, hd, h1, h2, hc⟩
theorem tab_in {K : PySem.W.Frag} {x : Str} {f c Pt : Addr} {oc o2 : Value} {od o3 : Option Addr} {fd : FuncData} {sl s2 : Array (Option Value)} {vs : Array Value} (h1 : PySem.W.nsIn K mainGlobals x = some (some (.ref f))) (h2 : K.lookup f = some ⟨oc, od, .func fd, sl⟩) (h3 : fd.code = .ref c)
    (h4 : K.lookup c = some ⟨o2, o3, .fields vs, s2⟩) (h5 : vs[11]? = some (.ref Pt)) : PySem.W.tabIn K x = some (c, Pt) := by
  unfold PySem.W.tabIn
  rw [h1]
  dsimp only
  rw [h2]
  dsimp only
  rw [h3]
  dsimp only
  rw [h4]
  dsimp only
  rw [h5]
/-- .. that makes lambdas -/
theorem defAtL {U : Tx} {L : Lay} {t : Text} {f : Nat} {fa cA Pt : Addr} {name qual : Str} {params : Arguments} {body : List Stmt} {scope : Scope} {dV kV doc pm ct oc : Value} {an od : Option Addr} {osl : Array (Option Value)} (N ps : List Str) (d : FD) (hf : L.fn f = fa)
    (lk : L.K.lookup fa = some ⟨oc, od, .func (PySem.W.fnOf name qual params body scope dV kV doc pm an (.ref cA) ct), osl⟩) (hcd : PySem.W.codeIn L.K (.ref cA) qual = true) (hd : t.at f = some d) (S : C8.scC N ps scope = true) (h1 : d.np = ps.length) (h2 : d.ns = N.length) (hc : chkSs { U with lam := true } N d.body scope body = true)
    (hm : (cA, Pt, (qual ++ ".<locals>." : Str) ++ "<lambda>") ∈ L.C) : DefAt U L t f (PySem.W.fnOf name qual params body scope dV kV doc pm an (.ref cA) ct) ps :=
  ⟨name, qual, params, body, scope, dV, kV, doc, pm, .ref cA, ct, oc, an, od, osl, N, d, rfl, by rw [hf]; exact lk, hcd, C8.fnScope_by S, hd, h1, h2, true, hc, fun _ => ⟨cA, Pt, rfl, hm⟩⟩
/-- what a constant is, as data -/
def Cv (L : Lay) (d : D) (z : Value) : Prop := ∃ v, RelV v z ∧ ∀ F, Rep L F d v
theorem cv_int {L : Lay} {i : Int} {tk : Nat} : Cv L (.int i) (.int i tk) := ⟨.int i, ⟨tk, rfl⟩, fun _ => rfl⟩
theorem cv_str {L : Lay} {s : Str} {tk : Nat} (h : s.length ≤ line) : Cv L (.str s) (.str s tk) := ⟨.str s, ⟨tk, rfl⟩, fun _ => ⟨rfl, h⟩⟩
theorem cv_fn {L : Lay} {f : Nat} {a : Addr} (h : L.fn f = a) : Cv L (.fn f) (.ref a) := ⟨.ref a, rfl, fun _ => by rw [← h]; rfl⟩
theorem cv_non {L : Lay} : Cv L .non .none := ⟨.non, rfl, fun _ => rfl⟩
theorem cv_bl {L : Lay} {b : Bool} : Cv L (.bl b) (.bool b) := ⟨.bl b, rfl, fun _ => rfl⟩
theorem cvs_get {L : Lay} {ds : List D} {zs : List Value} (h : Paired (Cv L) ds zs) : ∃ vs, Vals vs zs ∧ ∀ F, Reps L F ds vs := by
  induction h with
  | nil => exact ⟨[], .nil, fun _ => rfl⟩
  | cons a t ih =>
    obtain ⟨v, h1, h2⟩ := a
    obtain ⟨vs, h3, h4⟩ := ih
    exact ⟨v :: vs, .cons h1 h3, fun F => ⟨v, vs, rfl, h2 F, h4 F⟩⟩
theorem cv_tup {L : Lay} {T : Addr} {its : List Value} {m : Nat} {ds : List D} {td : Option Addr} {sl : Array (Option Value)} (lk : L.K.lookup T = some ⟨.type "tuple", td, .seq its.toArray m, sl⟩) (hl : its.length ≤ sizeLine) (h : Paired (Cv L) ds its) : Cv L (.tup ds) (.ref T) := by
  obtain ⟨vs, h1, h2⟩ := cvs_get h
  exact ⟨.ref T, rfl, fun F => ⟨T, vs, rfl, .inr ⟨_, its.toArray, m, lk, rfl, rfl, by rw [List.size_toArray]; exact hl, by simpa using h1⟩, h2 F⟩⟩
/-- a dict's entries: text keys, values -/
def Ents : List DictEntry → List (Str × Value) → Prop
  | [], [] => True
  | e :: es, q :: qs => (∃ t, e.key = .str q.1 t) ∧ e.val = q.2 ∧ Ents es qs
  | _, _ => False
theorem ents_find {x : Str} : ∀ {es : List DictEntry} {qs : List (Str × Value)}, Ents es qs → (es.find? (·.key.isStr x)).map (·.val) = qs.lookup x ∧ es.any (·.refKey) = false
  | [], [], _ => ⟨rfl, rfl⟩
  | [], _ :: _, h => h.elim
  | _ :: _, [], h => h.elim
  | e :: es, q :: qs, ⟨⟨t, h1⟩, h2, h3⟩ => by
    obtain ⟨a, b⟩ := ents_find (x := x) h3
    have k1 : e.key.isStr x = (x == q.1) := by
      rw [h1]
      show (q.1 == x) = (x == q.1)
      exact Bool.eq_iff_iff.mpr ⟨fun z => by rw [eq_of_beq z]; exact beq_self_eq_true _, fun z => by rw [eq_of_beq z]; exact beq_self_eq_true _⟩
    refine ⟨?_, ?_⟩
    · rw [List.find?_cons, k1, List.lookup_cons]
      cases x == q.1 with
      | true => show some e.val = some q.2; rw [h2]
      | false => exact a
    · rw [List.any_cons, b, Bool.or_false]
      unfold DictEntry.refKey
      rw [h1]
theorem cv_dict {L : Lay} {A : Addr} {es : Array DictEntry} {n : Nat} {qs : List (Str × Value)} {ds : List D} (ks : List Str) (lk : L.K.lookup A = some ⟨.type "dict", none, .dict es n, #[]⟩) (kl : PySem.W.KeysLit L.w.params es.toList) (low : (A == sysModules) = false) (he : Ents es.toList qs)
    (hk : ks = qs.map (·.1)) (h : Paired (Cv L) ds (qs.map (·.2))) (hn : (qs.map (·.1)).Nodup) : Cv L (.dct true (ks.map .inr) ds) (.ref A) := by
  obtain ⟨vs, h1, h2⟩ := cvs_get h
  have hl : vs.length = qs.length := by have := h1.length; rw [List.length_map] at this; exact this
  have hns : ∀ z : Str, PySem.W.nsIn L.K A z = some (qs.lookup z) := fun z => by
    obtain ⟨a, b⟩ := ents_find (x := z) he
    unfold PySem.W.nsIn
    rw [lk]
    dsimp only
    rw [← a, b]
    cases es.toList.find? (·.key.isStr z) with
    | none => rfl
    | some e => rfl
  refine ⟨.ref A, rfl, fun F => ⟨A, vs, rfl, ⟨by rw [List.length_map, hk, List.length_map, hl], .inr ⟨rfl, es, n, ⟨lk, kl, low⟩, fun z hz => ?_, fun i k v e1 e2 => ?_⟩⟩, h2 F⟩⟩
  · rw [hns]
    congr 1
    rw [List.lookup_eq_none_iff]
    intro q hq
    rw [bne_iff_ne]
    rintro rfl
    exact hz (List.mem_map.mpr ⟨q.1, by rw [hk]; exact List.mem_map.mpr ⟨q, hq, rfl⟩, rfl⟩)
  · rw [hk, List.getElem?_map, List.getElem?_map] at e1
    cases e3 : qs[i]? with
    | none => rw [e3] at e1; simp at e1
    | some q =>
      rw [e3] at e1
      simp at e1
      subst e1
      obtain ⟨u, e4, e5⟩ := h1.get e2
      rw [List.getElem?_map, e3] at e4
      simp at e4
      subst e4
      refine ⟨q.1, q.2, rfl, ?_, e5⟩
      rw [hns]
      congr 1
      clear hns e2 e5 hl h1 h2 he hk h
      induction qs generalizing i with
      | nil => simp at e3
      | cons r qs ih =>
        rw [List.lookup_cons]
        cases i with
        | zero => simp at e3; subst e3; rw [beq_self_eq_true]
        | succ i =>
          have hn' := List.nodup_cons.mp hn
          have hm : q ∈ qs := List.mem_of_getElem? (by simpa using e3)
          have : (q.1 == r.1) = false := beq_eq_false_iff_ne.mpr fun z => hn'.1 (List.mem_map.mpr ⟨q, hm, z⟩)
          rw [this]
          exact ih hn'.2 i (by simpa using e3)
theorem cst_at {L : Lay} {mg : Str → Option Value} {x : Str} {u : Value} {d : D} (h : mg x = some u) (c : Cv L d u) : ∃ u v, mg x = some u ∧ RelV v u ∧ ∀ F, Rep L F d v := let ⟨v, h1, h2⟩ := c; ⟨u, v, h, h1, h2⟩
theorem dfl_cv {d : D} {z : Value} (h : ∀ L, Cv L d z) (h2 : ∃ v, RelV v z ∧ ∀ L F, Rep L F d v) : Dfl d z := h2
theorem dfl_int {i : Int} {tk : Nat} : Dfl (.int i) (.int i tk) := ⟨.int i, ⟨tk, rfl⟩, fun _ _ => rfl⟩
theorem dfl_str {s : Str} {tk : Nat} (h : s.length ≤ line) : Dfl (.str s) (.str s tk) := ⟨.str s, ⟨tk, rfl⟩, fun _ _ => ⟨rfl, h⟩⟩
theorem dfl_non : Dfl .non .none := ⟨.non, rfl, fun _ _ => rfl⟩
theorem dfl_bl {b : Bool} : Dfl (.bl b) (.bool b) := ⟨.bl b, rfl, fun _ _ => rfl⟩
/-! classes -/
theorem clsOk_of {L : Lay} {c : Nat} {C : Addr} {cd : ClassData} {ca : Value} {cb : Option Addr} {csl : Array (Option Value)} (hc : L.cls c = C) (pg : PySem.W.plainGet L.K C Str.empty = true) (hd : PySem.W.hasDictIn L.K C = true) (po : PySem.W.plainOver L.K C = true) (sa : PySem.W.findIn L.K (.ref C) "__setattr__" = some (some (.builtin "object.__setattr__")))
    (na : ∀ f ∈ clsAt c, PySem.W.findIn L.K (.ref C) (attrNm f) = some none) (ha : PySem.W.findIn L.K (.ref C) "__class__" = some (some (.builtin "object.__class__"))) (hn : PySem.W.specialIn L.K (.builtin "object.__class__") "__get__" = some (some (.builtin "getset_descriptor.__get__")))
    (htk : PySem.W.takesIn L.K (.builtin "object.__class__") = some true) (hm : PySem.W.mroIn L.K C (.type "object") = some true) (lk : L.K.lookup C = some ⟨ca, cb, .cls cd, csl⟩) (ct : PySem.W.typeIn L.K (.ref C) = some (.type "type")) : ClsOk L c := by
  subst hc
  exact ⟨⟨pg, hd, po, sa⟩, na, ha, hn, htk, hm, by rw [show PySem.W.clsIn L.K (L.cls c) = some cd by unfold PySem.W.clsIn; rw [lk], ct]; rfl⟩
theorem isi_ty {L : Lay} {t : Ty} (T : String) (h0 : tyAsk L t = .type T) (h1 : ∀ c fs, tyD t (.ins c fs) = false) (h2 : PySem.W.kitMeta T = true) (h3 : ∀ c, t ≠ .cls c) (h : ∀ c, L.kc c = true → PySem.W.mroIn L.K (L.cls c) (.type T) = some false) : IsiOk L t := by
  refine ⟨fun c fs hc => ?_, fun c e => absurd e (h3 c)⟩
  rw [h0, h1]
  unfold PySem.W.kitOne
  rw [if_neg (by intro z; exact absurd (beq_iff_eq.mp z) (fun q => nomatch q))]
  unfold PySem.W.kitCls
  dsimp only
  rw [if_pos h2]
  exact h c hc
theorem isi_cls {L : Lay} {c : Nat} (hc : L.kc c = true) (C : ClsOk L c) (h : ∀ c', L.kc c' = true → c' ≠ c → PySem.W.mroIn L.K (L.cls c') (.ref (L.cls c)) = some false ∧ (L.cls c' == L.cls c) = false) : IsiOk L (.cls c) := by
  refine ⟨fun c' fs hc' => ?_, fun c2 e => by cases e; exact hc⟩
  show PySem.W.kitOne L.K (.ref (L.cls c')) (.ref (L.cls c)) = some (c == c')
  unfold PySem.W.kitOne
  by_cases e : c' = c
  · subst e
    rw [if_pos (beq_self_eq_true _)]
    simp
  · obtain ⟨h2, h3⟩ := h c' hc' e
    have e2 : (c == c') = false := beq_eq_false_iff_ne.mpr fun z => e z.symm
    rw [e2]
    split
    · rename_i z
      have z := beq_iff_eq.mp z
      injection z with z
      rw [z, beq_self_eq_true] at h3
      cases h3
    · unfold PySem.W.kitCls
      dsimp only
      rw [if_pos C.ci]
      exact h2
/-! exception classes -/
structure XcC (K : PySem.W.Frag) (X0 X : Addr) : Prop where
  ex : ExcC K X
  mro : ∃ cd, PySem.W.clsIn K X = some cd ∧ cd.mro = [.ref X, .ref X0, .type "ValueError", .type "Exception", .type "BaseException", .type "object"]
abbrev ciB (K : PySem.W.Frag) (X : Addr) : Prop := ((PySem.W.clsIn K X).isSome && PySem.W.typeIn K (.ref X) == some (.type "type")) = true
theorem ciB_of {K : PySem.W.Frag} {X : Addr} {cd : ClassData} {ca : Value} {cb : Option Addr} {csl : Array (Option Value)} (lk : K.lookup X = some ⟨ca, cb, .cls cd, csl⟩) (ct : PySem.W.typeIn K (.ref X) = some (.type "type")) : ciB K X := by
  unfold ciB
  rw [show PySem.W.clsIn K X = some cd by unfold PySem.W.clsIn; rw [lk], ct]
  rfl
theorem xcC_of {K : PySem.W.Frag} {X0 X : Addr} {cd : ClassData} {ca : Value} {cb : Option Addr} {csl : Array (Option Value)} (lk : K.lookup X = some ⟨ca, cb, .cls cd, csl⟩) (hm : cd.mro = [.ref X, .ref X0, .type "ValueError", .type "Exception", .type "BaseException", .type "object"])
    (h1 : PySem.W.findIn K (.ref X) "__getattribute__" = some (some (.builtin "BaseException.__getattribute__"))) (h2 : PySem.W.findIn K (.ref X) "__getattr__" = some none) (h4 : PySem.W.hasDictIn K X = true) (h5 : PySem.W.findIn K (.ref X) "__class__" = some (some (.builtin "object.__class__")))
    (hn : PySem.W.specialIn K (.builtin "object.__class__") "__get__" = some (some (.builtin "getset_descriptor.__get__"))) (ht : PySem.W.takesIn K (.builtin "object.__class__") = some true) : XcC K X0 X := by
  have hc : PySem.W.clsIn K X = some cd := by unfold PySem.W.clsIn; rw [lk]
  have hmi : ∀ b, PySem.W.mroIn K X b = some (cd.mro.contains b) := fun b => by
    unfold PySem.W.mroIn
    rw [hc]
    show (if cd.mro.isEmpty = true then none else some (cd.mro.contains b)) = _
    rw [hm]
    rfl
  refine ⟨⟨h1, h2, ?_, h4, h5, hn, ht, ?_⟩, cd, hc, hm⟩
  · show PySem.W.mroIn K X _ = _
    rw [hmi, hm]
    simp
  · rw [hmi, hm]
    simp
theorem xc_mro {K : PySem.W.Frag} {X0 X : Addr} (h : XcC K X0 X) (b : Value) : PySem.W.mroIn K X b = some (List.contains [.ref X, .ref X0, .type "ValueError", .type "Exception", .type "BaseException", .type "object"] b) := by
  obtain ⟨cd, hc, hm⟩ := h.mro
  unfold PySem.W.mroIn
  rw [hc, ← hm]
  simp [hm]
def allX : List Nat := [0, 2, 3, 4, 5, 6, 7, 8, 9, 10, 11, 12, 13, 14, 15, 16, 17, 18, 19, 20]
theorem plX_all {c : Nat} (h : c ∈ plX) : c ∈ allX ∧ c ≠ 0 ∧ c ≠ 1 := by
  simp only [plX, List.mem_cons, List.not_mem_nil, or_false] at h
  simp only [allX, List.mem_cons, List.not_mem_nil, or_false]
  omega
theorem inj_of {xc : Nat → Addr} : ∀ {l : List Nat}, (l.map xc).Nodup → ∀ c ∈ l, ∀ c' ∈ l, xc c = xc c' → c = c'
  | [], _, _, h, _, _, _ => by cases h
  | x :: l, nd, c, h, c', h', e => by
    rw [List.map_cons, List.nodup_cons] at nd
    rcases List.mem_cons.mp h with e1 | h
    · rcases List.mem_cons.mp h' with e2 | h'
      · rw [e1, e2]
      · exact absurd (List.mem_map.mpr ⟨c', h', by rw [← e1]; exact e.symm⟩) nd.1
    · rcases List.mem_cons.mp h' with e2 | h'
      · exact absurd (List.mem_map.mpr ⟨c, h, by rw [← e2]; exact e⟩) nd.1
      · exact inj_of nd.2 c h c' h' e
theorem gh_of {Y : HU} {L : Lay} {mg : Str → Option Value} (hX : ∀ c ∈ plX, XcC L.K (L.xc 0) (L.xc c)) (hn : ∀ x ∈ Y.nog, mg x = none) (hq : ∀ q ∈ Y.xcl, mg q.2 = some (.ref (L.xc q.1)) ∧ ciB L.K (L.xc q.1)) (nd : (allX.map L.xc).Nodup) (ha : Y.xcl.all (fun q => allX.contains q.1 && q.1 != 0) = true) : GH Y L mg := by
  have inj := inj_of nd
  refine ⟨hn, fun q h => (hq q h).1, fun c h => (hX c h).ex, fun c h q h2 => ?_, fun c h => ?_, fun c h => ?_⟩
  · have hm := List.all_eq_true.mp ha q h2
    simp only [Bool.and_eq_true, List.contains_iff_mem, bne_iff_ne, ne_eq] at hm
    obtain ⟨m1, m2⟩ := hm
    obtain ⟨p1, p2, p3⟩ := plX_all h
    have n100 : q.1 ≠ 100 ∧ q.1 ≠ 101 := by
      simp only [allX, List.mem_cons, List.not_mem_nil, or_false] at m1
      omega
    have es : subX c q.1 = (c == q.1) := by
      unfold subX
      rw [if_neg n100.1, if_neg n100.2, if_neg m2]
    rw [es]
    unfold PySem.W.kitOne
    by_cases e : c = q.1
    · rw [e, if_pos (beq_self_eq_true _), beq_self_eq_true]
    · have a1 : L.xc c ≠ L.xc q.1 := fun z => e (inj _ p1 _ m1 z)
      have a2 : L.xc 0 ≠ L.xc q.1 := fun z => m2 (inj 0 (by decide) _ m1 z).symm
      rw [beq_eq_false_iff_ne.mpr e, if_neg (fun z => a1 (by have := beq_iff_eq.mp z; injection this))]
      unfold PySem.W.kitCls
      dsimp only
      rw [if_pos (hq q h2).2]
      show PySem.W.mroIn L.K (L.xc c) _ = _
      rw [xc_mro (hX c h)]
      simp [a1.symm, a2.symm]
  · obtain ⟨p1, p2, p3⟩ := plX_all h
    have es : subX c 100 = true := by
      unfold subX
      rw [if_pos rfl]
      simpa using p3
    rw [es]
    unfold PySem.W.kitOne
    rw [if_neg (fun z => by have := beq_iff_eq.mp z; cases this)]
    unfold PySem.W.kitCls
    dsimp only
    rw [if_pos (by decide +kernel)]
    show PySem.W.mroIn L.K (L.xc c) _ = _
    rw [xc_mro (hX c h)]
    simp
  · obtain ⟨p1, p2, p3⟩ := plX_all h
    have es : subX c 101 = false := by
      unfold subX
      rw [if_neg (by decide), if_pos rfl]
      simpa using p3
    rw [es]
    unfold PySem.W.kitOne
    rw [if_neg (fun z => by have := beq_iff_eq.mp z; cases this)]
    unfold PySem.W.kitCls
    dsimp only
    rw [if_pos (by decide +kernel)]
    show PySem.W.mroIn L.K (L.xc c) _ = _
    rw [xc_mro (hX c h)]
    simp
theorem exm_of {L : Lay} (hX : ∀ c ∈ plX, XcC L.K (L.xc 0) (L.xc c)) (sb : PySem.W.subIn L.K (.ref (L.xc 0)) (.type "BaseException") = some true) (ci : ciB L.K (L.xc 0)) : ∀ c ∈ plX, PySem.W.exmOne L.K (.ref (L.xc c)) (.ref (L.xc 0)) = some true := fun c h => by
  unfold PySem.W.exmOne
  rw [sb, if_pos (by decide)]
  unfold PySem.W.kitCls
  dsimp only
  rw [if_pos ci]
  show PySem.W.mroIn L.K (L.xc c) _ = _
  rw [xc_mro (hX c h)]
  simp
theorem binds_one {K : PySem.W.Frag} {fd : FuncData} {g : Str} (h : ∀ us : List Value, us.length = 1 → bindArgs fd ⟨us, []⟩ = pure ([g].zip us)) : L2.Binds K fd [g] [] := .all h
/-- a def called with a held exception, as it stands -/
theorem hotAt {Y : HU} {L : Lay} {t : Text} {f : Nat} {fa : Addr} {name qual : Str} {params : Arguments} {body : List Stmt} {scope : Scope} {dV kV doc pm cdv ct oc : Value} {an od : Option Addr} {osl : Array (Option Value)} (N : List Str) (g : Str) (d : FD) (hf : L.fn f = fa)
    (lk : L.K.lookup fa = some ⟨oc, od, .func (PySem.W.fnOf name qual params body scope dV kV doc pm an cdv ct), osl⟩) (hcd : PySem.W.codeIn L.K cdv qual = true) (hd : t.at f = some d) (S : C8.scC N [g] scope = true) (h2 : d.ns = N.length) (hc : hkSs Y N d.body scope body = true) :
    HotAt Y L t f (PySem.W.fnOf name qual params body scope dV kV doc pm an cdv ct) g :=
  ⟨name, qual, params, body, scope, dV, kV, doc, pm, cdv, ct, oc, an, od, osl, N, d, rfl, by rw [hf]; exact lk, hcd, C8.fnScope_by S, hd, h2, hc⟩
end G
/-! B6: rules by which a tree's meaning is worked out, a statement at a time. -/
namespace G
open PySem PySem.Spec L2
section
variable {Γ : Fns} {X : XP} {env : G.Env} {Q : RV → G.Env → Prop} {a b c : E}
/-! ### meanings without witnesses -/
def subW (a b : Option D) (Q : D → Prop) : Prop := ∃ dx dy r, a = some dx ∧ b = some dy ∧ atD dx dy = some r ∧ Q r
def atW (a : Option D) (Q : D → Prop) : Prop := ∃ r, a = some r ∧ Q r
def intW (a : Option D) (Q : Int → Prop) : Prop := ∃ i, a = some (.int i) ∧ Q i
def truR (r : RV) (Q : Bool → Prop) : Prop := ∃ c, truth r.toD = some c ∧ Q c
def dsW (os : List Op) (Q : List D → Prop) : Prop := ∃ ds, datas os = some ds ∧ Q ds
def truW (a : Option D) (Q : Bool → Prop) : Prop := ∃ d b, a = some d ∧ truth d = some b ∧ Q b
def itW (d : D) (Q : List D → Prop) : Prop := ∃ ds, itemsD d = some ds ∧ Q ds
def vsW (a : Option (List EV)) (ls : List Nat) (Q : List EV → Prop) : Prop := ∃ vs, a = some vs ∧ ls.Nodup ∧ Q vs
def tyW (t : Ty) (a : Option D) (Q : Bool → Prop) : Prop := ∃ d, a = some d ∧ tyOk d = true ∧ Q (tyD t d)
def mkW (cl : Nat) (r : RV) (outs : List OV) (Q : List D → List OV → Prop) : Prop := r = .val .non ∧ ∃ ds rest, outs = .ins cl ds :: rest ∧ Q ds rest
def insW (cl : Nat) (a : Option D) (Q : List D → Prop) : Prop := ∃ fs, a = some (.ins cl fs) ∧ Q fs
def fnW (v : Option (Option EV)) (fs : List Nat) (Q : Nat → Prop) : Prop := ∃ f, v = some (some (.val (.fn f))) ∧ f ∈ fs ∧ Q f
def bmK (m : BM) (a : Option D) (Q : Prop) : Prop := ∃ d, a = some d ∧ bmTy m d = true ∧ Q
def fldW (a : Option D) (f : Nat) (Q : D → Prop) : Prop := ∃ c fs k d, a = some (.ins c fs) ∧ posA c f = some k ∧ fs[k]? = some d ∧ Q d
def fstW (a : Option D) (Q : Str → Prop) : Prop := ∃ d s, a = some d ∧ fstD d = some s ∧ Q s
def lmV (v : Option (Option EV)) (Q : List D → (List D → EV) → Prop) : Prop := match v with
  | some (some (.own (.lst xs))) => Q xs fun ys => .own (.lst ys)
  | some (some (.bor (.lst xs))) => Q xs fun ys => .bor (.lst ys)
  | _ => False
theorem lm_v {i : Nat} {R : List D → (List D → G.Env) → Prop} : lmAt env i R = lmV env[i]? fun xs w => R xs fun ys => env.set i (some (w ys)) := by
  unfold lmAt lmV
  cases env[i]? with
  | none => rfl
  | some v => cases v with
    | none => rfl
    | some e => cases e with
      | val d => rfl
      | own o => cases o <;> rfl
      | bor o => cases o <;> rfl
theorem m_var {i : Nat} : wE Γ (.var i) env X Q = (match env[i]? with
    | some (some (.val d)) => Q (.val d) env
    | some (some (.own o)) => Q (.val o.toD) (env.set i (some (.val o.toD)))
    | _ => False) := by rw [wE.eq_def] <;> rfl
theorem m_con {d : D} : wE Γ (.con d) env X Q = Q (.val d) env := by rw [wE.eq_def] <;> rfl
theorem m_bin {op : Operator} : wE Γ (.bin op a b) env X Q = opd a (wE Γ a) env X fun x env1 => opd b (wE Γ b) env1 X fun y env2 => binW op (res env2 x) (res env2 y) fun r => Q r env2 := by rw [wE.eq_def] <;> rfl
theorem m_neg : wE Γ (.neg a) env X Q = opd a (wE Γ a) env X fun x env1 => intW (res env1 x) fun i => Q (.val (.int (-i))) env1 := by rw [wE.eq_def] <;> rfl
theorem m_cmp {op : CmpOp} : wE Γ (.cmp op a b) env X Q = opd a (wE Γ a) env X fun x env1 => opd b (wE Γ b) env1 X fun y env2 => cmpW op (res env2 x) (res env2 y) fun r => Q (.val (.bl r)) env2 := by rw [wE.eq_def] <;> rfl
theorem m_chn {o1 o2 : CmpOp} : wE Γ (.chn o1 o2 a b c) env X Q = opd a (wE Γ a) env X fun x env1 => opd b (wE Γ b) env1 X fun y env2 => cmpW o1 (res env2 x) (res env2 y) fun r =>
      if r = true then opd c (wE Γ c) env2 X fun z env3 => cmpW o2 (res env3 y) (res env3 z) fun r' => Q (.val (.bl r')) env3 else Q (.val (.bl false)) env2 := by rw [wE.eq_def] <;> rfl
theorem m_and : wE Γ (.and a b) env X Q = wE Γ a env X fun r env1 => truR r fun c => if c = true then wE Γ b env1 X Q else Q r env1 := by rw [wE.eq_def] <;> rfl
theorem m_or : wE Γ (.or a b) env X Q = wE Γ a env X fun r env1 => truR r fun c => if c = true then Q r env1 else wE Γ b env1 X Q := by rw [wE.eq_def] <;> rfl
theorem m_not : wE Γ (.not a) env X Q = opd a (wE Γ a) env X fun o env1 => truW (res env1 o) fun c => Q (.val (.bl (!c))) env1 := by rw [wE.eq_def] <;> rfl
theorem m_ite {t : T} : wE Γ (.ite t a b) env X Q = wT Γ t env X fun k env1 => if k = true then wE Γ a env1 X Q else wE Γ b env1 X Q := by rw [wE.eq_def] <;> rfl
theorem m_tup {es : List E} : wE Γ (.tup es) env X Q = wOs Γ es env X fun os env1 => dsW os fun ds => Q (.val (.tup ds)) env1 := by rw [wE.eq_def] <;> rfl
theorem m_lst {es : List E} : wE Γ (.lst es) env X Q = wOs Γ es env X fun os env1 => dsW os fun ds => Q (.fr (.lst ds)) env1 := by rw [wE.eq_def] <;> rfl
theorem m_sub : wE Γ (.sub a b) env X Q = opd a (wE Γ a) env X fun x env1 => opd b (wE Γ b) env1 X fun y env2 => subW (res env2 x) (res env2 y) fun r => Q (.val r) env2 := by rw [wE.eq_def] <;> rfl
theorem m_slc {lo hi : O} : wE Γ (.slc a lo hi) env X Q = opd a (wE Γ a) env X fun x env1 => wO Γ lo env1 X fun l env2 => wO Γ hi env2 X fun h env3 => slcW (res env3 x) l h fun r => Q r env3 := by rw [wE.eq_def] <;> rfl
theorem m_rev : wE Γ (.rev a) env X Q = opd a (wE Γ a) env X fun x env1 => revW (res env1 x) fun r => Q r env1 := by rw [wE.eq_def] <;> rfl
theorem m_no {R : Option Int → G.Env → Prop} : wO Γ .no env X R = R none env := by rw [wO.eq_def] <;> rfl
theorem m_at {e : E} {R : Option Int → G.Env → Prop} : wO Γ (.at e) env X R = opd e (wE Γ e) env X fun x env1 => intW (res env1 x) fun i => R (some i) env1 := by rw [wO.eq_def] <;> rfl
theorem m_call {f : Nat} {as : List E} {src : List (Sum Nat D)} : wE Γ (.call f as src) env X Q = wOs Γ as env X fun os env1 => vsW (bindS (os.map (handed env1)) src) (lent env1 os src) fun vs =>
      Γ.f f vs (fun r outs => Q r (back env1 (lent env1 os src) outs)) (fun x outs => X x (back env1 (lent env1 os src) outs)) := by rw [wE.eq_def] <;> rfl
theorem m_make {cl f : Nat} {as : List E} {src : List (Sum Nat D)} : wE Γ (.make cl f as src) env X Q = wOs Γ as env X fun os env1 => vsW (bindS (os.map (handed env1)) src) (lent env1 os src) fun vs =>
      Γ.f f (.bor (.ins cl []) :: vs) (fun r outs => mkW cl r outs fun ds rest => Q (.fr (.ins cl ds)) (back env1 (lent env1 os src) rest)) (fun x outs => X x (back env1 (lent env1 os src) outs.tail)) := by rw [wE.eq_def] <;> rfl
theorem m_meth {cl f : Nat} {as : List E} {src : List (Sum Nat D)} : wE Γ (.meth cl f a as src) env X Q = opd a (wE Γ a) env X fun o env0 => insW cl (res env0 o) fun _ => wOs Γ as env0 X fun os env1 => vsW (bindS ((o :: os).map (handed env1)) src) (lent env1 (o :: os) src) fun vs =>
      Γ.f f vs (fun r outs => Q r (back env1 (lent env1 (o :: os) src) outs)) (fun x outs => X x (back env1 (lent env1 (o :: os) src) outs)) := by rw [wE.eq_def] <;> rfl
theorem m_cv {i : Nat} {fs : List Nat} {as : List E} : wE Γ (.cv i fs as) env X Q = fnW env[i]? fs fun f => wOs Γ as env X fun os env1 => vsW (bindS (os.map (handed env1)) (idSrc as.length)) (lent env1 os (idSrc as.length)) fun vs =>
      Γ.f f vs (fun r outs => Q r (back env1 (lent env1 os (idSrc as.length)) outs)) (fun x outs => X x (back env1 (lent env1 os (idSrc as.length)) outs)) := by rw [wE.eq_def] <;> rfl
theorem m_bm {m : BM} {as : List E} : wE Γ (.bm m a as) env X Q = opd a (wE Γ a) env X fun o env0 => bmK m (res env0 o) (wOs Γ as env0 X fun os env1 => bmW m ((o :: os).map (res env1)) fun r => Q r env1) := by rw [wE.eq_def] <;> rfl
theorem m_dsp {ks : List Key} {ds : List D} : wE Γ (.dsp ks ds) env X Q = Q (.val (.dct false ks ds)) env := by rw [wE.eq_def] <;> rfl
theorem m_fst {as : List E} : wE Γ (.fst as) env X Q = wF Γ as Str.empty env X fun s env1 => Q (.val (.str s)) env1 := by rw [wE.eq_def] <;> rfl
theorem m_f0 {acc : Str} {R : Str → G.Env → Prop} : wF Γ [] acc env X R = R acc env := by rw [wF.eq_def] <;> rfl
theorem m_f1 {e : E} {es : List E} {acc : Str} {R : Str → G.Env → Prop} : wF Γ (e :: es) acc env X R = opd e (wE Γ e) env X fun o env1 => fstW (res env1 o) fun s => (acc ++ s).length ≤ line ∧ wF Γ es (acc ++ s) env1 X R := by rw [wF.eq_def] <;> rfl
theorem m_bi {f : BI} {as : List E} : wE Γ (.bi f as) env X Q = wOs Γ as env X fun os env1 => biW f (os.map (res env1)) fun r => Q r env1 := by rw [wE.eq_def] <;> rfl
theorem m_srk {kf : KF} : wE Γ (.srk kf a) env X Q = opd a (wE Γ a) env X fun x env1 => srkW kf (fun i => res env1 (.slot i)) (res env1 x) fun r => Q r env1 := by rw [wE.eq_def] <;> rfl
theorem m_xb {k : XBK} {as : List E} : wE Γ (.xb k as) env X Q = wOs Γ as env X fun os env1 => xbW k (os.map (res env1)) fun r => Q r env1 := by rw [wE.eq_def] <;> rfl
theorem m_own {neg : Bool} {c f : Nat} : wE Γ (.own neg c f a b) env X Q = opd a (wE Γ a) env X fun x env1 => opd b (wE Γ b) env1 X fun y env2 => ownW Γ neg c f X (fun r env3 => Q (.val (.bl r)) env3) x y env2 := by rw [wE.eq_def] <;> rfl
theorem m_spc {sk : SP} {c f : Nat} : wE Γ (.spc sk c f a) env X Q = opd a (wE Γ a) env X fun o env1 => spcW Γ sk c f X Q o env1 := by rw [wE.eq_def] <;> rfl
theorem m_said {v : Bool} {f : Nat} : wE Γ (.hot (.said v f) a) env X Q = wE Γ a (lendE env) (fun x env' => (2 ≤ x.c ∧ x.c ≤ 17 ∧ x.fs = []) ∧ ∀ ad, Γ.h f ad x fun r => Q r (back env (ownsE 0 env) (bors env'))) fun r env' => Q (toldR v r) (back env (ownsE 0 env) (bors env')) := by rw [wE.eq_def] <;> rfl
theorem m_nst {c f : Nat} : wE Γ (.hot (.nst c f) a) env X Q = opd a (wE Γ a) env X fun o env1 => nstW Γ c f X (res env1 o) (fun r => Q r env1) env1 := by rw [wE.eq_def] <;> rfl
theorem m_isx {k : Nat} : wE Γ (.hot (.isx k) a) env X Q = opd a (wE Γ a) env X fun o env1 => ∃ ad x, res env1 o = some (.exn ad) ∧ Γ.hx = some (ad, x) ∧ Q (.val (.bl (subX x.c k))) env1 := by rw [wE.eq_def] <;> rfl
theorem m_xf {c k : Nat} : wE Γ (.hot (.xf c k) a) env X Q = opd a (wE Γ a) env X fun o env1 => ∃ ad x d, res env1 o = some (.exn ad) ∧ Γ.hx = some (ad, x) ∧ x.c = c ∧ x.fs[k]? = some d ∧ Q (.val d) env1 := by rw [wE.eq_def] <;> rfl
theorem m_hc {f : Nat} : wE Γ (.hot (.hc f) a) env X Q = opd a (wE Γ a) env X fun o env1 => ∃ ad x, res env1 o = some (.exn ad) ∧ Γ.hx = some (ad, x) ∧ Γ.h f ad x fun r => Q r env1 := by rw [wE.eq_def] <;> rfl
theorem m_town {neg : Bool} {c f : Nat} {R : Bool → G.Env → Prop} : wT Γ (.own neg c f a b) env X R = opd a (wE Γ a) env X fun x env1 => opd b (wE Γ b) env1 X fun y env2 => ownW Γ neg c f X R x y env2 := by rw [wT.eq_def] <;> rfl
theorem m_isi {t : Ty} : wE Γ (.isi a t) env X Q = opd a (wE Γ a) env X fun x env1 => tyW t (res env1 x) fun b => Q (.val (.bl b)) env1 := by rw [wE.eq_def] <;> rfl
theorem m_fld {f : Nat} : wE Γ (.fld a f) env X Q = opd a (wE Γ a) env X fun x env1 => fldW (res env1 x) f fun d => Q (.val d) env1 := by rw [wE.eq_def] <;> rfl
theorem m_lm {m : LM} {i : Nat} {as : List E} : wE Γ (.lm m i as) env X Q = (lmV env[i]? (fun _ _ => True) ∧ wOs Γ as env X fun os env1 => dsW os fun ds => lmV env1[i]? fun xs w => lmW m xs (ds.map some) fun d ys => Q (.val d) (env1.set i (some (w ys)))) := by
  rw [wE.eq_def]
  dsimp only
  simp only [lm_v]
  rfl
theorem m_lc {elt : E} {t : Tg} {it : I} {cond : T} {own : List Nat} : wE Γ (.lc elt t it cond own) env X Q = wI Γ it env X fun ds env1 => noOwn env1 own = true ∧
      lcW (fun d env2 R => asg t d env2 fun env3 => wT Γ cond env3 (fun _ _ => False) fun b env4 =>
          if b = true then wE Γ elt env4 (fun _ _ => False) fun r env5 => R (some r.toD) (wipeE env5 own) else R none (wipeE env4 own))
        (fun acc env6 => Q (.fr (.lst acc)) (unwipe env1 env6 own)) ds [] (wipeE env1 own) := by rw [wE.eq_def] <;> rfl
theorem m_os0 {R : PostOs} : wOs Γ [] env X R = R [] env := by rw [wOs.eq_def] <;> rfl
theorem m_os1 {e : E} {es : List E} {R : PostOs} : wOs Γ (e :: es) env X R = opd e (wE Γ e) env X fun o env1 => wOs Γ es env1 X fun os env2 => R (o :: os) env2 := by rw [wOs.eq_def] <;> rfl
theorem m_it {e : E} {R : List D → G.Env → Prop} : wI Γ (.it e) env X R = wE Γ e env X fun r env1 => itW r.toD fun ds => R ds env1 := by rw [wI.eq_def] <;> rfl
theorem m_rng {es : List E} {R : List D → G.Env → Prop} : wI Γ (.rng es) env X R = wOs Γ es env X fun os env1 => rngW (os.map (res env1)) fun ds => R ds env1 := by rw [wI.eq_def] <;> rfl
theorem m_enm {es : List E} {R : List D → G.Env → Prop} : wI Γ (.enm es) env X R = wOs Γ es env X fun os env1 => enmW (datas os) fun ds => ds.length ≤ line ∧ R ds env1 := by rw [wI.eq_def] <;> rfl
theorem m_zip {es : List E} {R : List D → G.Env → Prop} : wI Γ (.zip es) env X R = wOs Γ es env X fun os env1 => zipW (datas os) fun ds => ds.length ≤ line ∧ R ds env1 := by rw [wI.eq_def] <;> rfl
theorem m_rvd {es : List E} {R : List D → G.Env → Prop} : wI Γ (.rvd es) env X R = wOs Γ es env X fun os env1 => rvdW (datas os) fun ds => ds.length ≤ line ∧ R ds env1 := by rw [wI.eq_def] <;> rfl
theorem m_yes {R : Bool → G.Env → Prop} : wT Γ .yes env X R = R true env := by rw [wT.eq_def] <;> rfl
theorem m_tv {e : E} {R : Bool → G.Env → Prop} : wT Γ (.tv e) env X R = opd e (wE Γ e) env X fun o env1 => truW (res env1 o) fun b => R b env1 := by rw [wT.eq_def] <;> rfl
theorem m_tand {s t : T} {R : Bool → G.Env → Prop} : wT Γ (.and s t) env X R = wT Γ s env X fun c env1 => if c = true then wT Γ t env1 X R else R false env1 := by rw [wT.eq_def] <;> rfl
theorem m_tor {s t : T} {R : Bool → G.Env → Prop} : wT Γ (.or s t) env X R = wT Γ s env X fun c env1 => if c = true then R true env1 else wT Γ t env1 X R := by rw [wT.eq_def] <;> rfl
theorem m_tnot {s : T} {R : Bool → G.Env → Prop} : wT Γ (.not s) env X R = wT Γ s env X fun c env1 => R (!c) env1 := by rw [wT.eq_def] <;> rfl
theorem m_tcmp {op : CmpOp} {R : Bool → G.Env → Prop} : wT Γ (.cmp op a b) env X R = opd a (wE Γ a) env X fun x env1 => opd b (wE Γ b) env1 X fun y env2 => cmpW op (res env2 x) (res env2 y) fun r => R r env2 := by rw [wT.eq_def] <;> rfl
theorem m_tchn {o1 o2 : CmpOp} {R : Bool → G.Env → Prop} : wT Γ (.chn o1 o2 a b c) env X R = opd a (wE Γ a) env X fun x env1 => opd b (wE Γ b) env1 X fun y env2 => cmpW o1 (res env2 x) (res env2 y) fun r =>
      if r = true then opd c (wE Γ c) env2 X fun z env3 => cmpW o2 (res env3 y) (res env3 z) fun r' => R r' env3 else R false env2 := by rw [wT.eq_def] <;> rfl
/-! operands -/
theorem p_ref {i : Nat} {w : G.Env → XP → PostE → Prop} {R : PostO} {v : Option EV} {xs : G.Env} : opd (.ref i) w (v :: xs) X R = (match (v :: xs)[i]? with
    | some (some _) => R (.slot i) (v :: xs)
    | _ => False) := (rfl)
variable {w : G.Env → XP → PostE → Prop} {R : PostO}
theorem p_var {i : Nat} : opd (.var i) w env X R = w env X fun r env' => R (.d r.toD) env' := (rfl)
theorem p_con {d : D} : opd (.con d) w env X R = w env X fun r env' => R (.d r.toD) env' := (rfl)
theorem p_bin {op : Operator} : opd (.bin op a b) w env X R = w env X fun r env' => R (.d r.toD) env' := (rfl)
theorem p_neg  : opd (.neg a) w env X R = w env X fun r env' => R (.d r.toD) env' := (rfl)
theorem p_cmp {op : CmpOp} : opd (.cmp op a b) w env X R = w env X fun r env' => R (.d r.toD) env' := (rfl)
theorem p_chn {o1 o2 : CmpOp} : opd (.chn o1 o2 a b c) w env X R = w env X fun r env' => R (.d r.toD) env' := (rfl)
theorem p_and  : opd (.and a b) w env X R = w env X fun r env' => R (.d r.toD) env' := (rfl)
theorem p_or  : opd (.or a b) w env X R = w env X fun r env' => R (.d r.toD) env' := (rfl)
theorem p_not  : opd (.not a) w env X R = w env X fun r env' => R (.d r.toD) env' := (rfl)
theorem p_ite {t : T} : opd (.ite t a b) w env X R = w env X fun r env' => R (.d r.toD) env' := (rfl)
theorem p_tup {es : List E} : opd (.tup es) w env X R = w env X fun r env' => R (.d r.toD) env' := (rfl)
theorem p_lst {es : List E} : opd (.lst es) w env X R = w env X fun r env' => R (.d r.toD) env' := (rfl)
theorem p_sub  : opd (.sub a b) w env X R = w env X fun r env' => R (.d r.toD) env' := (rfl)
theorem p_slc {lo hi : O} : opd (.slc a lo hi) w env X R = w env X fun r env' => R (.d r.toD) env' := (rfl)
theorem p_rev  : opd (.rev a) w env X R = w env X fun r env' => R (.d r.toD) env' := (rfl)
theorem p_call {f : Nat} {as : List E} {src : List (Sum Nat D)} : opd (.call f as src) w env X R = w env X fun r env' => R (.d r.toD) env' := (rfl)
theorem p_make {cl f : Nat} {as : List E} {src : List (Sum Nat D)} : opd (.make cl f as src) w env X R = w env X fun r env' => R (.d r.toD) env' := (rfl)
theorem p_meth {cl f : Nat} {as : List E} {src : List (Sum Nat D)} : opd (.meth cl f a as src) w env X R = w env X fun r env' => R (.d r.toD) env' := (rfl)
theorem p_cv {i : Nat} {fs : List Nat} {as : List E} : opd (.cv i fs as) w env X R = w env X fun r env' => R (.d r.toD) env' := (rfl)
theorem p_bm {m : BM} {as : List E} : opd (.bm m a as) w env X R = w env X fun r env' => R (.d r.toD) env' := (rfl)
theorem p_dsp {ks : List Key} {ds : List D} : opd (.dsp ks ds) w env X R = w env X fun r env' => R (.d r.toD) env' := (rfl)
theorem p_fst {as : List E} : opd (.fst as) w env X R = w env X fun r env' => R (.d r.toD) env' := (rfl)
theorem p_bi {f : BI} {as : List E} : opd (.bi f as) w env X R = w env X fun r env' => R (.d r.toD) env' := (rfl)
theorem p_xb {k : XBK} {es : List E} : opd (.xb k es) w env X R = w env X fun r env' => R (.d r.toD) env' := (rfl)
theorem p_own {neg : Bool} {c f : Nat} : opd (.own neg c f a b) w env X R = w env X fun r env' => R (.d r.toD) env' := (rfl)
theorem p_spc {sk : SP} {c f : Nat} {a : E} : opd (.spc sk c f a) w env X R = w env X fun r env' => R (.d r.toD) env' := (rfl)
theorem p_hot {hk : HK} {a : E} : opd (.hot hk a) w env X R = w env X fun r env' => R (.d r.toD) env' := (rfl)
theorem p_srk {kf : KF} : opd (.srk kf a) w env X R = w env X fun r env' => R (.d r.toD) env' := (rfl)
theorem p_isi {t : Ty} : opd (.isi a t) w env X R = w env X fun r env' => R (.d r.toD) env' := (rfl)
theorem p_fld {f : Nat} : opd (.fld a f) w env X R = w env X fun r env' => R (.d r.toD) env' := (rfl)
theorem p_lm {m : LM} {i : Nat} {as : List E} : opd (.lm m i as) w env X R = w env X fun r env' => R (.d r.toD) env' := (rfl)
theorem p_lc {t : Tg} {it : I} {cond : T} {own : List Nat} : opd (.lc a t it cond own) w env X R = w env X fun r env' => R (.d r.toD) env' := (rfl)
end
/-! values -/
section
variable {Q : RV → Prop} {B : Bool → Prop} {i j : Int} {x y : Str}
theorem v_add : binW .Add (some (.int i)) (some (.int j)) Q = Q (.val (.int (i + j))) := (rfl)
theorem v_sub : binW .Sub (some (.int i)) (some (.int j)) Q = Q (.val (.int (i - j))) := (rfl)
theorem v_mul : binW .Mult (some (.int i)) (some (.int j)) Q = (L2.CMulW i j ∧ Q (.val (.int (i * j)))) := (rfl)
theorem v_div : binW .FloorDiv (some (.int i)) (some (.int j)) Q = (L2.CDivW i j ∧ Q (.val (.int (i / j)))) := (rfl)
theorem v_mod : binW .Mod (some (.int i)) (some (.int j)) Q = (0 < j ∧ Q (.val (.int (i % j)))) := (rfl)
theorem v_pow : binW .Pow (some (.int i)) (some (.int j)) Q = (L2.CPow i j ∧ Q (.val (.int (i ^ j.toNat)))) := (rfl)
theorem v_adds : binW .Add (some (.str x)) (some (.str y)) Q = (x.length + y.length ≤ line ∧ Q (.val (.str (x ++ y)))) := (rfl)
theorem v_addl {xs ys : List D} : binW .Add (some (.lst xs)) (some (.lst ys)) Q = (xs.length + ys.length ≤ line ∧ Q (.fr (.lst (xs ++ ys)))) := (rfl)
theorem v_addt {xs ys : List D} : binW .Add (some (.tup xs)) (some (.tup ys)) Q = (xs.length + ys.length ≤ line ∧ Q (.val (.tup (xs ++ ys)))) := (rfl)
theorem v_plt {i j k l : Int} : cmpW .Lt (some (.tup [.int i, .int j])) (some (.tup [.int k, .int l])) B = B (ordP .Lt i j k l) := (rfl)
theorem v_plte {i j k l : Int} : cmpW .LtE (some (.tup [.int i, .int j])) (some (.tup [.int k, .int l])) B = B (ordP .LtE i j k l) := (rfl)
theorem v_pgt {i j k l : Int} : cmpW .Gt (some (.tup [.int i, .int j])) (some (.tup [.int k, .int l])) B = B (ordP .Gt i j k l) := (rfl)
theorem v_pgte {i j k l : Int} : cmpW .GtE (some (.tup [.int i, .int j])) (some (.tup [.int k, .int l])) B = B (ordP .GtE i j k l) := (rfl)
theorem v_isb {x y : Bool} : cmpW .Is (some (.bl x)) (some (.bl y)) B = B (decide (x = y)) := (rfl)
theorem v_notb {x y : Bool} : cmpW .IsNot (some (.bl x)) (some (.bl y)) B = B (!decide (x = y)) := (rfl)
theorem v_lt : cmpW .Lt (some (.int i)) (some (.int j)) B = B (decide (i < j)) := (rfl)
theorem v_le : cmpW .LtE (some (.int i)) (some (.int j)) B = B (decide (i ≤ j)) := (rfl)
theorem v_gt : cmpW .Gt (some (.int i)) (some (.int j)) B = B (decide (j < i)) := (rfl)
theorem v_ge : cmpW .GtE (some (.int i)) (some (.int j)) B = B (decide (j ≤ i)) := (rfl)
theorem v_eq : cmpW .Eq (some (.int i)) (some (.int j)) B = B (decide (i = j)) := (rfl)
theorem v_ne : cmpW .NotEq (some (.int i)) (some (.int j)) B = B (!decide (i = j)) := (rfl)
theorem v_eqs : cmpW .Eq (some (.str x)) (some (.str y)) B = B (decide (x = y)) := (rfl)
theorem v_nes : cmpW .NotEq (some (.str x)) (some (.str y)) B = B (!decide (x = y)) := (rfl)
theorem v_tup0 {xs : List D} : cmpW .Eq (some (.tup xs)) (some (.tup [])) B = B xs.isEmpty := (rfl)
theorem v_tup0n {xs : List D} : cmpW .NotEq (some (.tup xs)) (some (.tup [])) B = B (!xs.isEmpty) := (rfl)
theorem v_lst0 {xs : List D} : cmpW .Eq (some (.lst xs)) (some (.lst [])) B = B xs.isEmpty := (rfl)
theorem v_lst0n {xs : List D} : cmpW .NotEq (some (.lst xs)) (some (.lst [])) B = B (!xs.isEmpty) := (rfl)
theorem eqE_t {xs : List D} : eqD (.tup xs) (.tup []) = xs.isEmpty := by cases xs <;> rfl
theorem eqE_l {xs : List D} : eqD (.lst xs) (.lst []) = xs.isEmpty := by cases xs <;> rfl
theorem eq_gen {x y : D} (hx : okPy x) (hy : okPy y) (h : B (eqD x y)) : cmpW .Eq (some x) (some y) B := by
  unfold cmpW
  split <;> first
    | contradiction
    | (rename_i h1 h2; cases h1; cases h2; first | exact h | (rw [eqE_t] at h; exact h) | (rw [eqE_l] at h; exact h) | exact ⟨hx, hy, h⟩)
    | (rename_i q _; exact q _ _ rfl rfl rfl)
theorem ne_gen {x y : D} (hx : okPy x) (hy : okPy y) (h : B (!eqD x y)) : cmpW .NotEq (some x) (some y) B := by
  unfold cmpW
  split <;> first
    | contradiction
    | (rename_i h1 h2; cases h1; cases h2; first | exact h | (rw [eqE_t] at h; exact h) | (rw [eqE_l] at h; exact h) | exact ⟨hx, hy, h⟩)
    | (rename_i q; exact q _ _ rfl rfl rfl)
theorem v_is {d : D} : cmpW .Is (some d) (some .non) B = B (isNon d) := by cases d <;> rfl
theorem v_isn {d : D} : cmpW .IsNot (some d) (some .non) B = B (!isNon d) := by cases d <;> rfl
theorem v_int {Z : Int → Prop} : intW (some (.int i)) Z = Z i := propext ⟨fun ⟨k, e, h⟩ => by cases e; exact h, fun h => ⟨i, rfl, h⟩⟩
theorem v_bl {c : Bool} {Z : Bool → Prop} : truR (.val (.bl c)) Z = Z c := propext ⟨fun ⟨k, e, h⟩ => by cases e; exact h, fun h => ⟨c, rfl, h⟩⟩
theorem v_ri {i : Int} {Z : Bool → Prop} : truR (.val (.int i)) Z = Z (i != 0) := propext ⟨fun ⟨k, e, h⟩ => by cases e; exact h, fun h => ⟨_, rfl, h⟩⟩
theorem v_rs {s : Str} {Z : Bool → Prop} : truR (.val (.str s)) Z = Z (s.length != 0) := propext ⟨fun ⟨k, e, h⟩ => by cases e; exact h, fun h => ⟨_, rfl, h⟩⟩
theorem v_rt {xs : List D} {Z : Bool → Prop} : truR (.val (.tup xs)) Z = Z (!xs.isEmpty) := propext ⟨fun ⟨k, e, h⟩ => by cases e; exact h, fun h => ⟨_, rfl, h⟩⟩
theorem v_rl {xs : List D} {Z : Bool → Prop} : truR (.fr (.lst xs)) Z = Z (!xs.isEmpty) := propext ⟨fun ⟨k, e, h⟩ => by cases e; exact h, fun h => ⟨_, rfl, h⟩⟩
theorem v_rn {Z : Bool → Prop} : truR (.val .non) Z = Z false := propext ⟨fun ⟨k, e, h⟩ => by cases e; exact h, fun h => ⟨_, rfl, h⟩⟩
theorem v_mk {cl : Nat} {ds : List D} {rest : List OV} {Z : List D → List OV → Prop} : mkW cl (.val .non) (.ins cl ds :: rest) Z = Z ds rest := propext ⟨fun ⟨_, a, b, e, h⟩ => by cases e; exact h, fun h => ⟨rfl, _, _, rfl, h⟩⟩
theorem v_ins {cl : Nat} {fs : List D} {Z : List D → Prop} : insW cl (some (.ins cl fs)) Z = Z fs := propext ⟨fun ⟨_, e, h⟩ => by cases e; exact h, fun h => ⟨_, rfl, h⟩⟩
theorem v_fn {f : Nat} {fs : List Nat} {Z : Nat → Prop} : fnW (some (some (.val (.fn f)))) fs Z = (f ∈ fs ∧ Z f) := propext ⟨fun ⟨_, e, h⟩ => by cases e; exact h, fun h => ⟨_, rfl, h⟩⟩
theorem v_bm {m : BM} {d : D} {Z : Prop} (h : bmTy m d = true) : bmK m (some d) Z = Z := propext ⟨fun ⟨_, e, _, h⟩ => by cases e; exact h, fun q => ⟨_, rfl, h, q⟩⟩
theorem v_bmj {s : Str} {Z : Prop} : bmK .join (some (.str s)) Z = Z := v_bm rfl
theorem v_bms {s : Str} {Z : Prop} : bmK .split (some (.str s)) Z = Z := v_bm rfl
theorem v_bmp {s : Str} {Z : Prop} : bmK .part (some (.str s)) Z = Z := v_bm rfl
theorem v_bmu {s : Str} {Z : Prop} : bmK .upper (some (.str s)) Z = Z := v_bm rfl
theorem v_fld {c f k : Nat} {fs : List D} {Z : D → Prop} (h : posA c f = some k) : fldW (some (.ins c fs)) f Z = atW fs[k]? Z := propext ⟨fun ⟨_, _, _, d, e, e1, e2, q⟩ => by cases e; rw [h] at e1; cases e1; exact ⟨d, e2, q⟩, fun ⟨d, e, q⟩ => ⟨_, _, _, d, rfl, h, e, q⟩⟩
section
variable {x0 x1 x2 x3 : D} {xr : List D} {Z : D → Prop}
theorem f0_0 : fldW (some (.ins 0 (x0 :: xr))) 0 Z = Z x0 := (v_fld (k := 0) rfl).trans (propext ⟨fun ⟨_, e, q⟩ => by cases e; exact q, fun q => ⟨_, rfl, q⟩⟩)
theorem f0_1 : fldW (some (.ins 0 (x0 :: x1 :: xr))) 1 Z = Z x1 := (v_fld (k := 1) rfl).trans (propext ⟨fun ⟨_, e, q⟩ => by cases e; exact q, fun q => ⟨_, rfl, q⟩⟩)
theorem f0_2 : fldW (some (.ins 0 (x0 :: x1 :: x2 :: xr))) 2 Z = Z x2 := (v_fld (k := 2) rfl).trans (propext ⟨fun ⟨_, e, q⟩ => by cases e; exact q, fun q => ⟨_, rfl, q⟩⟩)
theorem f1_3 : fldW (some (.ins 1 (x0 :: xr))) 3 Z = Z x0 := (v_fld (k := 0) rfl).trans (propext ⟨fun ⟨_, e, q⟩ => by cases e; exact q, fun q => ⟨_, rfl, q⟩⟩)
theorem f1_4 : fldW (some (.ins 1 (x0 :: x1 :: xr))) 4 Z = Z x1 := (v_fld (k := 1) rfl).trans (propext ⟨fun ⟨_, e, q⟩ => by cases e; exact q, fun q => ⟨_, rfl, q⟩⟩)
theorem f2_5 : fldW (some (.ins 2 (x0 :: xr))) 5 Z = Z x0 := (v_fld (k := 0) rfl).trans (propext ⟨fun ⟨_, e, q⟩ => by cases e; exact q, fun q => ⟨_, rfl, q⟩⟩)
theorem f2_6 : fldW (some (.ins 2 (x0 :: x1 :: xr))) 6 Z = Z x1 := (v_fld (k := 1) rfl).trans (propext ⟨fun ⟨_, e, q⟩ => by cases e; exact q, fun q => ⟨_, rfl, q⟩⟩)
theorem f2_7 : fldW (some (.ins 2 (x0 :: x1 :: x2 :: xr))) 7 Z = Z x2 := (v_fld (k := 2) rfl).trans (propext ⟨fun ⟨_, e, q⟩ => by cases e; exact q, fun q => ⟨_, rfl, q⟩⟩)
theorem f2_0 : fldW (some (.ins 2 (x0 :: x1 :: x2 :: x3 :: xr))) 0 Z = Z x3 := (v_fld (k := 3) rfl).trans (propext ⟨fun ⟨_, e, q⟩ => by cases e; exact q, fun q => ⟨_, rfl, q⟩⟩)
theorem f3_5 : fldW (some (.ins 3 (x0 :: xr))) 5 Z = Z x0 := (v_fld (k := 0) rfl).trans (propext ⟨fun ⟨_, e, q⟩ => by cases e; exact q, fun q => ⟨_, rfl, q⟩⟩)
theorem f3_8 : fldW (some (.ins 3 (x0 :: x1 :: xr))) 8 Z = Z x1 := (v_fld (k := 1) rfl).trans (propext ⟨fun ⟨_, e, q⟩ => by cases e; exact q, fun q => ⟨_, rfl, q⟩⟩)
theorem f3_9 : fldW (some (.ins 3 (x0 :: x1 :: x2 :: xr))) 9 Z = Z x2 := (v_fld (k := 2) rfl).trans (propext ⟨fun ⟨_, e, q⟩ => by cases e; exact q, fun q => ⟨_, rfl, q⟩⟩)
end
theorem v_fsts {s : Str} {Z : Str → Prop} : fstW (some (.str s)) Z = Z s := propext ⟨fun ⟨_, _, e, e2, h⟩ => by cases e; cases e2; exact h, fun h => ⟨_, _, rfl, rfl, h⟩⟩
theorem v_fsti {i : Int} {Z : Str → Prop} (hi : i.natAbs.log2 < 1920) (h : Z (toString i)) : fstW (some (.int i)) Z := ⟨_, _, rfl, by simp only [fstD, hi, if_true], h⟩
theorem v_lmo {xs : List D} {Z : List D → (List D → EV) → Prop} : lmV (some (some (.own (.lst xs)))) Z = Z xs fun ys => .own (.lst ys) := (rfl)
theorem v_lmb {xs : List D} {Z : List D → (List D → EV) → Prop} : lmV (some (some (.bor (.lst xs)))) Z = Z xs fun ys => .bor (.lst ys) := (rfl)
section
variable {xs : List D} {d : D} {Z : D → List D → Prop}
theorem v_app : lmW .append xs [some d] Z = (xs.length < line ∧ Z .non (xs ++ [d])) := (rfl)
theorem v_insr {i : Int} : lmW .insert xs [some (.int i), some d] Z = ((0 ≤ i ∧ i ≤ 1000000 ∧ xs.length < line) ∧ Z .non (xs.take i.toNat ++ [d] ++ xs.drop i.toNat)) := (rfl)
theorem v_ext {ys : List D} : lmW .extend xs [some (.lst ys)] Z = (xs.length + ys.length ≤ line ∧ Z .non (xs ++ ys)) := (rfl)
theorem v_pop : lmW .pop xs [] Z = ∃ d, xs[xs.length - 1]? = some d ∧ Z d xs.dropLast := (rfl)
theorem v_popA {i : Int} : lmW .popAt xs [some (.int i)] Z = ((-1000000 ≤ i ∧ i ≤ 1000000) ∧ ∃ k d, L2.ixN xs.length i = some k ∧ xs[k]? = some d ∧ Z d (xs.eraseIdx k)) := (rfl)
end
theorem v_subl {xs : List D} {Z : D → Prop} : subW (some (.lst xs)) (some (.int i)) Z = atW (L2.atI xs i) Z := propext ⟨fun ⟨_, _, r, e1, e2, e3, h⟩ => by cases e1; cases e2; exact ⟨r, e3, h⟩, fun ⟨r, e, h⟩ => ⟨_, _, r, rfl, rfl, e, h⟩⟩
theorem v_subt {xs : List D} {Z : D → Prop} : subW (some (.tup xs)) (some (.int i)) Z = atW (L2.atI xs i) Z := propext ⟨fun ⟨_, _, r, e1, e2, e3, h⟩ => by cases e1; cases e2; exact ⟨r, e3, h⟩, fun ⟨r, e, h⟩ => ⟨_, _, r, rfl, rfl, e, h⟩⟩
theorem v_subs {xs : List Int} {Z : D → Prop} : subW (some (.scr xs)) (some (.int i)) Z = atW ((L2.atI xs i).map .int) Z := propext ⟨fun ⟨_, _, r, e1, e2, e3, h⟩ => by cases e1; cases e2; exact ⟨r, e3, h⟩, fun ⟨r, e, h⟩ => ⟨_, _, r, rfl, rfl, e, h⟩⟩
theorem v_at {d : D} {Z : D → Prop} : atW (some d) Z = Z d := propext ⟨fun ⟨k, e, h⟩ => by cases e; exact h, fun h => ⟨d, rfl, h⟩⟩
theorem at_nat {xs : List D} {k : Nat} {x : D} (h : xs[k]? = some x) : L2.atI xs (k : Int) = some x := by
  have hk := (List.getElem?_eq_some_iff.mp h).1
  unfold L2.atI L2.ixN
  rw [if_pos (by omega : (0 : Int) ≤ (k : Int)), if_pos (by omega : (k : Int) < ((xs.length : Nat) : Int))]
  exact h
theorem at0 {a : D} {xs : List D} : L2.atI (a :: xs) 0 = some a := at_nat (k := 0) rfl
theorem at1 {a b : D} {xs : List D} : L2.atI (a :: b :: xs) 1 = some b := at_nat (k := 1) rfl
theorem at2 {a b c : D} {xs : List D} : L2.atI (a :: b :: c :: xs) 2 = some c := at_nat (k := 2) rfl
theorem at3 {a b c d : D} {xs : List D} : L2.atI (a :: b :: c :: d :: xs) 3 = some d := at_nat (k := 3) rfl
theorem at4 {a b c d e : D} {xs : List D} : L2.atI (a :: b :: c :: d :: e :: xs) 4 = some e := at_nat (k := 4) rfl
/-- a place that is not known -/
theorem at_any {xs : List D} {i : Int} {Z : D → Prop} (h1 : 0 ≤ i) (h2 : i < xs.length) (h : ∀ x ∈ xs, Z x) : atW (L2.atI xs i) Z := by
  have hk : i.toNat < xs.length := by omega
  refine ⟨xs[i.toNat], ?_, h _ (List.getElem_mem hk)⟩
  have := at_nat (xs := xs) (k := i.toNat) (x := xs[i.toNat]) (List.getElem?_eq_getElem hk)
  rwa [show ((i.toNat : Nat) : Int) = i by omega] at this
theorem at_scr {xs : List Int} {i : Int} {Z : D → Prop} (h1 : 0 ≤ i) (h2 : i < xs.length) (h : ∀ x, Z (.int x)) : atW ((L2.atI xs i).map .int) Z := by
  have hk : i.toNat < xs.length := by omega
  refine ⟨.int xs[i.toNat], ?_, h _⟩
  have e : L2.atI xs i = some xs[i.toNat] := by
    unfold L2.atI L2.ixN
    rw [if_pos h1, if_pos h2]
    exact List.getElem?_eq_getElem hk
  rw [e]
  rfl
/-- one's own list's place is written -/
theorem put_nat {env : G.Env} {i : Nat} {xs : List D} {k : Nat} {d : D} {R : G.Env → Prop} (h : env[i]? = some (some (.bor (.lst xs)))) (hk : k < xs.length) : putW env i (k : Int) d R = R (env.set i (some (.bor (.lst (xs.set k d))))) := by
  have e : L2.ixN xs.length (k : Int) = some k := by
    unfold L2.ixN
    rw [if_pos (by omega), if_pos (by omega)]
    simp
  unfold putW
  rw [h]
  exact propext ⟨fun ⟨j, h1, h2⟩ => by rw [e] at h1; cases h1; exact h2, fun h => ⟨k, e, h⟩⟩
theorem v_ds0 {Z : List D → Prop} : dsW [] Z = Z [] := propext ⟨fun ⟨k, e, h⟩ => by cases e; exact h, fun h => ⟨[], rfl, h⟩⟩
theorem v_ds1 {d : D} {os : List Op} {Z : List D → Prop} : dsW (.d d :: os) Z = dsW os fun ds => Z (d :: ds) := propext ⟨fun ⟨k, e, h⟩ => by
  simp only [datas, Option.map_eq_some_iff] at e
  obtain ⟨ds, e, rfl⟩ := e
  exact ⟨ds, e, h⟩, fun ⟨ds, e, h⟩ => ⟨d :: ds, by simp only [datas, e, Option.map_some], h⟩⟩
theorem v_tru {d : D} : truW (some d) B = ∃ b, truth d = some b ∧ B b := propext ⟨fun ⟨_, b, e, h1, h2⟩ => by cases e; exact ⟨b, h1, h2⟩, fun ⟨b, h1, h2⟩ => ⟨_, b, rfl, h1, h2⟩⟩
theorem v_trub {b : Bool} : truW (some (.bl b)) B = B b := propext ⟨fun ⟨_, b, e, h1, h2⟩ => by cases e; cases h1; exact h2, fun h => ⟨_, _, rfl, rfl, h⟩⟩
theorem v_trui : truW (some (.int i)) B = B (i != 0) := propext ⟨fun ⟨_, b, e, h1, h2⟩ => by cases e; cases h1; exact h2, fun h => ⟨_, _, rfl, rfl, h⟩⟩
theorem v_trul {xs : List D} : truW (some (.lst xs)) B = B (!xs.isEmpty) := propext ⟨fun ⟨_, b, e, h1, h2⟩ => by cases e; cases h1; exact h2, fun h => ⟨_, _, rfl, rfl, h⟩⟩
theorem v_trut {xs : List D} : truW (some (.tup xs)) B = B (!xs.isEmpty) := propext ⟨fun ⟨_, b, e, h1, h2⟩ => by cases e; cases h1; exact h2, fun h => ⟨_, _, rfl, rfl, h⟩⟩
theorem v_trun : truW (some .non) B = B false := propext ⟨fun ⟨_, b, e, h1, h2⟩ => by cases e; cases h1; exact h2, fun h => ⟨_, _, rfl, rfl, h⟩⟩
theorem v_itl {xs : List D} {Z : List D → Prop} : itW (.lst xs) Z = Z xs := propext ⟨fun ⟨_, e, h⟩ => by cases e; exact h, fun h => ⟨_, rfl, h⟩⟩
theorem v_itt {xs : List D} {Z : List D → Prop} : itW (.tup xs) Z = Z xs := propext ⟨fun ⟨_, e, h⟩ => by cases e; exact h, fun h => ⟨_, rfl, h⟩⟩
theorem v_vs {vs : List EV} {ls : List Nat} {Z : List EV → Prop} : vsW (some vs) ls Z = (ls.Nodup ∧ Z vs) := propext ⟨fun ⟨_, e, h⟩ => by cases e; exact h, fun h => ⟨_, rfl, h⟩⟩
theorem v_ty {t : Ty} {d : D} (hd : tyOk d = true) : tyW t (some d) B = B (tyD t d) := propext ⟨fun ⟨_, e, _, h⟩ => by cases e; exact h, fun h => ⟨_, rfl, hd, h⟩⟩
theorem ty_i {t : Ty} {i : Int} : tyW t (some (.int i)) B = B (tyD t (.int i)) := v_ty rfl
theorem ty_b {t : Ty} {b : Bool} : tyW t (some (.bl b)) B = B (tyD t (.bl b)) := v_ty rfl
theorem ty_s {t : Ty} {s : Str} : tyW t (some (.str s)) B = B (tyD t (.str s)) := v_ty rfl
theorem ty_n {t : Ty} : tyW t (some .non) B = B (tyD t .non) := v_ty rfl
theorem ty_t {t : Ty} {xs : List D} : tyW t (some (.tup xs)) B = B (tyD t (.tup xs)) := v_ty rfl
theorem ty_l {t : Ty} {xs : List D} : tyW t (some (.lst xs)) B = B (tyD t (.lst xs)) := v_ty rfl
theorem ty_k {t : Ty} {c : Nat} {xs : List D} : tyW t (some (.ins c xs)) B = B (tyD t (.ins c xs)) := v_ty rfl
theorem ty_d {t : Ty} {w : Bool} {ks : List Key} {xs : List D} : tyW t (some (.dct w ks xs)) B = B (tyD t (.dct w ks xs)) := v_ty rfl
theorem v_subd {w : Bool} {ks : List Key} {xs : List D} {s : Str} {Z : D → Prop} : subW (some (.dct w ks xs)) (some (.str s)) Z = atW (lookK ks xs (.inr s)) Z := propext ⟨fun ⟨_, _, r, e1, e2, e3, h⟩ => by cases e1; cases e2; exact ⟨r, e3, h⟩, fun ⟨r, e, h⟩ => ⟨_, _, r, rfl, rfl, e, h⟩⟩
theorem v_subx {x : Str} {Z : D → Prop} : subW (some (.str x)) (some (.int i)) Z = atW ((L2.atI x.cps.toList i).map fun c => .str ⟨#[c]⟩) Z := propext ⟨fun ⟨_, _, r, e1, e2, e3, h⟩ => by cases e1; cases e2; exact ⟨r, e3, h⟩, fun ⟨r, e, h⟩ => ⟨_, _, r, rfl, rfl, e, h⟩⟩
theorem v_mulL {xs : List D} : binW .Mult (some (.lst xs)) (some (.int i)) Q = ((0 ≤ i ∧ i ≤ 1000 ∧ xs.length ≤ 1000) ∧ Q (.fr (.lst (List.replicate i.toNat xs).flatten))) := (rfl)
theorem v_mult {xs : List D} : binW .Mult (some (.tup xs)) (some (.int i)) Q = ((0 ≤ i ∧ i ≤ 1000 ∧ xs.length ≤ 1000) ∧ Q (.val (.tup (List.replicate i.toNat xs).flatten))) := (rfl)
theorem v_ind {w : Bool} {ks : List Key} {xs : List D} : cmpW .In (some (.str x)) (some (.dct w ks xs)) B = B (lookK ks xs (.inr x)).isSome := (rfl)
theorem v_nind {w : Bool} {ks : List Key} {xs : List D} : cmpW .NotIn (some (.str x)) (some (.dct w ks xs)) B = B (!(lookK ks xs (.inr x)).isSome) := (rfl)
theorem v_slcl {xs : List D} {l h : Option Int} : slcW (some (.lst xs)) l h Q = Q (.fr (.lst (cutD xs l h))) := (rfl)
theorem v_slct {xs : List D} {l h : Option Int} : slcW (some (.tup xs)) l h Q = Q (.val (.tup (cutD xs l h))) := (rfl)
theorem v_slcs {s : Str} {l h : Option Int} : slcW (some (.str s)) l h Q = Q (.val (.str (L2.cutS s l h))) := (rfl)
theorem v_revl {xs : List D} : revW (some (.lst xs)) Q = Q (.fr (.lst xs.reverse)) := (rfl)
theorem v_revt {xs : List D} : revW (some (.tup xs)) Q = Q (.val (.tup xs.reverse)) := (rfl)
theorem v_up {s : Str} : bmW .upper [some (.str s)] Q = (s.length ≤ 5592405 ∧ (Txt.upper s).length ≤ line ∧ Q (.val (.str (Txt.upper s)))) := (rfl)
theorem v_enmT {xs : List D} {Z : List D → Prop} : enmW (some [.tup xs]) Z = Z (numbered 0 xs) := (rfl)
theorem v_enm {xs : List D} {Z : List D → Prop} : enmW (some [.lst xs]) Z = Z (numbered 0 xs) := (rfl)
theorem v_zip3l {xs ys zs : List D} {Z : List D → Prop} : zipW (some [.lst xs, .lst ys, .lst zs]) Z = Z (zipD3 xs ys zs) := (rfl)
theorem v_zip3t {xs ys zs : List D} {Z : List D → Prop} : zipW (some [.tup xs, .tup ys, .tup zs]) Z = Z (zipD3 xs ys zs) := (rfl)
theorem v_zipl {xs ys : List D} {Z : List D → Prop} : zipW (some [.lst xs, .lst ys]) Z = Z (zipD xs ys) := (rfl)
theorem v_zipt {xs ys : List D} {Z : List D → Prop} : zipW (some [.tup xs, .tup ys]) Z = Z (zipD xs ys) := (rfl)
theorem v_rvd {xs : List D} {Z : List D → Prop} : rvdW (some [.lst xs]) Z = Z xs.reverse := (rfl)
theorem v_strs {Z : RV → Prop} : biW .str [some (.int i)] Z = (i.natAbs.log2 < 1920 ∧ (toString i : Str).length ≤ line ∧ Z (.val (.str (toString i)))) := (rfl)
theorem v_lrng {j : Int} : xbW .lrng [some (.int j)] Q = ((-1000000 ≤ j ∧ j ≤ 1000000) ∧ Q (.fr (.lst (rngL j)))) := (rfl)
theorem v_trng {j : Int} : xbW .trng [some (.int j)] Q = ((-1000000 ≤ j ∧ j ≤ 1000000) ∧ Q (.val (.tup (rngL j)))) := (rfl)
theorem v_sum2 {ds : List D} {c : Int} : xbW .sum2 [some (.lst ds), some (.int c)] Q = (∃ ns : List Int, ds = ns.map .int ∧ Q (.val (.int (c + ns.sum)))) := (rfl)
theorem v_min0 {d : D} {ds : List D} : xbW (.min0 d) [some (.lst ds)] Q = ((ds = [] → Q (.val d)) ∧ (ds ≠ [] → ordD ds ∧ ∀ m ∈ ds, leastD ds m → Q (.val m))) := (rfl)
theorem v_srk1 {xs : List D} {z : Nat → Option D} : srkW .at1 z (some (.lst xs)) Q = (xs.all has1 = true ∧ Q (.fr (.lst (xs.mergeSort fun a b => decide (key1 a ≤ key1 b))))) := (rfl)
theorem v_lsl {xs : List D} : biW .lst [some (.lst xs)] Q = Q (.fr (.lst xs)) := (rfl)
theorem v_lst {xs : List D} : biW .lst [some (.tup xs)] Q = Q (.fr (.lst xs)) := (rfl)
theorem v_tpl {xs : List D} : biW .tup [some (.lst xs)] Q = Q (.val (.tup xs)) := (rfl)
theorem v_tpt {xs : List D} : biW .tup [some (.tup xs)] Q = Q (.val (.tup xs)) := (rfl)
theorem v_inti : biW .int [some (.int i)] Q = Q (.val (.int i)) := (rfl)
theorem v_intb {b : Bool} : biW .int [some (.bl b)] Q = Q (.val (.int (if b = true then 1 else 0))) := (rfl)
theorem v_lenx {s : Str} : biW .len [some (.str s)] Q = Q (.val (.int s.length)) := (rfl)
theorem all_w {bs : List Bool} (h : Q (.val (.bl (bs.all id)))) : biW .all [some (.lst (bs.map .bl))] Q := ⟨bs, rfl, h⟩
theorem any_w {bs : List Bool} (h : Q (.val (.bl (bs.any id)))) : biW .any [some (.lst (bs.map .bl))] Q := ⟨bs, rfl, h⟩
theorem sum_w {ns : List Int} (h : Q (.val (.int ns.sum))) : biW .sum [some (.lst (ns.map .int))] Q := ⟨ns, rfl, h⟩
theorem v_max : biW .max2 [some (.int i), some (.int j)] Q = Q (.val (.int (if j > i then j else i))) := (rfl)
theorem v_min : biW .min2 [some (.int i), some (.int j)] Q = Q (.val (.int (if j < i then j else i))) := (rfl)
theorem v_len {xs : List D} : biW .len [some (.lst xs)] Q = Q (.val (.int xs.length)) := (rfl)
theorem v_lent {xs : List D} : biW .len [some (.tup xs)] Q = Q (.val (.int xs.length)) := (rfl)
theorem v_lens {xs : List Int} : biW .len [some (.scr xs)] Q = Q (.val (.int xs.length)) := (rfl)
theorem v_repr {d : D} : biW .repr [some d] Q = (plainR d = true ∧ (toPy d).showable = true ∧ (toPy d).depth ≤ 60 ∧ (showD d).length ≤ line ∧ Q (.val (.str (showD d)))) := (rfl)
theorem v_rng1 {Z : List D → Prop} : rngW [some (.int j)] Z = ((-1000000 ≤ j ∧ j ≤ 1000000) ∧ Z (rngD 0 j)) := (rfl)
theorem v_rng2 {Z : List D → Prop} : rngW [some (.int i), some (.int j)] Z = ((-1000000 ≤ i ∧ i ≤ 1000000 ∧ -1000000 ≤ j ∧ j ≤ 1000000) ∧ Z (rngD i j)) := (rfl)
end
/-! statements -/
section
variable {Γ : Fns} {s : S} {ss : List S} {env : G.Env} {X : XP} {nx : G.Env → Prop} {rt : RV → G.Env → Prop} {bk ct : G.Env → Prop}
theorem cutS {R : (G.Env → Prop) → (RV → G.Env → Prop) → Prop} (h : ∀ nx rt, wS Γ s env X ⟨nx, rt, bk, ct⟩ = R nx rt) (g : R (fun env1 => wSs Γ ss env1 X ⟨nx, rt, bk, ct⟩) rt) : wSs Γ (s :: ss) env X ⟨nx, rt, bk, ct⟩ := (h _ _).mpr g
theorem cutI {c : T} {a b : List S} {R : (Bool → G.Env → Prop) → Prop} (h : ∀ Q, wT Γ c env X Q = R Q)
    (g : R (fun b' env1 => if b' = true then wSs Γ a env1 X ⟨fun env1 => wSs Γ ss env1 X ⟨nx, rt, bk, ct⟩, rt, bk, ct⟩ else wSs Γ b env1 X ⟨fun env1 => wSs Γ ss env1 X ⟨nx, rt, bk, ct⟩, rt, bk, ct⟩)) : wSs Γ (.ite c a b :: ss) env X ⟨nx, rt, bk, ct⟩ := (h _).mpr g
theorem cutF {t : Tg} {it : I} {body : List S} {R : (List D → G.Env → Prop) → Prop} (h : ∀ Q, wI Γ it env X Q = R Q)
    (g : R (fun ds env1 => forW (fun d env2 R => asg t d env2 fun env3 => wSs Γ body env3 X ⟨R, rt, fun env1 => wSs Γ ss env1 X ⟨nx, rt, bk, ct⟩, R⟩) (fun env1 => wSs Γ ss env1 X ⟨nx, rt, bk, ct⟩) ds env1)) : wSs Γ (.for_ t it body :: ss) env X ⟨nx, rt, bk, ct⟩ := (h _).mpr g
theorem cutN (g : nx env) : wSs Γ [] env X ⟨nx, rt, bk, ct⟩ := g
/-- a loop by what holds between two turns -/
theorem for_inv {turn : D → G.Env → (G.Env → Prop) → Prop} {Q : G.Env → Prop} (I : G.Env → Prop) : ∀ {ds : List D} {env : G.Env}, I env → (∀ d ∈ ds, ∀ env R, I env → (∀ env', I env' → R env') → turn d env R) → (∀ env, I env → Q env) → forW turn Q ds env
  | [], env, h, _, q => q env h
  | d :: ds, env, h, t, q => t d (List.mem_cons_self ..) env _ h fun env' h' => for_inv I h' (fun d hd => t d (List.mem_cons_of_mem _ hd)) q
theorem rng_mem {lo hi : Int} {d : D} (h : d ∈ rngD lo hi) : ∃ i, d = .int i ∧ lo ≤ i ∧ i < hi := by
  unfold rngD at h
  obtain ⟨k, hk, rfl⟩ := List.mem_map.mp h
  rw [List.mem_range] at hk
  exact ⟨_, rfl, by omega, by omega⟩
theorem if_d {p : Prop} [Decidable p] {A B : Prop} (h1 : p → A) (h2 : ¬ p → B) : if decide p = true then A else B := by
  by_cases h : p
  · rw [if_pos (decide_eq_true h)]; exact h1 h
  · rw [if_neg (by simpa using h)]; exact h2 h
theorem if_n {p : Prop} [Decidable p] {A B : Prop} (h1 : ¬ p → A) (h2 : p → B) : if (!decide p) = true then A else B := by
  by_cases h : p
  · rw [if_neg (by simpa using h)]; exact h2 h
  · rw [if_pos (by simpa using h)]; exact h1 h
theorem if_b {c : Bool} {A B : Prop} (h1 : c = true → A) (h2 : c = false → B) : if c = true then A else B := by
  cases c
  · rw [if_neg (by decide)]; exact h2 rfl
  · rw [if_pos rfl]; exact h1 rfl
end
/-! ### room -/
def Sm (n : Nat) (i : Int) : Prop := i.natAbs < 2 ^ n
theorem sm_mul {a b : Nat} {i j : Int} (h : Sm a i) (k : Sm b j) : Sm (a + b) (i * j) := by
  unfold Sm at *
  rw [Int.natAbs_mul, Nat.pow_add]
  exact Nat.mul_lt_mul_of_lt_of_lt h k
theorem sm_add {a b : Nat} {i j : Int} (h : Sm a i) (k : Sm b j) : Sm (a + b + 1) (i + j) := by
  unfold Sm at *
  have h1 : 2 ^ a ≤ 2 ^ (a + b) := Nat.pow_le_pow_right (by decide) (by omega)
  have h2 : 2 ^ b ≤ 2 ^ (a + b) := Nat.pow_le_pow_right (by decide) (by omega)
  rw [Nat.pow_succ]
  omega
theorem sm_sub {a b : Nat} {i j : Int} (h : Sm a i) (k : Sm b j) : Sm (a + b + 1) (i - j) := by
  unfold Sm at *
  have h1 : 2 ^ a ≤ 2 ^ (a + b) := Nat.pow_le_pow_right (by decide) (by omega)
  have h2 : 2 ^ b ≤ 2 ^ (a + b) := Nat.pow_le_pow_right (by decide) (by omega)
  rw [Nat.pow_succ]
  omega
theorem sm_mod {a : Nat} {i j : Int} (h : Sm a j) (p : 0 < j) : Sm a (i % j) := by
  unfold Sm at *
  have := Int.emod_nonneg i (by omega : j ≠ 0)
  have := Int.emod_lt_of_pos i p
  omega
theorem sm_of (n : Nat) {i : Int} (h1 : -(2 ^ n : Int) < i) (h2 : i < (2 ^ n : Int)) : Sm n i := by
  unfold Sm
  have : ((2 ^ n : Nat) : Int) = (2 : Int) ^ n := by simp
  omega
theorem sm_log {n : Nat} {i : Int} (h : Sm n i) : i.natAbs.log2 ≤ n := by
  by_cases z : i.natAbs = 0
  · rw [z]; exact Nat.zero_le _
  · exact Nat.le_of_lt ((Nat.log2_lt z).mpr h)
theorem cmul {a b : Nat} {i j : Int} (h : Sm a i) (k : Sm b j) (l : a + b < 1000000) : L2.CMulW i j := by
  unfold L2.CMulW
  have := sm_log h
  have := sm_log k
  omega
theorem cdiv {b : Nat} {i j : Int} (p : 0 < j) (k : Sm b j) (l : b < 9000) : L2.CDivW i j := ⟨p, Nat.lt_of_le_of_lt (sm_log k) l⟩
/-! statements, worked out -/
def putV (v : Option (Option EV)) (n : Int) (d : D) (Z : EV → Prop) : Prop := match v with
  | some (some (.own (.lst xs))) => ∃ j, L2.ixN xs.length n = some j ∧ Z (.own (.lst (xs.set j d)))
  | some (some (.bor (.lst xs))) => ∃ j, L2.ixN xs.length n = some j ∧ Z (.bor (.lst (xs.set j d)))
  | _ => False
theorem q_put {env : G.Env} {i : Nat} {n : Int} {d : D} {R : G.Env → Prop} : putW env i n d R = putV env[i]? n d fun e => R (env.set i (some e)) := by
  unfold putW putV
  cases env[i]? with
  | none => rfl
  | some v => cases v with
    | none => rfl
    | some e => cases e with
      | val d => rfl
      | own o => cases o <;> rfl
      | bor o => cases o <;> rfl
theorem jx {xs : List D} {k : Nat} {Z : Nat → Prop} (hk : k < xs.length) : (∃ j, L2.ixN xs.length (k : Int) = some j ∧ Z j) = Z k := by
  have e : L2.ixN xs.length (k : Int) = some k := by
    unfold L2.ixN
    rw [if_pos (by omega), if_pos (by omega)]
    simp
  exact propext ⟨fun ⟨j, h1, h2⟩ => by rw [e] at h1; cases h1; exact h2, fun h => ⟨k, e, h⟩⟩
section
variable {a b c d : D} {xs : List D} {Z : EV → Prop}
theorem pb0 : putV (some (some (.bor (.lst (a :: xs))))) 0 d Z = Z (.bor (.lst (d :: xs))) := jx (k := 0) (xs := a :: xs) (Z := fun j => Z (.bor (.lst ((a :: xs).set j d)))) (by simp)
theorem pb1 : putV (some (some (.bor (.lst (a :: b :: xs))))) 1 d Z = Z (.bor (.lst (a :: d :: xs))) := jx (k := 1) (xs := a :: b :: xs) (Z := fun j => Z (.bor (.lst ((a :: b :: xs).set j d)))) (by simp)
theorem pb2 : putV (some (some (.bor (.lst (a :: b :: c :: xs))))) 2 d Z = Z (.bor (.lst (a :: b :: d :: xs))) := jx (k := 2) (xs := a :: b :: c :: xs) (Z := fun j => Z (.bor (.lst ((a :: b :: c :: xs).set j d)))) (by simp)
theorem po0 : putV (some (some (.own (.lst (a :: xs))))) 0 d Z = Z (.own (.lst (d :: xs))) := jx (k := 0) (xs := a :: xs) (Z := fun j => Z (.own (.lst ((a :: xs).set j d)))) (by simp)
theorem po1 : putV (some (some (.own (.lst (a :: b :: xs))))) 1 d Z = Z (.own (.lst (a :: d :: xs))) := jx (k := 1) (xs := a :: b :: xs) (Z := fun j => Z (.own (.lst ((a :: b :: xs).set j d)))) (by simp)
theorem po2 : putV (some (some (.own (.lst (a :: b :: c :: xs))))) 2 d Z = Z (.own (.lst (a :: b :: d :: xs))) := jx (k := 2) (xs := a :: b :: c :: xs) (Z := fun j => Z (.own (.lst ((a :: b :: c :: xs).set j d)))) (by simp)
end
section
variable {Γ : Fns} {env : G.Env} {X : XP} {k : K} {a b c e : E}
def putD (x : Option D) (Z : Int → Prop) : Prop := match x with
  | some (.int n) => Z n
  | _ => False
theorem v_putD {i : Int} {Z : Int → Prop} : putD (some (.int i)) Z = Z i := (rfl)
theorem q_asg {i : Nat} : wS Γ (.asg i e) env X k = wE Γ e env X fun r env1 => setS env1 i r.toEV k.nx := by rw [wS.eq_def]
theorem q_puts {i : Nat} {ix : E} : wS Γ (.put i ix e) env X k = wE Γ e env X fun r env1 => match env1[i]? with
    | some (some _) => opd ix (wE Γ ix) env1 X fun x env2 => putD (res env2 x) fun n => putW env2 i n r.toD k.nx
    | _ => False := by rw [wS.eq_def] <;> rfl
theorem q_ex : wS Γ (.ex e) env X k = wE Γ e env X fun _ env1 => k.nx env1 := by rw [wS.eq_def]
theorem q_retn : wS Γ .retN env X k = k.rt (.val .non) env := by rw [wS.eq_def]
theorem q_pass : wS Γ .pass env X k = k.nx env := by rw [wS.eq_def]
theorem q_raise {c : Nat} : wS Γ (.raise c) env X k = X ⟨c, []⟩ env := by rw [wS.eq_def]
theorem q_brk : wS Γ .brk env X k = k.bk env := by rw [wS.eq_def]
theorem q_cnt : wS Γ .cnt env X k = k.ct env := by rw [wS.eq_def]
theorem q_par {is : List Nat} {es : List E} : wS Γ (.par is es) env X k = wRs Γ es env X fun rs env1 => setAll env1 is rs k.nx := by rw [wS.eq_def]
theorem q_asgT {t : Tg} : wS Γ (.asgT t e) env X k = wE Γ e env X fun r env1 => asg t r.toD env1 k.nx := by rw [wS.eq_def]
theorem q_rs0 {R : List RV → G.Env → Prop} : wRs Γ [] env X R = R [] env := (rfl)
theorem q_rs1 {es : List E} {R : List RV → G.Env → Prop} : wRs Γ (e :: es) env X R = wE Γ e env X fun r env1 => wRs Γ es env1 X fun rs env2 => R (r :: rs) env2 := (rfl)
def fputV (v : Option (Option EV)) (f : Nat) (d : D) (Z : EV → Prop) : Prop := match v with
  | some (some (.own (.ins c ds))) => ∃ es, fputO c f ds d = some es ∧ Z (.own (.ins c es))
  | some (some (.bor (.ins c ds))) => ∃ es, fputO c f ds d = some es ∧ Z (.bor (.ins c es))
  | _ => False
theorem fput_v {i f : Nat} {d : D} {R : G.Env → Prop} : fputW env i f d R = fputV env[i]? f d fun e => R (env.set i (some e)) := by
  unfold fputW fputV
  cases env[i]? with
  | none => rfl
  | some v => cases v with
    | none => rfl
    | some e => cases e with
      | val d => rfl
      | own o => cases o <;> rfl
      | bor o => cases o <;> rfl
theorem q_fput {i f : Nat} : wS Γ (.fput i f e) env X k = wE Γ e env X fun r env1 => fputV env1[i]? f r.toD fun v => k.nx (env1.set i (some v)) := by rw [wS.eq_def]; dsimp only; simp only [fput_v]
def eW (x : Option (List D)) (Z : List D → Prop) : Prop := ∃ es, x = some es ∧ Z es
theorem v_fpb {c f : Nat} {ds : List D} {d : D} {Z : EV → Prop} : fputV (some (some (.bor (.ins c ds)))) f d Z = eW (fputO c f ds d) fun es => Z (.bor (.ins c es)) := (rfl)
theorem v_fpo {c f : Nat} {ds : List D} {d : D} {Z : EV → Prop} : fputV (some (some (.own (.ins c ds)))) f d Z = eW (fputO c f ds d) fun es => Z (.own (.ins c es)) := (rfl)
theorem v_eW {es : List D} {Z : List D → Prop} : eW (some es) Z = Z es := propext ⟨fun ⟨_, e, q⟩ => by cases e; exact q, fun q => ⟨es, rfl, q⟩⟩
section
variable {a b c d : D}
theorem fo_00 : fputO 0 0 [] d = some [d] := rfl
theorem fo_01 : fputO 0 1 [a] d = some [a, d] := rfl
theorem fo_02 : fputO 0 2 [a, b] d = some [a, b, d] := rfl
theorem fo_13 : fputO 1 3 [] d = some [d] := rfl
theorem fo_14 : fputO 1 4 [a] d = some [a, d] := rfl
theorem fo_25 : fputO 2 5 [] d = some [d] := rfl
theorem fo_26 : fputO 2 6 [a] d = some [a, d] := rfl
theorem fo_27 : fputO 2 7 [a, b] d = some [a, b, d] := rfl
theorem fo_20 : fputO 2 0 [a, b, c] d = some [a, b, c, d] := rfl
theorem fo_35 : fputO 3 5 [] d = some [d] := rfl
theorem fo_38 : fputO 3 8 [a] d = some [a, d] := rfl
theorem fo_39 : fputO 3 9 [a, b] d = some [a, b, d] := rfl
theorem fo_3a : fputO 3 9 [a, b, c] d = some [a, b, d] := rfl
end
theorem t_n {i : Nat} {d : D} {env : G.Env} {Q : G.Env → Prop} : asg (.nm i) d env Q = setS env i (.val d) Q := by rw [G.asg]
theorem t_2 {a b : Tg} {x y : D} {env : G.Env} {Q : G.Env → Prop} : asg (.tp [a, b]) (.tup [x, y]) env Q = asg a x env fun e => asg b y e Q := by
  simp [G.asg, G.asgs]
theorem t_3 {a b c : Tg} {x y z : D} {env : G.Env} {Q : G.Env → Prop} : asg (.tp [a, b, c]) (.tup [x, y, z]) env Q = asg a x env fun e => asg b y e fun e => asg c z e Q := by
  simp [G.asg, G.asgs]
theorem for_0 {turn : D → G.Env → (G.Env → Prop) → Prop} {Q : G.Env → Prop} {env : G.Env} (h : Q env) : forW turn Q [] env := h
theorem for_1 {turn : D → G.Env → (G.Env → Prop) → Prop} {Q : G.Env → Prop} {env : G.Env} {d : D} {ds : List D} (h : turn d env fun env' => forW turn Q ds env') : forW turn Q (d :: ds) env := h
theorem id_1 {x : E} : idSrc [x].length = [.inl 0] := rfl
theorem id_2 {x y : E} : idSrc [x, y].length = [.inl 0, .inl 1] := rfl
theorem d_1 {x : D} : datas [.d x] = some [x] := rfl
theorem d_2 {x y : D} : datas [.d x, .d y] = some [x, y] := rfl
theorem d_3 {x y z : D} : datas [.d x, .d y, .d z] = some [x, y, z] := rfl
/-- name op= e -/
theorem q_aug {i : Nat} {op : Operator} {d : D} (he : env[i]? = some (some (.val d))) (h : opd e (wE Γ e) env X fun x env1 => env1[i]? = some (some (.val d)) ∧ augW op (some d) (res env1 x) fun r => setS env1 i r.toEV k.nx) : wS Γ (.aug i op e) env X k := by
  rw [wS.eq_def]
  dsimp only
  refine ⟨d, by show (match env[i]? with | some (some v) => some v.toD | _ => none) = some d; rw [he]; rfl, ⟨d, he⟩, ?_⟩
  rw [he]
  exact h
theorem q_ite {t : T} {a b : List S} : wS Γ (.ite t a b) env X k = wT Γ t env X fun b' env1 => if b' = true then wSs Γ a env1 X k else wSs Γ b env1 X k := by rw [wS.eq_def]
theorem q_ss0 : wSs Γ [] env X k = k.nx env := by rw [wSs.eq_def]
theorem q_ss1 {s : S} {ss : List S} : wSs Γ (s :: ss) env X k = wS Γ s env X ⟨fun env1 => wSs Γ ss env1 X k, k.rt, k.bk, k.ct⟩ := by rw [wSs.eq_def]
theorem q_for {t : Tg} {it : I} {body : List S} : wS Γ (.for_ t it body) env X k = wI Γ it env X fun ds env1 => forW (fun d env2 R => asg t d env2 fun env3 => wSs Γ body env3 X ⟨R, k.rt, k.nx, R⟩) k.nx ds env1 := by rw [wS.eq_def]
theorem v_for0 {turn : D → G.Env → (G.Env → Prop) → Prop} {Q : G.Env → Prop} : forW turn Q [] env = Q env := (rfl)
theorem v_for1 {turn : D → G.Env → (G.Env → Prop) → Prop} {Q : G.Env → Prop} {d : D} {ds : List D} : forW turn Q (d :: ds) env = turn d env fun env' => forW turn Q ds env' := (rfl)
theorem r_var {i : Nat} : wS Γ (.ret (.var i)) env X k = (match env[i]? with
    | some (some (.val d)) => k.rt (.val d) env
    | some (some (.own o)) => k.rt (.fr o) (env.set i none)
    | _ => False) := by rw [wS.eq_def] <;> rfl
theorem r_con {d : D} : wS Γ (.ret (.con d)) env X k = wE Γ (.con d) env X k.rt := by rw [wS.eq_def]
theorem r_bin {op : Operator} : wS Γ (.ret (.bin op a b)) env X k = wE Γ (.bin op a b) env X k.rt := by rw [wS.eq_def]
theorem r_neg  : wS Γ (.ret (.neg a)) env X k = wE Γ (.neg a) env X k.rt := by rw [wS.eq_def]
theorem r_cmp {op : CmpOp} : wS Γ (.ret (.cmp op a b)) env X k = wE Γ (.cmp op a b) env X k.rt := by rw [wS.eq_def]
theorem r_chn {o1 o2 : CmpOp} : wS Γ (.ret (.chn o1 o2 a b c)) env X k = wE Γ (.chn o1 o2 a b c) env X k.rt := by rw [wS.eq_def]
theorem r_and  : wS Γ (.ret (.and a b)) env X k = wE Γ (.and a b) env X k.rt := by rw [wS.eq_def]
theorem r_or  : wS Γ (.ret (.or a b)) env X k = wE Γ (.or a b) env X k.rt := by rw [wS.eq_def]
theorem r_not  : wS Γ (.ret (.not a)) env X k = wE Γ (.not a) env X k.rt := by rw [wS.eq_def]
theorem r_ite {t : T} : wS Γ (.ret (.ite t a b)) env X k = wE Γ (.ite t a b) env X k.rt := by rw [wS.eq_def]
theorem r_tup {es : List E} : wS Γ (.ret (.tup es)) env X k = wE Γ (.tup es) env X k.rt := by rw [wS.eq_def]
theorem r_lst {es : List E} : wS Γ (.ret (.lst es)) env X k = wE Γ (.lst es) env X k.rt := by rw [wS.eq_def]
theorem r_sub  : wS Γ (.ret (.sub a b)) env X k = wE Γ (.sub a b) env X k.rt := by rw [wS.eq_def]
theorem r_slc {lo hi : O} : wS Γ (.ret (.slc a lo hi)) env X k = wE Γ (.slc a lo hi) env X k.rt := by rw [wS.eq_def]
theorem r_rev  : wS Γ (.ret (.rev a)) env X k = wE Γ (.rev a) env X k.rt := by rw [wS.eq_def]
theorem r_call {f : Nat} {as : List E} {src : List (Sum Nat D)} : wS Γ (.ret (.call f as src)) env X k = wE Γ (.call f as src) env X k.rt := by rw [wS.eq_def]
theorem r_make {cl f : Nat} {as : List E} {src : List (Sum Nat D)} : wS Γ (.ret (.make cl f as src)) env X k = wE Γ (.make cl f as src) env X k.rt := by rw [wS.eq_def]
theorem r_meth {cl f : Nat} {as : List E} {src : List (Sum Nat D)} : wS Γ (.ret (.meth cl f a as src)) env X k = wE Γ (.meth cl f a as src) env X k.rt := by rw [wS.eq_def]
theorem r_cv {i : Nat} {fs : List Nat} {as : List E} : wS Γ (.ret (.cv i fs as)) env X k = wE Γ (.cv i fs as) env X k.rt := by rw [wS.eq_def]
theorem r_bm {m : BM} {as : List E} : wS Γ (.ret (.bm m a as)) env X k = wE Γ (.bm m a as) env X k.rt := by rw [wS.eq_def]
theorem r_dsp {ks : List Key} {ds : List D} : wS Γ (.ret (.dsp ks ds)) env X k = wE Γ (.dsp ks ds) env X k.rt := by rw [wS.eq_def]
theorem r_fst {as : List E} : wS Γ (.ret (.fst as)) env X k = wE Γ (.fst as) env X k.rt := by rw [wS.eq_def]
theorem r_bi {f : BI} {as : List E} : wS Γ (.ret (.bi f as)) env X k = wE Γ (.bi f as) env X k.rt := by rw [wS.eq_def]
theorem r_xb {kk : XBK} {es : List E} : wS Γ (.ret (.xb kk es)) env X k = wE Γ (.xb kk es) env X k.rt := by rw [wS.eq_def]
theorem r_own {neg : Bool} {c f : Nat} : wS Γ (.ret (.own neg c f a b)) env X k = wE Γ (.own neg c f a b) env X k.rt := by rw [wS.eq_def]
theorem r_spc {sk : SP} {c f : Nat} : wS Γ (.ret (.spc sk c f a)) env X k = wE Γ (.spc sk c f a) env X k.rt := by rw [wS.eq_def]
theorem r_hot {hk : HK} : wS Γ (.ret (.hot hk a)) env X k = wE Γ (.hot hk a) env X k.rt := by rw [wS.eq_def]
theorem r_srk {kf : KF} : wS Γ (.ret (.srk kf a)) env X k = wE Γ (.srk kf a) env X k.rt := by rw [wS.eq_def]
theorem r_isi {t : Ty} : wS Γ (.ret (.isi a t)) env X k = wE Γ (.isi a t) env X k.rt := by rw [wS.eq_def]
theorem r_fld {f : Nat} : wS Γ (.ret (.fld a f)) env X k = wE Γ (.fld a f) env X k.rt := by rw [wS.eq_def]
theorem r_lm {m : LM} {i : Nat} {as : List E} : wS Γ (.ret (.lm m i as)) env X k = wE Γ (.lm m i as) env X k.rt := by rw [wS.eq_def]
theorem r_lc {t : Tg} {it : I} {cond : T} {own : List Nat} : wS Γ (.ret (.lc a t it cond own)) env X k = wE Γ (.lc a t it cond own) env X k.rt := by rw [wS.eq_def]
end
/-- a def's meaning, opened -/
theorem w_at {t : Text} {n f : Nat} {as : List EV} {Q : RV → List OV → Prop} {X : Exn → List OV → Prop} {fd : FD} (env : G.Env) (h : t.at f = some fd) (hl : as.length = fd.np) (he : as.map some ++ List.replicate (fd.ns - fd.np) none = env)
    (g : wSs ⟨W t n, none, Wh t n⟩ fd.body env (fun x env => X x (bors env)) ⟨fun env => Q (.val .non) (bors env), fun r env => Q r (bors env), fun _ => False, fun _ => False⟩) : W t (n + 1) f as Q X := by
  simp only [W, h]
  rw [he]
  exact ⟨hl, g⟩
/-- a def called with a held exception -/
theorem wh_at {t : Text} {n f ad : Nat} {x : Exn} {R : RV → Prop} {fd : FD} (env : G.Env) (h : t.at f = some fd) (hn : fd.np = 1) (he : some (.val (.exn ad)) :: List.replicate (fd.ns - 1) none = env)
    (g : wSs ⟨fun _ _ _ _ => False, some (ad, x), Wh t n⟩ fd.body env (fun _ _ => False) ⟨fun _ => R (.val .non), fun r _ => R r, fun _ => False, fun _ => False⟩) : Wh t (n + 1) f ad x R := by
  simp only [Wh, h]
  rw [he]
  exact ⟨hn, g⟩
theorem v_hx {ad : Nat} {x : Exn} {P : Nat → Exn → Prop} : (∃ a y, some (D.exn ad) = some (D.exn a) ∧ some (ad, x) = some (a, y) ∧ P a y) = P ad x := propext ⟨fun ⟨_, _, e1, e2, h⟩ => by cases e1; cases e2; exact h, fun h => ⟨_, _, rfl, rfl, h⟩⟩
/-! slots of which only the kind is known -/
def vO (x : Option D) : Option EV := x.map .val
def oO (x : Option OV) : Option EV := x.map .own
theorem v_le0 : lendE [] = [] := rfl
theorem v_le1 {o : OV} {r : G.Env} : lendE (some (.own o) :: r) = some (.bor o) :: lendE r := rfl
theorem v_le2 {o : OV} {r : G.Env} : lendE (some (.bor o) :: r) = some (.bor o) :: lendE r := rfl
theorem v_le3 {d : D} {r : G.Env} : lendE (some (.val d) :: r) = some (.val d) :: lendE r := rfl
theorem v_le4 {r : G.Env} : lendE (none :: r) = none :: lendE r := rfl
theorem v_le5 {x : Option D} {r : G.Env} : lendE (vO x :: r) = vO x :: lendE r := by cases x <;> rfl
theorem v_ow0 {k : Nat} : ownsE k [] = [] := rfl
theorem v_ow1 {k : Nat} {o : OV} {r : G.Env} : ownsE k (some (.own o) :: r) = k :: ownsE (k + 1) r := rfl
theorem v_ow2 {k : Nat} {o : OV} {r : G.Env} : ownsE k (some (.bor o) :: r) = k :: ownsE (k + 1) r := rfl
theorem v_ow3 {k : Nat} {d : D} {r : G.Env} : ownsE k (some (.val d) :: r) = ownsE (k + 1) r := rfl
theorem v_ow4 {k : Nat} {r : G.Env} : ownsE k (none :: r) = ownsE (k + 1) r := rfl
theorem v_ow5 {k : Nat} {x : Option D} {r : G.Env} : ownsE k (vO x :: r) = ownsE (k + 1) r := by cases x <;> rfl
theorem v_told1 {r : RV} : toldR true r = .val (.tup [.str "told", r.toD]) := rfl
theorem v_told2 {r : RV} : toldR false r = .fr (.lst [r.toD]) := rfl
section
variable {xs : G.Env} {v : EV} {Q : G.Env → Prop}
theorem set_s {e : Option EV} {i : Nat} : setS (e :: xs) (i + 1) v Q = setS xs i v fun ys => Q (e :: ys) := (rfl)
theorem set_n : setS (none :: xs) 0 v Q = Q (some v :: xs) := (rfl)
theorem set_v {d : D} : setS (some (.val d) :: xs) 0 v Q = Q (some v :: xs) := (rfl)
theorem set_o {o : OV} : setS (some (.own o) :: xs) 0 v Q = Q (some v :: xs) := (rfl)
theorem set_vO {x : Option D} : setS (vO x :: xs) 0 v Q = Q (some v :: xs) := by cases x <;> rfl
theorem set_oO {x : Option OV} : setS (oO x :: xs) 0 v Q = Q (some v :: xs) := by cases x <;> rfl
end
theorem v_bv {x : Option D} {r : G.Env} : bors (vO x :: r) = bors r := by cases x <;> rfl
theorem v_bo {x : Option OV} {r : G.Env} : bors (oO x :: r) = bors r := by cases x <;> rfl
section
variable {d : D} {o : OV} {xs : List D} {c : Nat}
theorem v_td1 : EV.toD (.val d) = d := rfl
theorem v_td2 : EV.toD (.own o) = o.toD := rfl
theorem v_td3 : EV.toD (.bor o) = o.toD := rfl
theorem v_td4 : OV.toD (.lst xs) = .lst xs := rfl
theorem v_td5 : OV.toD (.ins c xs) = .ins c xs := rfl
theorem v_td6 : RV.toD (.val d) = d := rfl
theorem v_td7 : RV.toD (.fr o) = o.toD := rfl
theorem v_te1 : RV.toEV (.val d) = .val d := rfl
theorem v_te2 : RV.toEV (.fr o) = .own o := rfl
end
theorem back_0 {env : G.Env} {os : List OV} : back env [] os = env := by cases os <;> rfl
theorem back_1 {env : G.Env} {i : Nat} {is : List Nat} {o : OV} {os : List OV} : back env (i :: is) (o :: os) = back (env.set i ((env[i]?.getD none).map fun v => v.put o)) is os := rfl
theorem at_int {xs : List Int} {i : Int} {Z : D → Prop} (lo hi : Int) (h1 : 0 ≤ i) (h2 : i < xs.length) (hx : ∀ x ∈ xs, lo ≤ x ∧ x ≤ hi) (h : ∀ x : Int, lo ≤ x → x ≤ hi → Z (.int x)) : atW (L2.atI (xs.map D.int) i) Z := by
  refine at_any h1 (by rw [List.length_map]; exact h2) fun d hd => ?_
  obtain ⟨x, hx', rfl⟩ := List.mem_map.mp hd
  exact h x (hx x hx').1 (hx x hx').2
theorem if_T {A B : Prop} (h : A) : if true = true then A else B := by rw [if_pos rfl]; exact h
theorem if_F {A B : Prop} (h : B) : if false = true then A else B := by rw [if_neg (by decide)]; exact h
/-! comprehensions -/
theorem lc_go {turn : D → G.Env → (Option D → G.Env → Prop) → Prop} {Q : List D → G.Env → Prop} {env : G.Env} (f : D → Option D) : ∀ {ds acc : List D}, (∀ d ∈ ds, ∀ R : Option D → G.Env → Prop, R (f d) env → turn d env R) → Q (acc ++ ds.filterMap f) env → lcW turn Q ds acc env
  | [], acc, _, q => by simpa [lcW] using q
  | d :: ds, acc, h, q => by
    refine h d (List.mem_cons_self ..) _ ?_
    refine lc_go f (fun d hd => h d (List.mem_cons_of_mem _ hd)) ?_
    cases e : f d with
    | none => rw [List.filterMap_cons_none e] at q; exact q
    | some y => rw [List.filterMap_cons_some e] at q; simpa using q
theorem lc_map {turn : D → G.Env → (Option D → G.Env → Prop) → Prop} {Q : List D → G.Env → Prop} {env : G.Env} (f : D → D) {ds : List D} (h : ∀ d ∈ ds, ∀ R : Option D → G.Env → Prop, R (some (f d)) env → turn d env R) (q : Q (ds.map f) env) : lcW turn Q ds [] env :=
  lc_go (fun d => some (f d)) h (by simpa [List.filterMap_eq_map'] using q)
/-- what is known of each answer -/
theorem lc_all {turn : D → G.Env → (Option D → G.Env → Prop) → Prop} {Q : List D → G.Env → Prop} {env : G.Env} (B : D → D → Prop) : ∀ {ds acc : List D}, (∀ d ∈ ds, ∀ R : Option D → G.Env → Prop, (∀ y, B d y → R (some y) env) → turn d env R) → (∀ ys, Paired B ds ys → Q (acc ++ ys) env) → lcW turn Q ds acc env
  | [], acc, _, q => by simpa [lcW] using q [] .nil
  | d :: ds, acc, h, q => by
    refine h d (List.mem_cons_self ..) _ fun y hy => ?_
    refine lc_all B (fun d hd => h d (List.mem_cons_of_mem _ hd)) fun ys hys => ?_
    have := q (y :: ys) (.cons hy hys)
    simpa using this
end G
/-! B7: data that may be shown; sizes of what is shown. -/
namespace G
open PySem PySem.Spec L2
theorem sm64 {i : Int} (h1 : -18446744073709551616 < i) (h2 : i < 18446744073709551616) : Sm 64 i := sm_of 64 (by simpa using h1) (by simpa using h2)
def okStr (s : Str) : Bool := s.cps.toList.all fun c => decide (c < 4294967296)
def fitK : Key → Bool
  | .inl i => decide (i.natAbs.log2 < 1920)
  | .inr s => okStr s
/-- data that may be shown, at most n deep -/
def fit : Nat → D → Bool
  | _, .non => true
  | _, .bl _ => true
  | _, .int i => decide (i.natAbs.log2 < 1920)
  | _, .str s => okStr s
  | n + 1, .tup xs => xs.all (fit n)
  | n + 1, .lst xs => xs.all (fit n)
  | n + 1, .dct false ks vs => decide (ks.length = vs.length) && ks.all fitK && vs.all (fit n)
  | _, _ => false
def wtK : Key → Nat
  | .inl i => i.natAbs.log2 + 2
  | .inr s => 10 * s.length + 2
/-- more than the length of what is shown -/
def wt : Nat → D → Nat
  | _, .non => 4
  | _, .bl _ => 5
  | _, .int i => i.natAbs.log2 + 2
  | _, .str s => 10 * s.length + 2
  | n + 1, .tup xs => (xs.map fun x => wt n x + 2).sum + 3
  | n + 1, .lst xs => (xs.map fun x => wt n x + 2).sum + 3
  | n + 1, .dct _ ks vs => (ks.map fun k => wtK k + 2).sum + (vs.map fun x => wt n x + 2).sum + 3
  | _, _ => 0
theorem str_len_append (x y : Str) : (x ++ y).length = x.length + y.length := Array.size_append
theorem okStr_all {s : Str} (h : okStr s = true) : ∀ c ∈ s.cps.toList, c < 16 ^ 8 := fun c hc => by
  have := List.all_eq_true.mp h c hc
  simpa using this
theorem int_len (i : Int) : (Str.ofString (toString i)).length ≤ i.natAbs.log2 + 2 := by
  rw [PySem.ofString_length]
  exact PySem.int_text_length_le (k := i.natAbs.log2 + 1) (Nat.succ_pos _) (Nat.lt_succ_self _)
theorem fitK_ok : ∀ {k : Key}, fitK k = true → (keyPy k).showable = true ∧ (PyData.shown (keyPy k)).length ≤ wtK k ∧ (keyPy k).depth = 0
  | .inl i, h => by
    refine ⟨?_, ?_, ?_⟩
    · show decide (i.natAbs.log2 < 1920) = true
      exact h
    · show (Str.ofString (toString i)).length ≤ i.natAbs.log2 + 2
      exact int_len i
    · simp [keyPy, PyData.depth]
  | .inr s, h => by
    refine ⟨by simp [keyPy, PyData.showable], ?_, by simp [keyPy, PyData.depth]⟩
    show (PyData.shown (.str s)).length ≤ _
    simp only [PyData.shown]
    exact StrLaws.reprText_len s (okStr_all h)
def Fits (n : Nat) (d : D) : Prop := plainR d = true ∧ (toPy d).showable = true ∧ (toPy d).depth ≤ n ∧ (showD d).length ≤ wt n d
theorem fits_all {n : Nat} (ih : ∀ d : D, fit n d = true → Fits n d) : ∀ xs : List D, xs.all (fit n) = true → plainRs xs = true ∧ PyData.showableAll (toPys xs) = true ∧ PyData.depthAll (toPys xs) ≤ n ∧ ((PyData.shownAll (toPys xs)).map (·.length)).sum + 2 * (PyData.shownAll (toPys xs)).length ≤ (xs.map fun x => wt n x + 2).sum
  | [], _ => ⟨rfl, rfl, Nat.zero_le _, Nat.le_refl _⟩
  | x :: xs, h => by
    simp only [List.all_cons, Bool.and_eq_true] at h
    obtain ⟨a, b, c, d⟩ := ih x h.1
    obtain ⟨a', b', c', d'⟩ := fits_all ih xs h.2
    refine ⟨by simp only [plainRs, a, a', Bool.and_self], by simp only [toPys, PyData.showableAll, b, b', Bool.and_self], by simp only [toPys, PyData.depthAll]; omega, ?_⟩
    have d : (PyData.shown (toPy x)).length ≤ wt n x := d
    simp only [toPys, PyData.shownAll, List.map_cons, List.sum_cons, List.length_cons]
    omega
theorem kv_ok {n : Nat} (ih : ∀ d : D, fit n d = true → Fits n d) : ∀ (ks : List Key) (vs : List D), ks.length = vs.length → ks.all fitK = true → vs.all (fit n) = true →
    PyData.showableKv ((ks.map keyPy).zip (toPys vs)) = true ∧ PyData.depthKv ((ks.map keyPy).zip (toPys vs)) ≤ n ∧
    ((PyData.shownKv ((ks.map keyPy).zip (toPys vs))).map (·.length)).sum + 2 * (PyData.shownKv ((ks.map keyPy).zip (toPys vs))).length ≤ (ks.map fun k => wtK k + 2).sum + (vs.map fun x => wt n x + 2).sum
  | [], vs, _, _, _ => ⟨rfl, Nat.zero_le _, Nat.zero_le _⟩
  | _ :: _, [], h, _, _ => by simp at h
  | k :: ks, v :: vs, hl, h1, h2 => by
    simp only [List.all_cons, Bool.and_eq_true] at h1 h2
    obtain ⟨a, b, c⟩ := fitK_ok h1.1
    obtain ⟨p, q, r, s⟩ := ih v h2.1
    obtain ⟨x, y, z⟩ := kv_ok ih ks vs (by simpa using hl) h1.2 h2.2
    simp only [List.map_cons, toPys, List.zip_cons_cons]
    refine ⟨by simp only [PyData.showableKv, a, q, x, Bool.and_self], by simp only [PyData.depthKv]; omega, ?_⟩
    have s : (PyData.shown (toPy v)).length ≤ wt n v := s
    simp only [PyData.shownKv, List.map_cons, List.sum_cons, List.length_cons]
    have e : (PyData.shown (keyPy k) ++ ": " ++ PyData.shown (toPy v)).length = (PyData.shown (keyPy k)).length + 2 + (PyData.shown (toPy v)).length := by
      rw [str_len_append, str_len_append]; rfl
    rw [e]
    omega
theorem fit_ok : ∀ (n : Nat) (d : D), fit n d = true → Fits n d
  | n, .non, _ => ⟨rfl, rfl, Nat.zero_le _, by rw [show wt n .non = 4 by cases n <;> rfl]; decide +kernel⟩
  | n, .bl b, _ => ⟨rfl, rfl, Nat.zero_le _, by rw [show wt n (.bl b) = 5 by cases n <;> rfl]; cases b <;> decide +kernel⟩
  | n, .int i, h => by
    have h' : i.natAbs.log2 < 1920 := by cases n <;> simpa [fit] using h
    refine ⟨rfl, decide_eq_true h', Nat.zero_le _, ?_⟩
    have e : wt n (.int i) = i.natAbs.log2 + 2 := by cases n <;> rfl
    rw [e]
    exact int_len i
  | n, .str s, h => by
    have h' : okStr s = true := by cases n <;> simpa [fit] using h
    refine ⟨rfl, rfl, Nat.zero_le _, ?_⟩
    have e : wt n (.str s) = 10 * s.length + 2 := by cases n <;> rfl
    rw [e]
    show (PyData.shown (.str s)).length ≤ _
    simp only [PyData.shown]
    exact StrLaws.reprText_len s (okStr_all h')
  | 0, .tup _, h => by simp [fit] at h
  | 0, .lst _, h => by simp [fit] at h
  | 0, .dct _ _ _, h => by simp [fit] at h
  | n + 1, .tup xs, h => by
    obtain ⟨a, b, c, d⟩ := fits_all (fit_ok n) xs (by simpa only [fit] using h)
    refine ⟨by simpa only [plainR] using a, by simpa only [toPy, PyData.showable] using b, by simp only [toPy, PyData.depth]; omega, ?_⟩
    show (PyData.shown (toPy (.tup xs))).length ≤ _
    simp only [toPy, PyData.shown, wt]
    exact Nat.le_trans (tupleText_len_le _) (by omega)
  | n + 1, .lst xs, h => by
    obtain ⟨a, b, c, d⟩ := fits_all (fit_ok n) xs (by simpa only [fit] using h)
    refine ⟨by simpa only [plainR] using a, by simpa only [toPy, PyData.showable] using b, by simp only [toPy, PyData.depth]; omega, ?_⟩
    show (PyData.shown (toPy (.lst xs))).length ≤ _
    simp only [toPy, PyData.shown, wt]
    exact Nat.le_trans (listText_len_le _) (by omega)
  | n + 1, .dct false ks vs, h => by
    simp only [fit, Bool.and_eq_true, decide_eq_true_eq] at h
    obtain ⟨⟨h1, h2⟩, h3⟩ := h
    obtain ⟨a, b, c⟩ := kv_ok (fit_ok n) ks vs h1 h2 h3
    have p := (fits_all (fit_ok n) vs h3).1
    refine ⟨by simp [plainR, h1, p], by simpa only [toPy, PyData.showable] using a, by simp only [toPy, PyData.depth]; omega, ?_⟩
    show (PyData.shown (toPy (.dct false ks vs))).length ≤ _
    simp only [toPy, PyData.shown, wt]
    have e : (dictText (PyData.shownKv ((ks.map keyPy).zip (toPys vs)))).length ≤ (listText (PyData.shownKv ((ks.map keyPy).zip (toPys vs)))).length := by
      unfold dictText
      rw [listText_eq_join, str_len_append, str_len_append, str_len_append, str_len_append]
      exact Nat.le_refl _
    exact Nat.le_trans e (Nat.le_trans (listText_len_le _) (by omega))
  | n + 1, .dct true _ _, h => by simp [fit] at h
  | n, .ins _ _, h => by cases n <;> simp [fit] at h
  | n, .fn _, h => by cases n <;> simp [fit] at h
  | n, .scr _, h => by cases n <;> simp [fit] at h
  | n, .exn _, h => by cases n <;> simp [fit] at h
theorem upper_list (x : Str) : (Txt.upper x).cps.toList = x.cps.toList.flatMap Unicode.upperOf := by
  show ((x.cps.mapIdx fun _ c => (Unicode.upperOf c).toArray).flatten).toList = _
  have : x.cps.mapIdx (fun _ c => (Unicode.upperOf c).toArray) = x.cps.map (fun c => (Unicode.upperOf c).toArray) := by ext <;> simp
  rw [this]
  simp [Array.toList_flatten, List.flatMap, Function.comp_def]
theorem upper_one : ∀ c, c < 128 → ∃ u, u < 128 ∧ Unicode.upperOf c = [u] := by
  have : ∀ c, c < 128 → (match Unicode.upperOf c with | [u] => decide (u < 128) | _ => false) = true := by decide +kernel
  intro c hc
  have := this c hc
  split at this
  · rename_i u e
    exact ⟨u, of_decide_eq_true this, e⟩
  · cases this
def asc (s : Str) : Bool := s.cps.toList.all fun c => decide (c < 128)
theorem upper_asc {x : Str} (h : asc x = true) : asc (Txt.upper x) = true ∧ (Txt.upper x).length = x.length := by
  have go : ∀ l : List Nat, l.all (fun c => decide (c < 128)) = true → (l.flatMap Unicode.upperOf).all (fun c => decide (c < 128)) = true ∧ (l.flatMap Unicode.upperOf).length = l.length := by
    intro l
    induction l with
    | nil => intro _; exact ⟨rfl, rfl⟩
    | cons c l ih =>
      intro h
      simp only [List.all_cons, Bool.and_eq_true, decide_eq_true_eq] at h
      obtain ⟨u, hu, e⟩ := upper_one c h.1
      obtain ⟨a, b⟩ := ih h.2
      rw [List.flatMap_cons, e]
      refine ⟨?_, ?_⟩
      · simp only [List.singleton_append, List.all_cons, Bool.and_eq_true, decide_eq_true_eq]
        exact ⟨hu, a⟩
      · simp only [List.singleton_append, List.length_cons, b]
  obtain ⟨a, b⟩ := go x.cps.toList h
  rw [← upper_list] at a b
  exact ⟨a, by show (Txt.upper x).cps.size = x.cps.size; simpa using b⟩
theorem asc_ok {s : Str} (h : asc s = true) : okStr s = true := by
  unfold asc at h
  unfold okStr
  rw [List.all_eq_true] at *
  intro c hc
  have := of_decide_eq_true (h c hc)
  exact decide_eq_true (by omega)
theorem asc_app {x y : Str} (h : asc x = true) (k : asc y = true) : asc (x ++ y) = true := by
  unfold asc at *
  rw [show (x ++ y).cps.toList = x.cps.toList ++ y.cps.toList from Array.toList_append, List.all_append, h, k, Bool.and_self]
theorem asc_cut {x : Str} {a b : Option Int} (h : asc x = true) : asc (L2.cutS x a b) = true := by
  unfold asc at *
  rw [List.all_eq_true] at *
  intro c hc
  exact h c (List.mem_of_mem_drop (List.mem_of_mem_take (show c ∈ List.take _ (List.drop _ x.cps.toList) from hc)))
/-- may be shown -/
def Shw (d : D) : Prop := fit 50 d = true ∧ wt 50 d ≤ line
theorem v_repr' {d : D} {Q : RV → Prop} (h : Shw d) (q : Q (.val (.str (showD d)))) : biW .repr [some d] Q := by
  obtain ⟨a, b, c, e⟩ := fit_ok 50 d h.1
  exact ⟨a, b, by omega, Nat.le_trans e h.2, q⟩
theorem sm_fit {i : Int} (h : Sm 1919 i) : decide (i.natAbs.log2 < 1920) = true := decide_eq_true (Nat.lt_of_le_of_lt (sm_log h) (by decide))
theorem fit_int {n : Nat} {i : Int} (h1 : -18446744073709551616 < i) (h2 : i < 18446744073709551616) : fit n (.int i) = true := by
  have h : Sm 64 i := sm_of 64 (by simpa using h1) (by simpa using h2)
  have : decide (i.natAbs.log2 < 1920) = true := decide_eq_true (Nat.lt_of_le_of_lt (sm_log h) (by decide))
  cases n <;> exact this
theorem shw_int {i : Int} (h1 : -18446744073709551616 < i) (h2 : i < 18446744073709551616) : Shw (.int i) := ⟨fit_int h1 h2, by
    show i.natAbs.log2 + 2 ≤ line
    have h : Sm 64 i := sm_of 64 (by simpa using h1) (by simpa using h2)
    have := sm_log h
    unfold line
    omega⟩
theorem shw_non : Shw .non := ⟨rfl, by decide⟩
theorem shw_bl {b : Bool} : Shw (.bl b) := ⟨rfl, by show 5 ≤ line; decide⟩
theorem eq_ss {a b : Str} : eqD (.str a) (.str b) = decide (a = b) := rfl
theorem eq_ii {a b : Int} : eqD (.int a) (.int b) = decide (a = b) := rfl
/-- may be compared, when it may be shown -/
theorem flat_ss {n : Nat} {s : Str} : flat n (.str s) = true := by cases n <;> rfl
theorem flat_ii {n : Nat} {s : Int} : flat n (.int s) = true := by cases n <;> rfl
theorem flat_bb {n : Nat} {s : Bool} : flat n (.bl s) = true := by cases n <;> rfl
theorem flat_nn {n : Nat} : flat n .non = true := by cases n <;> rfl
theorem flat_tt {n : Nat} {xs : List D} (h : ∀ x ∈ xs, flat n x = true) : flat (n + 1) (.tup xs) = true := by simp only [flat]; exact List.all_eq_true.mpr h
theorem flat_ll {n : Nat} {xs : List D} (h : ∀ x ∈ xs, flat n x = true) : flat (n + 1) (.lst xs) = true := by simp only [flat]; exact List.all_eq_true.mpr h
/-! loops with a count; loops that may return -/
theorem for_at' {turn : D → G.Env → (G.Env → Prop) → Prop} {Q : G.Env → Prop} (I : Nat → G.Env → Prop) {all : List D} (t : ∀ i d env R, all[i]? = some d → I i env → (∀ env', I (i + 1) env' → R env') → turn d env R) (q : ∀ env, I all.length env → Q env) :
    ∀ (ds : List D) (env : G.Env) (i : Nat), all.drop i = ds → i ≤ all.length → I i env → forW turn Q ds env
  | [], env, i, e, hl, h => q env (by
    have : all.length ≤ i := by rw [List.drop_eq_nil_iff] at e; exact e
    rw [show all.length = i by omega]; exact h)
  | d :: ds, env, i, e, hl, h => by
    have hg : all[i]? = some d := by
      have : (all.drop i)[0]? = some d := by rw [e]; rfl
      rw [List.getElem?_drop] at this
      exact this
    have hi := (List.getElem?_eq_some_iff.mp hg).1
    have e2 : all.drop (i + 1) = ds := by rw [← List.drop_drop, e]; rfl
    exact t i d env _ hg h fun env' h' => for_at' I t q ds env' (i + 1) e2 hi h'
/-- a loop, its turns counted -/
theorem for_at {turn : D → G.Env → (G.Env → Prop) → Prop} {Q : G.Env → Prop} (I : Nat → G.Env → Prop) {ds : List D} {env : G.Env} (h : I 0 env) (t : ∀ i d env R, ds[i]? = some d → I i env → (∀ env', I (i + 1) env' → R env') → turn d env R) (q : ∀ env, I ds.length env → Q env) : forW turn Q ds env := for_at' I t q ds env 0 rfl (Nat.zero_le _) h
theorem rng_at {lo hi : Int} {i : Nat} {d : D} (h : (rngD lo hi)[i]? = some d) : d = .int (lo + i) ∧ lo + i < hi ∧ i < (hi - lo).toNat := by
  have hi := (List.getElem?_eq_some_iff.mp h).1
  unfold rngD at h hi
  rw [List.length_map, List.length_range] at hi
  rw [List.getElem?_map, List.getElem?_range hi] at h
  cases h
  exact ⟨rfl, by omega, hi⟩
theorem for_find {turn : D → G.Env → (G.Env → Prop) → Prop} {Q : G.Env → Prop} (I : G.Env → Prop) (g : D → Option D) (P : D → Prop) : ∀ {ds : List D} {env : G.Env}, I env →
    (∀ d ∈ ds, ∀ env R, I env → (∀ r, g d = some r → P r) → (g d = none → ∀ env', I env' → R env') → turn d env R) → (∀ r, ds.findSome? g = some r → P r) → (ds.findSome? g = none → ∀ env, I env → Q env) → forW turn Q ds env
  | [], env, h, _, _, q => q rfl env h
  | d :: ds, env, h, t, p, q => by
    refine t d (List.mem_cons_self ..) env _ h (fun r e => p r (by rw [List.findSome?_cons, e])) fun e env' h' => ?_
    refine for_find I g P h' (fun d hd => t d (List.mem_cons_of_mem _ hd)) (fun r e' => p r (by rw [List.findSome?_cons, e]; exact e')) fun e' => q (by rw [List.findSome?_cons, e]; exact e')
theorem rng_cnt {lo hi : Int} : (rngD lo hi).length = (hi - lo).toNat := by simp [rngD]
theorem all_f {α : Type} {xs : List α} {f : α → Bool} {Q : RV → Prop} (h : Q (.val (.bl (xs.all f)))) : biW .all [some (.lst (xs.map fun x => .bl (f x)))] Q := by
  refine ⟨xs.map f, by rw [List.map_map]; rfl, ?_⟩
  rw [List.all_map]
  exact h
theorem any_f {α : Type} {xs : List α} {f : α → Bool} {Q : RV → Prop} (h : Q (.val (.bl (xs.any f)))) : biW .any [some (.lst (xs.map fun x => .bl (f x)))] Q := by
  refine ⟨xs.map f, by rw [List.map_map]; rfl, ?_⟩
  rw [List.any_map]
  exact h
theorem cut_drop {xs : List D} {k : Nat} (h : k ≤ xs.length) : cutD xs (some (k : Int)) none = xs.drop k := by
  have e : HT.sIx xs.length 0 (some (k : Int)) = k := by rw [HT.sIx_nat]; omega
  unfold cutD
  rw [e]
  show (xs.drop k).take (xs.length - k) = _
  rw [List.take_of_length_le (by rw [List.length_drop]; omega)]
theorem cut_tail {xs : List D} (h : 1 ≤ xs.length) : cutD xs (some 1) none = xs.tail := by
  rw [show (1 : Int) = ((1 : Nat) : Int) from rfl, cut_drop h, List.drop_one]
theorem cut_take {xs : List D} {k : Nat} (h : k ≤ xs.length) : cutD xs none (some (k : Int)) = xs.take k := by
  have e : HT.sIx xs.length xs.length (some (k : Int)) = k := by rw [HT.sIx_nat]; omega
  unfold cutD
  rw [e]
  show (xs.drop 0).take (k - 0) = _
  rw [List.drop_zero, Nat.sub_zero]
end G
namespace Q
open PySem PySem.Spec L2 G
/- 0 _law_cell_at -/
def b0 : List S := [.ite (.cmp .Lt (.ref 1) (.bi .len [(.ref 0)])) [.ret (.sub (.ref 0) (.ref 1))] [], .ret (.con (.int 0))]
def d0 : FD := ⟨2, 2, b0⟩
/- 1 _law_state -/
def b1 : List S := [.asg 2 (.call 0 [(.ref 0), (.ref 1)] [.inl 0, .inl 1]), .ite (.cmp .GtE (.ref 2) (.bin .Pow (.con (.int 10)) (.con (.int 18)))) [.ret (.lst [(.bin .Sub (.ref 2) (.bin .Pow (.con (.int 10)) (.con (.int 18)))), (.bin .Add (.bin .Mod (.ref 2) (.con (.int 2147483629))) (.con (.int 1)))])] [], .ret (.lst [(.con (.int 0)), (.bin .Add (.bin .Mod (.ref 2) (.con (.int 2147483647))) (.con (.int 1)))])]
def d1 : FD := ⟨2, 3, b1⟩
/- 2 _law_take -/
def b2 : List S := [.ite (.cmp .Gt (.sub (.ref 0) (.con (.int 0))) (.con (.int 0))) [.asg 2 (.bin .Mod (.sub (.ref 0) (.con (.int 0))) (.ref 1)), .put 0 (.con (.int 0)) (.bin .FloorDiv (.sub (.ref 0) (.con (.int 0))) (.ref 1)), .ret (.var 2)] [], .put 0 (.con (.int 1)) (.bin .Mod (.bin .Add (.bin .Mult (.sub (.ref 0) (.con (.int 1))) (.con (.int 48271))) (.con (.int 29))) (.con (.int 2147483647))), .asg 3 (.bin .Mod (.bin .Add (.bin .Add (.bin .Mult (.sub (.ref 0) (.con (.int 1))) (.sub (.ref 0) (.con (.int 1)))) (.bin .Mult (.con (.int 39373)) (.sub (.ref 0) (.con (.int 1))))) (.con (.int 7))) (.con (.int 2147483629))), .asg 3 (.bin .Mod (.bin .Add (.bin .Add (.bin .Mult (.ref 3) (.ref 3)) (.bin .Mult (.con (.int 71993)) (.ref 3))) (.con (.int 19))) (.con (.int 2147483587))), .ret (.bin .Mod (.bin .FloorDiv (.ref 3) (.con (.int 8))) (.ref 1))]
def d2 : FD := ⟨2, 4, b2⟩
/- 3 _law_works -/
def b3 : List S := [.par [2, 3, 4] [(.lst []), (.call 2 [(.ref 0), (.con (.int 20))] [.inl 0, .inl 1]), (.sub (.lst [(.con (.int 1)), (.con (.int 4)), (.con (.int 15))]) (.call 2 [(.ref 0), (.con (.int 3))] [.inl 0, .inl 1]))], .for_ (.nm 5) (.rng [(.bin .Add (.con (.int 1)) (.call 2 [(.ref 0), (.ref 1)] [.inl 0, .inl 1]))]) [.asg 6 (.sub (.lst [(.con (.int 1)), (.con (.int 100)), (.bin .Add (.con (.int 1)) (.call 2 [(.ref 0), (.con (.int 10))] [.inl 0, .inl 1])), (.bin .Add (.con (.int 1)) (.call 2 [(.ref 0), (.con (.int 100))] [.inl 0, .inl 1]))]) (.call 2 [(.ref 0), (.con (.int 4))] [.inl 0, .inl 1])), .ex (.lm .append 2 [(.tup [(.var 3), (.var 6), (.cmp .Eq (.call 2 [(.ref 0), (.con (.int 5))] [.inl 0, .inl 1]) (.con (.int 0)))])]), .asg 3 (.bi .min2 [(.con (.int 200)), (.bin .Add (.ref 3) (.call 2 [(.ref 0), (.var 4)] [.inl 0, .inl 1]))])], .ret (.bi .tup [(.ref 2)])]
def d3 : FD := ⟨2, 7, b3⟩
/- 4 _law_whole -/
def b4 : List S := [.ret (.and (.isi (.ref 0) .int) (.not (.isi (.ref 0) .bool)))]
def d4 : FD := ⟨1, 1, b4⟩
/- 5 _law_rule -/
def b5 : List S := [.par [1, 2] [(.call 2 [(.ref 0), (.con (.int 6))] [.inl 0, .inl 1]), (.sub (.lst [(.con (.int 0)), (.con (.int 100)), (.call 2 [(.ref 0), (.con (.int 101))] [.inl 0, .inl 1]), (.call 2 [(.ref 0), (.con (.int 12))] [.inl 0, .inl 1])]) (.call 2 [(.ref 0), (.con (.int 4))] [.inl 0, .inl 1]))], .ret (.tup [(.var 1), (.var 2), (.sub (.lst [(.con (.str ("best" : Str))), (.con (.str ("last" : Str))), (.con (.str ("mean" : Str)))]) (.call 2 [(.ref 0), (.con (.int 3))] [.inl 0, .inl 1]))])]
def d5 : FD := ⟨1, 3, b5⟩
/- 6 is_whole -/
def b6 : List S := [.ret (.and (.isi (.ref 0) .int) (.not (.isi (.ref 0) .bool)))]
def d6 : FD := ⟨1, 1, b6⟩
/- 7 is_between -/
def b7 : List S := [.ret (.and (.call 6 [(.ref 0)] [.inl 0]) (.chn .LtE .LtE (.ref 1) (.ref 0) (.ref 2)))]
def d7 : FD := ⟨3, 3, b7⟩
/- 8 is_drop -/
def b8 : List S := [.ret (.call 7 [(.ref 0), (.con (.int 0)), (.con (.int 5))] [.inl 0, .inl 1, .inl 2])]
def d8 : FD := ⟨1, 1, b8⟩
/- 9 is_cut -/
def b9 : List S := [.ret (.call 7 [(.ref 0), (.con (.int 0)), (.con (.int 100))] [.inl 0, .inl 1, .inl 2])]
def d9 : FD := ⟨1, 1, b9⟩
/- 10 is_second -/
def b10 : List S := [.ret (.and (.isi (.ref 0) .str) (.cmp .In (.ref 0) (.con (.tup [(.str ("best" : Str)), (.str ("last" : Str)), (.str ("mean" : Str))]))))]
def d10 : FD := ⟨1, 1, b10⟩
/- 11 is_rule -/
def b11 : List S := [.ite (.or (.not (.tv (.isi (.ref 0) .str))) (.cmp .NotIn (.ref 0) (.con (.dct true [.inr ("drop" : Str), .inr ("cut" : Str), .inr ("second" : Str)] [(.fn 8), (.fn 9), (.fn 10)])))) [.ret (.con (.bl false))] [], .asg 2 (.sub (.con (.dct true [.inr ("drop" : Str), .inr ("cut" : Str), .inr ("second" : Str)] [(.fn 8), (.fn 9), (.fn 10)])) (.ref 0)), .ret (.cv 2 [8, 9, 10] [(.ref 1)])]
def d11 : FD := ⟨2, 3, b11⟩
/- 12 __init__ -/
def b12 : List S := [.for_ (.tp [(.nm 4), (.nm 5)]) (.it (.tup [(.tup [(.con (.str ("drop" : Str))), (.var 1)]), (.tup [(.con (.str ("cut" : Str))), (.var 2)]), (.tup [(.con (.str ("second" : Str))), (.var 3)])])) [.ite (.not (.tv (.call 11 [(.var 4), (.var 5)] [.inl 0, .inl 1]))) [.bad] []], .fput 0 0 (.var 1), .fput 0 1 (.var 2), .fput 0 2 (.var 3)]
def d12 : FD := ⟨4, 6, b12⟩
/- 13 _law_same -/
def b13 : List S := [.ret (.cmp .Eq (.bi .repr [(.ref 0)]) (.bi .repr [(.ref 1)]))]
def d13 : FD := ⟨2, 2, b13⟩
/- 17 _law_other -/
def b17 : List S := [.par [2, 3] [(.call 2 [(.ref 0), (.con (.int 4))] [.inl 0, .inl 1]), (.call 5 [(.ref 0)] [.inl 0])], .ite (.cmp .Eq (.ref 2) (.con (.int 3))) [.ret (.sub (.lst [(.var 1), (.var 3)]) (.call 2 [(.ref 0), (.con (.int 2))] [.inl 0, .inl 1]))] [], .ret (.bin .Add (.bin .Add (.slc (.ref 1) .no (.at (.ref 2))) (.tup [(.sub (.ref 3) (.ref 2))])) (.slc (.ref 1) (.at (.bin .Add (.ref 2) (.con (.int 1)))) .no))]
def d17 : FD := ⟨2, 4, b17⟩
/- 18 _law_made -/
def b18 : List S := [.ret (.make 0 12 [(.sub (.ref 0) (.con (.int 0))), (.sub (.ref 0) (.con (.int 1))), (.sub (.ref 0) (.con (.int 2)))] [.inl 0, .inl 1, .inl 2])]
def d18 : FD := ⟨1, 1, b18⟩
/- 31 cut_by -/
def b31 : List S := [.ret (.bi .max2 [(.con (.int 0)), (.bin .Sub (.ref 0) (.bin .FloorDiv (.bin .Mult (.bin .Mult (.ref 0) (.ref 2)) (.ref 1)) (.con (.int 100))))])]
def d31 : FD := ⟨3, 3, b31⟩
/- 36 _law_try -/
def b36 : List S := [.asg 2 (.sub (.lst [(.con (.int 0)), (.sub (.ref 1) (.con (.int 1))), (.call 2 [(.ref 0), (.bin .Add (.sub (.ref 1) (.con (.int 1))) (.con (.int 1)))] [.inl 0, .inl 1])]) (.call 2 [(.ref 0), (.con (.int 3))] [.inl 0, .inl 1])), .asg 3 (.sub (.lst [(.con (.int 0)), (.call 2 [(.ref 0), (.con (.int 4))] [.inl 0, .inl 1]), (.call 2 [(.ref 0), (.con (.int 25))] [.inl 0, .inl 1]), (.call 2 [(.ref 0), (.con (.int 201))] [.inl 0, .inl 1])]) (.call 2 [(.ref 0), (.con (.int 4))] [.inl 0, .inl 1])), .ret (.tup [(.var 2), (.sub (.lst [(.bi .min2 [(.con (.int 200)), (.bin .Add (.sub (.ref 1) (.con (.int 0))) (.ref 3))]), (.var 3)]) (.bi .int [(.cmp .Eq (.call 2 [(.ref 0), (.con (.int 5))] [.inl 0, .inl 1]) (.con (.int 0)))]))])]
def d36 : FD := ⟨2, 4, b36⟩
/- 45 is_day -/
def b45 : List S := [.ret (.call 7 [(.ref 0), (.con (.int 0)), (.con (.int 200))] [.inl 0, .inl 1, .inl 2])]
def d45 : FD := ⟨1, 1, b45⟩
/- 46 is_work -/
def b46 : List S := [.ite (.or (.not (.tv (.isi (.ref 0) .tup))) (.or (.cmp .NotEq (.bi .len [(.ref 0)]) (.con (.int 3))) (.not (.tv (.call 45 [(.sub (.ref 0) (.con (.int 0)))] [.inl 0]))))) [.ret (.con (.bl false))] [], .ret (.and (.call 7 [(.sub (.ref 0) (.con (.int 1))), (.con (.int 1)), (.con (.int 100))] [.inl 0, .inl 1, .inl 2]) (.isi (.sub (.ref 0) (.con (.int 2))) .bool))]
def d46 : FD := ⟨1, 1, b46⟩
/- 47 are_works -/
def b47 : List S := [.ite (.or (.not (.tv (.isi (.ref 0) .tup))) (.or (.not (.chn .LtE .LtE (.con (.int 1)) (.bi .len [(.ref 0)]) (.con (.int 12)))) (.not (.tv (.bi .all [(.lc (.call 46 [(.var 1)] [.inl 0]) (.nm 1) (.it (.var 0)) .yes [1])]))))) [.ret (.con (.bl false))] [], .ret (.bi .all [(.lc (.cmp .LtE (.sub (.ref 1) (.con (.int 0))) (.sub (.ref 2) (.con (.int 0)))) (.tp [(.nm 1), (.nm 2)]) (.zip [(.var 0), (.slc (.ref 0) (.at (.con (.int 1))) .no)]) .yes [1, 2])])]
def d47 : FD := ⟨1, 3, b47⟩
/- 49 need_rules -/
def b49 : List S := [.ite (.not (.tv (.isi (.ref 0) (.cls 0)))) [.bad] []]
def d49 : FD := ⟨1, 1, b49⟩
/- 50 is_try -/
def b50 : List S := [.ite (.or (.not (.tv (.isi (.ref 1) .tup))) (.cmp .NotEq (.bi .len [(.ref 1)]) (.con (.int 2)))) [.ret (.con (.bl false))] [], .ret (.and (.call 7 [(.sub (.ref 1) (.con (.int 0))), (.con (.int 0)), (.sub (.ref 0) (.con (.int 1)))] [.inl 0, .inl 1, .inl 2]) (.call 45 [(.sub (.ref 1) (.con (.int 1)))] [.inl 0]))]
def d50 : FD := ⟨2, 2, b50⟩
/- 51 is_result_of -/
def b51 : List S := [.ite (.cmp .Is (.ref 1) (.con .non)) [.ret (.con (.bl true))] [], .ite (.tv (.isi (.ref 1) .str)) [.ret (.cmp .Eq (.ref 1) (.con (.str ("excused" : Str))))] [], .ite (.or (.not (.tv (.isi (.ref 1) .tup))) (.not (.chn .LtE .LtE (.con (.int 1)) (.bi .len [(.ref 1)]) (.con (.int 3))))) [.ret (.con (.bl false))] [], .ite (.not (.tv (.bi .all [(.lc (.call 50 [(.ref 0), (.var 2)] [.inl 0, .inl 1]) (.nm 2) (.it (.var 1)) .yes [2])]))) [.ret (.con (.bl false))] [], .ret (.bi .all [(.lc (.cmp .LtE (.sub (.ref 2) (.con (.int 1))) (.sub (.ref 3) (.con (.int 1)))) (.tp [(.nm 2), (.nm 3)]) (.zip [(.var 1), (.slc (.ref 1) (.at (.con (.int 1))) .no)]) .yes [2, 3])])]
def d51 : FD := ⟨2, 4, b51⟩
/- 65 best_of -/
def b65 : List S := [.ret (.bi .max1 [(.ref 0)])]
def d65 : FD := ⟨1, 1, b65⟩
/- 66 last_of -/
def b66 : List S := [.ret (.sub (.ref 0) (.neg (.con (.int 1))))]
def d66 : FD := ⟨1, 1, b66⟩
/- 67 mean_of -/
def b67 : List S := [.ret (.bin .FloorDiv (.bi .sum [(.ref 0)]) (.bi .len [(.ref 0)]))]
def d67 : FD := ⟨1, 1, b67⟩
/- 68 score_by -/
def b68 : List S := [.ite (.cmp .Is (.ref 2) (.con .non)) [.ret (.con (.int 0))] [], .ite (.tv (.isi (.ref 2) .str)) [.ret (.con .non)] [], .asg 3 (.sub (.con (.dct true [.inr ("best" : Str), .inr ("last" : Str), .inr ("mean" : Str)] [(.fn 65), (.fn 66), (.fn 67)])) (.fld (.ref 1) 2)), .ret (.cv 3 [65, 66, 67] [(.lc (.call 31 [(.var 4), (.bi .max2 [(.con (.int 0)), (.bin .Sub (.ref 5) (.sub (.ref 0) (.con (.int 0))))]), (.fld (.ref 1) 1)] [.inl 0, .inl 1, .inl 2]) (.tp [(.nm 4), (.nm 5)]) (.it (.var 2)) .yes [4, 5])])]
def d68 : FD := ⟨3, 6, b68⟩
/- 96 _law_odd -/
def b96 : List S := [.asg 1 (.lst [(.con .non), (.con (.bl true)), (.con (.bl false)), (.con (.int 0)), (.con (.int 1)), (.neg (.con (.int 1))), (.bin .Pow (.con (.int 10)) (.con (.int 29))), (.con (.str ("" : Str))), (.con (.str ("ann" : Str))), (.con (.str ("excused" : Str))), (.con (.str ("best" : Str))), (.tup []), (.lst []), (.dsp [] []), (.tup [(.con (.int 0))]), (.lst [(.con (.int 0))]), (.tup [(.con .non)]), (.tup [(.tup [])])]), .ret (.sub (.bin .Add (.ref 1) (.lst [(.con (.str ("drop" : Str))), (.dsp [.inl 0] [(.int 1)])])) (.call 2 [(.ref 0), (.con (.int 20))] [.inl 0, .inl 1]))]
def d96 : FD := ⟨1, 2, b96⟩
/- 97 _law_spoilt -/
def b97 : List S := [.ite (.and (.tv (.call 4 [(.ref 1)] [.inl 0])) (.cmp .Gt (.call 2 [(.ref 0), (.con (.int 4))] [.inl 0, .inl 1]) (.con (.int 0)))) [.ret (.bin .Add (.ref 1) (.sub (.lst [(.con (.int 1)), (.neg (.con (.int 1))), (.con (.int 5)), (.neg (.con (.int 5))), (.con (.int 100)), (.con (.int 201))]) (.call 2 [(.ref 0), (.con (.int 6))] [.inl 0, .inl 1])))] [], .ite (.and (.tv (.isi (.ref 1) .str)) (.cmp .Gt (.call 2 [(.ref 0), (.con (.int 3))] [.inl 0, .inl 1]) (.con (.int 0)))) [.ret (.sub (.lst [(.bin .Add (.ref 1) (.con (.str ("a" : Str)))), (.slc (.ref 1) .no (.at (.neg (.con (.int 1))))), (.bm .upper (.ref 1) []), (.con (.str ("bo" : Str))), (.con (.str ("A1" : Str))), (.bin .Add (.ref 1) (.con (.str (" " : Str))))]) (.call 2 [(.ref 0), (.con (.int 6))] [.inl 0, .inl 1]))] [], .ite (.or (.not (.tv (.isi (.ref 1) .tup))) (.or (.cmp .Eq (.ref 1) (.tup [])) (.cmp .Eq (.ref 2) (.con (.int 0))))) [.ret (.call 96 [(.ref 0)] [.inl 0])] [], .par [3, 4, 5] [(.call 2 [(.ref 0), (.bi .len [(.ref 1)])] [.inl 0, .inl 1]), (.call 2 [(.ref 0), (.con (.int 10))] [.inl 0, .inl 1]), (.bi .lst [(.ref 1)])], .ite (.cmp .Eq (.ref 4) (.con (.int 0))) [.ex (.lm .insert 5 [(.var 3), (.call 96 [(.ref 0)] [.inl 0])])] [.ite (.cmp .Eq (.ref 4) (.con (.int 1))) [.ex (.lm .popAt 5 [(.var 3)])] [.ite (.cmp .Eq (.ref 4) (.con (.int 2))) [.ex (.lm .insert 5 [(.var 3), (.sub (.ref 5) (.ref 3))])] [.ite (.cmp .Eq (.ref 4) (.con (.int 3))) [.ret (.var 5)] [.ite (.cmp .Eq (.ref 4) (.con (.int 4))) [.ex (.lm .append 5 [(.lm .popAt 5 [(.var 3)])])] [.put 5 (.ref 3) (.call 97 [(.ref 0), (.sub (.ref 5) (.ref 3)), (.bin .Sub (.ref 2) (.con (.int 1)))] [.inl 0, .inl 1, .inl 2])]]]]], .ret (.bi .tup [(.ref 5)])]
def d97 : FD := ⟨3, 6, b97⟩
/- 103 _law_text -/
def b103 : List S := [.asg 1 (.bin .Add (.bin .Add (.bin .Add (.con (.str ("Rules(drop=" : Str))) (.bi .str [(.sub (.ref 0) (.con (.int 0)))])) (.con (.str (", cut=" : Str)))) (.bi .str [(.sub (.ref 0) (.con (.int 1)))])), .ret (.bin .Add (.bin .Add (.bin .Add (.ref 1) (.con (.str (", second=" : Str)))) (.sub (.ref 0) (.con (.int 2)))) (.con (.str (")" : Str))))]
def d103 : FD := ⟨1, 2, b103⟩
/- 121 need_work -/
def b121 : List S := [.ite (.not (.tv (.call 46 [(.ref 0)] [.inl 0]))) [.bad] []]
def d121 : FD := ⟨1, 1, b121⟩
/- 122 score -/
def b122 : List S := [.ex (.call 121 [(.ref 0)] [.inl 0]), .ex (.call 49 [(.ref 1)] [.inl 0]), .ite (.not (.tv (.call 51 [(.ref 0), (.ref 2)] [.inl 0, .inl 1]))) [.bad] [], .ret (.call 68 [(.ref 0), (.ref 1), (.ref 2)] [.inl 0, .inl 1, .inl 2])]
def d122 : FD := ⟨3, 3, b122⟩
/- 165 __repr__ -/
def b165 : List S := [.ret (.fst [(.con (.str ("Rules(drop=" : Str))), (.fld (.ref 0) 0), (.con (.str (", cut=" : Str))), (.fld (.ref 0) 1), (.con (.str (", second=" : Str))), (.fld (.ref 0) 2), (.con (.str (")" : Str)))])]
def d165 : FD := ⟨1, 1, b165⟩
/- 198 _law_same -/
def b198 : List S := [.ret (.cmp .Eq (.hot (.nst 0 165) (.ref 0)) (.hot (.nst 0 165) (.ref 1)))]
def d198 : FD := ⟨2, 2, b198⟩
/- 201 __eq__ -/
def b201 : List S := [.ite (.not (.tv (.isi (.ref 1) (.cls 0)))) [.ret (.con (.bl false))] [], .ret (.cmp .Eq (.tup [(.fld (.ref 0) 0), (.fld (.ref 0) 1), (.fld (.ref 0) 2)]) (.tup [(.fld (.ref 1) 0), (.fld (.ref 1) 1), (.fld (.ref 1) 2)]))]
def d201 : FD := ⟨2, 2, b201⟩
/- 202 law -/
def b202 : List S := [.for_ (.nm 1) (.rng [(.bi .max2 [(.con (.int 1)), (.bi .min2 [(.bi .len [(.ref 0)]), (.con (.int 6))])])]) [.asg 2 (.call 1 [(.ref 0), (.var 1)] [.inl 0, .inl 1]), .for_ (.nm 3) (.rng [(.con (.int 5))]) [.asg 4 (.call 5 [(.ref 2)] [.inl 0]), .asg 5 (.call 17 [(.ref 2), (.var 4)] [.inl 0, .inl 1]), .par [6, 7] [(.call 18 [(.var 4)] [.inl 0]), (.call 18 [(.var 5)] [.inl 0])], .asg 8 (.bin .Add (.bin .Mult (.lst [(.cmp .Eq (.ref 4) (.ref 5))]) (.con (.int 2))) (.lst [(.cmp .NotEq (.ref 4) (.ref 5)), (.con (.bl true))])), .ite (.not (.tv (.call 13 [(.lst [(.own false 0 201 (.var 6) (.var 7)), (.own false 0 201 (.var 7) (.var 6)), (.own true 0 201 (.var 6) (.var 7)), (.own false 0 201 (.var 6) (.var 6))]), (.var 8)] [.inl 0, .inl 1]))) [.ret (.con (.bl false))] [], .for_ (.nm 9) (.it (.lst [(.var 4), (.bi .lst [(.ref 4)]), (.spc .repr 0 165 (.ref 6)), (.call 96 [(.ref 2)] [.inl 0]), (.con .non)])) [.ite (.not (.tv (.call 13 [(.lst [(.own false 0 201 (.var 6) (.var 9)), (.own false 0 201 (.var 9) (.var 6)), (.own true 0 201 (.var 6) (.var 9))]), (.lst [(.con (.bl false)), (.con (.bl false)), (.con (.bl true))])] [.inl 0, .inl 1]))) [.ret (.con (.bl false))] []], .asg 8 (.bin .Add (.bin .Add (.bin .Add (.bin .Add (.con (.str ("(" : Str))) (.call 103 [(.var 4)] [.inl 0])) (.con (.str (", " : Str)))) (.call 103 [(.var 5)] [.inl 0])) (.con (.str (")" : Str)))), .ite (.or (.cmp .NotEq (.spc .repr 0 165 (.ref 6)) (.call 103 [(.var 4)] [.inl 0])) (.cmp .NotEq (.hot (.nst 0 165) (.tup [(.var 6), (.var 7)])) (.ref 8))) [.ret (.con (.bl false))] []]], .ret (.con (.bl true))]
def d202 : FD := ⟨1, 10, b202⟩
def tx : Text := ⟨[(0, d0), (1, d1), (2, d2), (5, d5), (6, d6), (7, d7), (8, d8), (9, d9), (10, d10), (11, d11), (12, d12), (13, d13), (17, d17), (18, d18), (96, d96), (103, d103), (165, d165), (201, d201), (202, d202)]⟩
local macro_rules | `(tactic| walk_at "ev") => `(tactic| try simp (maxSteps := 2000000) -implicitDefEqProofs only [lm_v, m_var, m_con, m_bin, m_neg, m_cmp, m_chn, m_and, m_or, m_not, m_ite, m_tup, m_lst, m_sub, m_slc, m_rev, m_no, m_at, m_call, m_make, m_meth, m_cv, m_bm, m_dsp, m_fst, m_f0, m_f1, m_bi, m_srk, m_xb, m_own, m_spc, m_said, m_nst, m_isx, m_xf, m_hc, m_town, m_isi, m_fld, m_lm, m_os0, m_os1, m_it, m_rng, m_enm, m_zip, m_rvd, m_yes, m_tv, m_tand, m_tor, m_tnot, m_tcmp, m_tchn, p_ref, p_var, p_con, p_bin, p_neg, p_cmp, p_chn, p_and, p_or, p_not, p_ite, p_tup, p_lst, p_sub, p_slc, p_rev, p_call, p_make, p_meth, p_cv, p_bm, p_dsp, p_fst, p_bi, p_xb, p_own, p_spc, p_hot, p_srk, p_isi, p_fld, p_lm, p_lc, v_add, v_sub, v_mul, v_div, v_mod, v_pow, v_adds, v_addl, v_addt, v_plt, v_plte, v_pgt, v_pgte, v_isb, v_notb, v_lt, v_le, v_gt, v_ge, v_eq, v_ne, v_eqs, v_nes, v_tup0, v_tup0n, v_lst0, v_lst0n, v_is, v_isn, v_int, v_bl, v_ri, v_rs, v_rt, v_rl, v_rn, v_mk, v_ins, v_fn, v_bmj, v_bms, v_bmp, v_bmu, f0_0, f0_1, f0_2, f1_3, f1_4, f2_5, f2_6, f2_7, f2_0, f3_5, f3_8, f3_9, v_fsts, v_lmo, v_lmb, v_app, v_insr, v_ext, v_subl, v_subt, v_subs, v_at, at0, at1, at2, at3, at4, v_ds0, v_ds1, v_trub, v_trui, v_trul, v_trut, v_trun, v_itl, v_itt, v_vs, ty_i, ty_b, ty_s, ty_n, ty_t, ty_l, ty_k, ty_d, v_subd, v_subx, v_mulL, v_mult, v_ind, v_nind, v_slcl, v_slct, v_slcs, v_revl, v_revt, v_up, v_enmT, v_enm, v_zip3l, v_zip3t, v_zipl, v_zipt, v_rvd, v_strs, v_lrng, v_trng, v_sum2, v_min0, v_srk1, v_lsl, v_lst, v_tpl, v_tpt, v_inti, v_intb, v_lenx, v_max, v_min, v_len, v_lent, v_lens, v_repr, v_rng1, v_rng2, for_inv, q_put, pb0, pb1, pb2, po0, po1, po2, v_putD, q_asg, q_puts, q_ex, q_retn, q_pass, q_raise, q_brk, q_cnt, q_par, q_asgT, q_rs0, q_rs1, q_fput, v_fpb, v_fpo, v_eW, fo_00, fo_01, fo_02, fo_13, fo_14, fo_25, fo_26, fo_27, fo_20, fo_35, fo_38, fo_39, fo_3a, t_n, t_2, t_3, for_0, for_1, id_1, id_2, d_1, d_2, d_3, r_var, r_con, r_bin, r_neg, r_cmp, r_chn, r_and, r_or, r_not, r_ite, r_tup, r_lst, r_sub, r_slc, r_rev, r_call, r_make, r_meth, r_cv, r_bm, r_dsp, r_fst, r_bi, r_xb, r_own, r_spc, r_hot, r_srk, r_isi, r_fld, r_lm, r_lc, v_hx, v_le0, v_le1, v_le2, v_le3, v_le4, v_le5, v_ow0, v_ow1, v_ow2, v_ow3, v_ow4, v_ow5, v_told1, v_told2, set_s, set_n, set_v, set_o, set_vO, set_oO, v_bv, v_bo, v_td1, v_td2, v_td3, v_td4, v_td5, v_td6, v_td7, v_te1, v_te2, back_0, back_1, decide_true, decide_false, res, Option.getD_some, EV.put, Bool.false_eq_true, Bool.not_true, Bool.not_false, if_true, if_false, List.set_cons_zero, List.set_cons_succ, List.getElem?_cons_zero, List.getElem?_cons_succ, List.map_cons, List.map_nil, bindS, handed, lent, Option.map_some, List.nodup_cons, List.nodup_nil, List.not_mem_nil, not_false_eq_true, and_self, true_and, and_true, tyD, G.isNon, wipeE, unwipe, noOwn, setAll, List.tail_cons, bmTy, G.bors, beq_self_eq_true, Bool.and_self, Bool.and_true, Bool.true_and])
local macro_rules | `(tactic| walk_at "ev2") => `(tactic| try simp (maxSteps := 2000000) -implicitDefEqProofs only [lm_v, m_var, m_con, m_bin, m_neg, m_cmp, m_chn, m_and, m_or, m_not, m_ite, m_tup, m_lst, m_sub, m_slc, m_rev, m_no, m_at, m_call, m_make, m_meth, m_cv, m_bm, m_dsp, m_fst, m_f0, m_f1, m_bi, m_srk, m_xb, m_own, m_spc, m_said, m_nst, m_isx, m_xf, m_hc, m_town, m_isi, m_fld, m_lm, m_os0, m_os1, m_it, m_rng, m_enm, m_zip, m_rvd, m_yes, m_tv, m_tand, m_tor, m_tnot, m_tcmp, m_tchn, p_ref, p_var, p_con, p_bin, p_neg, p_cmp, p_chn, p_and, p_or, p_not, p_ite, p_tup, p_lst, p_sub, p_slc, p_rev, p_call, p_make, p_meth, p_cv, p_bm, p_dsp, p_fst, p_bi, p_xb, p_own, p_spc, p_hot, p_srk, p_isi, p_fld, p_lm, p_lc, v_add, v_sub, v_mul, v_div, v_mod, v_pow, v_adds, v_addl, v_addt, v_plt, v_plte, v_pgt, v_pgte, v_isb, v_notb, v_lt, v_le, v_gt, v_ge, v_eq, v_ne, v_eqs, v_nes, v_tup0, v_tup0n, v_lst0, v_lst0n, v_is, v_isn, v_int, v_bl, v_ri, v_rs, v_rt, v_rl, v_rn, v_mk, v_ins, v_fn, v_bmj, v_bms, v_bmp, v_bmu, f0_0, f0_1, f0_2, f1_3, f1_4, f2_5, f2_6, f2_7, f2_0, f3_5, f3_8, f3_9, v_fsts, v_lmo, v_lmb, v_app, v_insr, v_ext, v_subl, v_subt, v_subs, v_at, at0, at1, at2, at3, at4, v_ds0, v_ds1, v_trub, v_trui, v_trul, v_trut, v_trun, v_itl, v_itt, v_vs, ty_i, ty_b, ty_s, ty_n, ty_t, ty_l, ty_k, ty_d, v_subd, v_subx, v_mulL, v_mult, v_ind, v_nind, v_slcl, v_slct, v_slcs, v_revl, v_revt, v_up, v_enmT, v_enm, v_zip3l, v_zip3t, v_zipl, v_zipt, v_rvd, v_strs, v_lrng, v_trng, v_sum2, v_min0, v_srk1, v_lsl, v_lst, v_tpl, v_tpt, v_inti, v_intb, v_lenx, v_max, v_min, v_len, v_lent, v_lens, v_repr, v_rng1, v_rng2, for_inv, q_put, pb0, pb1, pb2, po0, po1, po2, v_putD, q_asg, q_puts, q_ex, q_retn, q_pass, q_raise, q_brk, q_cnt, q_par, q_asgT, q_rs0, q_rs1, q_fput, v_fpb, v_fpo, v_eW, fo_00, fo_01, fo_02, fo_13, fo_14, fo_25, fo_26, fo_27, fo_20, fo_35, fo_38, fo_39, fo_3a, t_n, t_2, t_3, for_0, for_1, id_1, id_2, d_1, d_2, d_3, r_var, r_con, r_bin, r_neg, r_cmp, r_chn, r_and, r_or, r_not, r_ite, r_tup, r_lst, r_sub, r_slc, r_rev, r_call, r_make, r_meth, r_cv, r_bm, r_dsp, r_fst, r_bi, r_xb, r_own, r_spc, r_hot, r_srk, r_isi, r_fld, r_lm, r_lc, v_hx, v_le0, v_le1, v_le2, v_le3, v_le4, v_le5, v_ow0, v_ow1, v_ow2, v_ow3, v_ow4, v_ow5, v_told1, v_told2, set_s, set_n, set_v, set_o, set_vO, set_oO, v_bv, v_bo, v_td1, v_td2, v_td3, v_td4, v_td5, v_td6, v_td7, v_te1, v_te2, back_0, back_1, decide_true, decide_false, res, Option.getD_some, EV.put, Bool.false_eq_true, Bool.not_true, Bool.not_false, if_true, if_false, List.set_cons_zero, List.set_cons_succ, List.getElem?_cons_zero, List.getElem?_cons_succ, List.map_cons, List.map_nil, bindS, handed, lent, Option.map_some, List.nodup_cons, List.nodup_nil, List.not_mem_nil, not_false_eq_true, and_self, true_and, and_true, tyD, G.isNon, wipeE, unwipe, noOwn, setAll, List.tail_cons, bmTy, G.bors, beq_self_eq_true, Bool.and_self, Bool.and_true, Bool.true_and, q_for, q_ite, q_ss0, q_ss1, v_for0, v_for1])
local macro_rules | `(tactic| walk_at "s") => `(tactic| (refine cutS (fun nx rt => by walk_at "ev"; exact rfl) ?_))
local macro_rules | `(tactic| walk_at "i") => `(tactic| (refine cutI (fun Q => by walk_at "ev"; exact rfl) ?_))
local macro_rules | `(tactic| walk_at "f") => `(tactic| (refine cutF (fun Q => by walk_at "ev"; exact rfl) ?_))
local macro_rules | `(tactic| walk_at "sm") => `(tactic| first | (exact sm64 (by omega) (by omega)) | (refine' sm_mul ?h ?k; (case h => walk_at "sm"); (case k => walk_at "sm")) | (refine' sm_add ?h ?k; (case h => walk_at "sm"); (case k => walk_at "sm")) | (refine' sm_sub ?h ?k; (case h => walk_at "sm"); (case k => walk_at "sm")) | (refine' sm_mod ?h (by omega); (case h => walk_at "sm")))
local macro_rules | `(tactic| walk_at "mul") => `(tactic| (refine' cmul ?h ?k ?l; (case h => walk_at "sm"); (case k => walk_at "sm"); (case l => decide)))
/-! base: whole numbers, rules, the same -/
class Wh (t : Text) : Prop where
  a6 : t.at 6 = some d6
  a7 : t.at 7 = some d7
class Ru (t : Text) : Prop where
  a8 : t.at 8 = some d8
  a9 : t.at 9 = some d9
  a10 : t.at 10 = some d10
  a11 : t.at 11 = some d11
  a12 : t.at 12 = some d12
class Sa (t : Text) : Prop where
  a13 : t.at 13 = some d13
section
variable {t : Text} {n : Nat} {Q : RV → List OV → Prop} {X : Exn → List OV → Prop}
def whole : D → Bool
  | .int _ => true
  | _ => false
def between : D → Int → Int → Bool
  | .int i, lo, hi => decide (lo ≤ i) && decide (i ≤ hi)
  | _, _, _ => false
theorem w6 [c : Wh t] {d : D} (hd : tyOk d = true) (h : Q (.val (.bl (whole d))) []) : W t (n + 1) 6 [.val d] Q X := by
  refine w_at (fd := d6) [some (.val d)] c.a6 rfl rfl ?_
  unfold d6 b6
  walk_at "s"
  rw [v_ty hd]
  cases d <;> first
    | exact absurd hd Bool.false_ne_true
    | (walk_at "ev"; exact h)
theorem w7 [c : Wh t] {d : D} {lo hi : Int} (hd : tyOk d = true) (h : Q (.val (.bl (between d lo hi))) []) : W t (n + 2) 7 [.val d, .val (.int lo), .val (.int hi)] Q X := by
  refine w_at (fd := d7) [some (.val d), some (.val (.int lo)), some (.val (.int hi))] c.a7 rfl rfl ?_
  unfold d7 b7
  walk_at "s"
  refine w6 hd ?_
  cases d with
  | int i =>
    simp only [whole]
    walk_at "ev"
    refine if_d (fun h1 => ?_) (fun h1 => ?_)
    · simpa [between, h1] using h
    · simpa [between, h1] using h
  | _ => simp only [whole]; walk_at "ev"; exact h
def second (s : Str) : Bool := decide ("best" = s) || (decide ("last" = s) || decide ("mean" = s))
def ruleV : Str → D → Bool
  | s, d => if s = "drop" then between d 0 5 else if s = "cut" then between d 0 100 else match d with
    | .str x => second x
    | _ => false
theorem w8 [Wh t] [c : Ru t] {d : D} (hd : tyOk d = true) (h : Q (.val (.bl (between d 0 5))) []) : W t (n + 3) 8 [.val d] Q X := by
  refine w_at (fd := d8) [some (.val d)] c.a8 rfl rfl ?_
  unfold d8 b8
  walk_at "s"
  exact w7 hd h
theorem w9 [Wh t] [c : Ru t] {d : D} (hd : tyOk d = true) (h : Q (.val (.bl (between d 0 100))) []) : W t (n + 3) 9 [.val d] Q X := by
  refine w_at (fd := d9) [some (.val d)] c.a9 rfl rfl ?_
  unfold d9 b9
  walk_at "s"
  exact w7 hd h
theorem w10 [c : Ru t] {s : Str} (h : Q (.val (.bl (second s))) []) : W t (n + 1) 10 [.val (.str s)] Q X := by
  refine w_at (fd := d10) [some (.val (.str s))] c.a10 rfl rfl ?_
  unfold d10 b10
  walk_at "s"
  refine ⟨rfl, rfl, ?_⟩
  show Q _ []
  simpa only [List.any_cons, List.any_nil, eq_ss, Bool.or_false, second] using h
theorem w11d [Wh t] [c : Ru t] {d : D} (hd : tyOk d = true) (h : Q (.val (.bl (between d 0 5))) []) : W t (n + 4) 11 [.val (.str "drop"), .val d] Q X := by
  refine w_at (fd := d11) [some (.val (.str "drop")), some (.val d), none] c.a11 rfl rfl ?_
  unfold d11 b11
  walk_at "i"
  refine if_F (cutN ?_)
  walk_at "s"
  refine ⟨.fn 8, rfl, ?_⟩
  walk_at "s"
  exact ⟨by decide, w8 hd h⟩
theorem w11c [Wh t] [c : Ru t] {d : D} (hd : tyOk d = true) (h : Q (.val (.bl (between d 0 100))) []) : W t (n + 4) 11 [.val (.str "cut"), .val d] Q X := by
  refine w_at (fd := d11) [some (.val (.str "cut")), some (.val d), none] c.a11 rfl rfl ?_
  unfold d11 b11
  walk_at "i"
  refine if_F (cutN ?_)
  walk_at "s"
  refine ⟨.fn 9, rfl, ?_⟩
  walk_at "s"
  exact ⟨by decide, w9 hd h⟩
theorem w11s [Wh t] [c : Ru t] {s : Str} (h : Q (.val (.bl (second s))) []) : W t (n + 4) 11 [.val (.str "second"), .val (.str s)] Q X := by
  refine w_at (fd := d11) [some (.val (.str "second")), some (.val (.str s)), none] c.a11 rfl rfl ?_
  unfold d11 b11
  walk_at "i"
  refine if_F (cutN ?_)
  walk_at "s"
  refine ⟨.fn 10, rfl, ?_⟩
  walk_at "s"
  exact ⟨by decide, w10 h⟩
theorem between_ok {i lo hi : Int} (h : lo ≤ i ∧ i ≤ hi) : between (.int i) lo hi = true := by simp [between, h.1, h.2]
/-- the rules' making -/
theorem w12 [Wh t] [c : Ru t] {a b : Int} {s : Str} (ha : 0 ≤ a ∧ a ≤ 5) (hb : 0 ≤ b ∧ b ≤ 100) (hs : second s = true) (h : Q (.val .non) [.ins 0 [.int a, .int b, .str s]]) : W t (n + 5) 12 [.bor (.ins 0 []), .val (.int a), .val (.int b), .val (.str s)] Q X := by
  refine w_at (fd := d12) [some (.bor (.ins 0 [])), some (.val (.int a)), some (.val (.int b)), some (.val (.str s)), none, none] c.a12 rfl rfl ?_
  unfold d12 b12
  walk_at "f"
  refine for_1 ?_
  walk_at "ev"
  walk_at "i"
  refine w11d rfl ?_
  rw [between_ok ha]
  walk_at "ev"
  refine cutN (cutN (for_1 ?_))
  walk_at "ev"
  walk_at "i"
  refine w11c rfl ?_
  rw [between_ok hb]
  walk_at "ev"
  refine cutN (cutN (for_1 ?_))
  walk_at "ev"
  walk_at "i"
  refine w11s ?_
  rw [hs]
  walk_at "ev"
  refine cutN (cutN (for_0 ?_))
  walk_at "s"
  walk_at "s"
  walk_at "s"
  exact h
theorem w13 [c : Sa t] {d : D} (hd : Shw d) (h : Q (.val (.bl true)) []) : W t (n + 1) 13 [.val d, .val d] Q X := by
  refine w_at (fd := d13) [some (.val d), some (.val d)] c.a13 rfl rfl ?_
  unfold d13 b13
  walk_at "s"
  obtain ⟨a, b, c', e⟩ := fit_ok 50 d hd.1
  have e := Nat.le_trans e hd.2
  refine ⟨a, b, by omega, e, a, b, by omega, e, ?_⟩
  exact h
end
/-! ownq: == and != of an instance and other things -/
section
variable {F : Nat → G.Spec} {o1 : Option (Nat × Exn)} {g1 : Nat → Nat → Exn → (RV → Prop) → Prop} {neg : Bool} {c f : Nat} {X : XP} {R : Bool → G.Env → Prop} {x y : D} {env : G.Env}
theorem own_id (hx : isIns c (some x) = true) (hy : cmO c (some y) = true)
    (h : F f [.val x, .val y] (fun r _ => ∃ b, r = .val (.bl b) ∧ R (if neg = true then !b else b) env) (fun e _ => X e env)) : ownW ⟨F, o1, g1⟩ neg c f X R (.d x) (.d y) env := .inl ⟨hx, hy, _, rfl, by simp [lent], h⟩
theorem own_di (hx : isData (some x) = true) (hy : isIns c (some y) = true)
    (h : F f [.val y, .val x] (fun r _ => ∃ b, r = .val (.bl b) ∧ R b env) (fun e _ => X e env)) : ownW ⟨F, o1, g1⟩ false c f X R (.d x) (.d y) env := .inr (.inr (.inl ⟨rfl, hx, hy, _, rfl, by simp [lent], h⟩))
theorem own_tt {xs ys : List D} (T : D → D → Bool) (hx : xs.all (flatI c) = true) (hy : ys.all (flatI c) = true) (hT : ∀ a ∈ xs, T a a = true) (h : ∀ a ∈ xs, ∀ b ∈ ys, F f [.val a, .val b] (fun r _ => r = .val (.bl (T a b))) fun e _ => X e env)
    (q : R (if neg = true then !eqNs T xs ys else eqNs T xs ys) env) : ownW ⟨F, o1, g1⟩ neg c f X R (.d (.tup xs)) (.d (.tup ys)) env := .inr (.inr (.inr ⟨xs, ys, T, rfl, rfl, ⟨hx, hy⟩, hT, h, q⟩))
end
/-! draws from a state of two -/
class Dr1 (t : Text) : Prop where
  a0 : t.at 0 = some d0
  a1 : t.at 1 = some d1
  a2 : t.at 2 = some d2
section
variable {t : Text} {n : Nat} {Q : RV → List OV → Prop} {X : Exn → List OV → Prop}
def Good (xs : List D) : Prop := ∃ a b : Int, xs = [.int a, .int b] ∧ 0 ≤ b ∧ b ≤ 2147483647
theorem w0 [c : Dr1 t] {ns : List Int} {k : Int} (hk : 0 ≤ k) (h : ∀ v, Q (.val (.int v)) []) : W t (n + 1) 0 [.val (.scr ns), .val (.int k)] Q X := by
  refine w_at (fd := d0) [some (.val (.scr ns)), some (.val (.int k))] c.a0 rfl rfl ?_
  unfold d0 b0
  walk_at "i"
  refine if_d (fun h0 => ?_) (fun h0 => ?_)
  · walk_at "s"
    exact at_scr hk h0 fun x => h x
  · refine cutN ?_
    walk_at "s"
    exact h 0
theorem w1 [c : Dr1 t] {ns : List Int} {k : Int} (hk : 0 ≤ k) (h : ∀ s, Good s → Q (.fr (.lst s)) []) : W t (n + 2) 1 [.val (.scr ns), .val (.int k)] Q X := by
  refine w_at (fd := d1) [some (.val (.scr ns)), some (.val (.int k)), none] c.a1 rfl rfl ?_
  unfold d1 b1
  walk_at "s"
  refine w0 hk fun v => ?_
  walk_at "i"
  refine ⟨⟨by decide, by decide, by decide⟩, ?_⟩
  refine if_d (fun h0 => ?_) (fun h0 => ?_)
  · walk_at "s"
    have := Int.emod_nonneg v (by decide : (2147483629 : Int) ≠ 0)
    have := Int.emod_lt_of_pos v (by decide : (0 : Int) < 2147483629)
    exact ⟨⟨by decide, by decide, by decide⟩, by decide, h _ ⟨_, _, rfl, by omega, by omega⟩⟩
  · refine cutN ?_
    walk_at "s"
    have := Int.emod_nonneg v (by decide : (2147483647 : Int) ≠ 0)
    have := Int.emod_lt_of_pos v (by decide : (0 : Int) < 2147483647)
    exact ⟨by decide, h _ ⟨_, _, rfl, by omega, by omega⟩⟩
theorem w2 [c : Dr1 t] {s : List D} {m : Int} (g : Good s) (hm : 0 < m) (hm2 : m < 1000000000000000000000000) (h : ∀ (v : Int) (s' : List D), 0 ≤ v → v < m → Good s' → Q (.val (.int v)) [.lst s']) : W t (n + 1) 2 [.bor (.lst s), .val (.int m)] Q X := by
  obtain ⟨a, b, rfl, hb, hb2⟩ := g
  refine w_at (fd := d2) [some (.bor (.lst [.int a, .int b])), some (.val (.int m)), none, none] c.a2 rfl rfl ?_
  unfold d2 b2
  walk_at "i"
  refine if_d (fun h0 => ?_) (fun h0 => ?_)
  · walk_at "s"
    refine ⟨hm, ?_⟩
    walk_at "s"
    refine ⟨cdiv hm (sm_of 128 (by omega) (by omega)) (by decide), ?_⟩
    walk_at "s"
    exact h _ _ (Int.emod_nonneg _ (by omega)) (Int.emod_lt_of_pos _ hm) ⟨_, _, rfl, hb, hb2⟩
  · refine cutN ?_
    walk_at "s"
    refine ⟨by walk_at "mul", by decide, ?_⟩
    generalize hc : (b * 48271 + 29) % 2147483647 = c
    have hc1 : 0 ≤ c := by rw [← hc]; exact Int.emod_nonneg _ (by decide)
    have hc2 : c < 2147483647 := by rw [← hc]; exact Int.emod_lt_of_pos _ (by decide)
    walk_at "s"
    refine ⟨by walk_at "mul", by walk_at "mul", by decide, ?_⟩
    generalize he : (c * c + 39373 * c + 7) % 2147483629 = e
    have he1 : 0 ≤ e := by rw [← he]; exact Int.emod_nonneg _ (by decide)
    have he2 : e < 2147483629 := by rw [← he]; exact Int.emod_lt_of_pos _ (by decide)
    walk_at "s"
    refine ⟨by walk_at "mul", by walk_at "mul", by decide, ?_⟩
    generalize hf : (e * e + 71993 * e + 19) % 2147483587 = f
    walk_at "s"
    exact ⟨cdiv (by decide) (sm64 (by decide) (by decide)) (by decide), hm, h _ _ (Int.emod_nonneg _ (by omega)) (Int.emod_lt_of_pos _ hm) ⟨_, _, rfl, hc1, by omega⟩⟩
end
/-! works1: works drawn (3) -/
class Wk1 (t : Text) : Prop where
  a3 : t.at 3 = some d3
def wkD (w : Int × Int × Bool) : D := .tup [.int w.1, .int w.2.1, .bl w.2.2]
def WkOk (w : Int × Int × Bool) : Prop := (0 ≤ w.1 ∧ w.1 ≤ 200) ∧ (1 ≤ w.2.1 ∧ w.2.1 ≤ 100)
/-- works as they may be -/
structure Wks (ws : List (Int × Int × Bool)) : Prop where
  ok : ∀ w ∈ ws, WkOk w
  up : ws.Pairwise fun a b => a.1 ≤ b.1
section
variable {t : Text} {n : Nat} {Q : RV → List OV → Prop} {X : Exn → List OV → Prop}
theorem w3 [Dr1 t] [c : Wk1 t] {s : List D} {most : Int} (g : Good s) (hm : 1 ≤ most ∧ most ≤ 12)
    (h : ∀ ws s', Good s' → Wks ws → 1 ≤ ws.length → ws.length ≤ most.toNat → Q (.val (.tup (ws.map wkD))) [.lst s']) : W t (n + 2) 3 [.bor (.lst s), .val (.int most)] Q X := by
  refine w_at (fd := d3) [some (.bor (.lst s)), some (.val (.int most)), none, none, none, none, none] c.a3 rfl rfl ?_
  unfold d3 b3
  walk_at "s"
  refine w2 g (by decide) (by decide) fun date s hd hd2 g => ?_
  walk_at "ev"
  refine w2 g (by decide) (by decide) fun v s hv hv2 g => ?_
  walk_at "ev"
  refine at_int (xs := [1, 4, 15]) 1 15 hv (by simpa using hv2) (by decide) fun wide hw hw2 => ?_
  walk_at "ev"
  walk_at "f"
  refine w2 g (by omega) (by omega) fun v s hv hv2 g => ?_
  walk_at "ev"
  refine ⟨by omega, ?_⟩
  refine for_at (fun i env => ∃ (s : List D) (ws : List (Int × Int × Bool)) (date : Int) (x5 x6 : Option D), Good s ∧ Wks ws ∧ ws.length = i ∧ (∀ w ∈ ws, w.1 ≤ date) ∧ 0 ≤ date ∧ date ≤ 200 ∧
    env = [some (.bor (.lst s)), some (.val (.int most)), some (.own (.lst (ws.map wkD))), some (.val (.int date)), some (.val (.int wide)), vO x5, vO x6]) ⟨s, [], date, none, none, g, ⟨by simp, .nil⟩, rfl, by simp, hd, by omega, rfl⟩ ?_ ?_
  · rintro i d env R hd ⟨s, ws, date, x5, x6, g, hws, hl, hle, h0, h200, rfl⟩ hR
    obtain ⟨rfl, hk, hk2⟩ := rng_at hd
    walk_at "ev"
    walk_at "s"
    refine w2 g (by decide) (by decide) fun u s hu hu2 g => ?_
    walk_at "ev"
    refine w2 g (by decide) (by decide) fun u' s hu' hu2' g => ?_
    walk_at "ev"
    refine w2 g (by decide) (by decide) fun v s hv hv2 g => ?_
    walk_at "ev"
    refine at_int (xs := [1, 100, 1 + u, 1 + u']) 1 100 hv (by simpa using hv2) (by simp; omega) fun got hg hg2 => ?_
    walk_at "ev"
    walk_at "s"
    refine w2 g (by decide) (by decide) fun x s hx hx2 g => ?_
    walk_at "ev"
    refine ⟨by rw [List.length_map]; unfold line; omega, ?_⟩
    walk_at "s"
    refine w2 g (by omega) (by omega) fun y s hy hy2 g => ?_
    walk_at "ev"
    have e : ws.map wkD ++ [.tup [.int date, .int got, .bl (decide (x = 0))]] = (ws ++ [(date, got, decide (x = 0))]).map wkD := by rw [List.map_append]; rfl
    rw [e]
    refine hR _ ⟨s, ws ++ [(date, got, decide (x = 0))], if date + y < 200 then date + y else 200, some (.int (0 + i)), some (.int got), g, ⟨?_, ?_⟩, ?_, ?_, ?_, ?_, rfl⟩
    · intro w hw
      rcases List.mem_append.mp hw with hw | hw
      · exact hws.ok w hw
      · rw [List.mem_singleton] at hw
        subst hw
        exact ⟨⟨h0, h200⟩, hg, hg2⟩
    · rw [List.pairwise_append]
      refine ⟨hws.up, List.pairwise_singleton .., fun a ha b hb => ?_⟩
      rw [List.mem_singleton] at hb
      subst hb
      exact hle a ha
    · rw [List.length_append, hl]; rfl
    · intro w hw
      rcases List.mem_append.mp hw with hw | hw
      · have := hle w hw
        split <;> omega
      · rw [List.mem_singleton] at hw
        subst hw
        show date ≤ _
        split <;> omega
    · split <;> omega
    · split <;> omega
  · rintro env ⟨s, ws, date, x5, x6, g, hws, hl, hle, h0, h200, rfl⟩
    walk_at "s"
    walk_at "ev"
    rw [rng_cnt] at hl
    exact h ws s g hws (by omega) (by omega)
end
/-! isworks: is_day, is_work, are_works (45, 46, 47) -/
class Iw0 (t : Text) : Prop where
  a45 : t.at 45 = some d45
  a46 : t.at 46 = some d46
class Iw (t : Text) : Prop extends Iw0 t where
  a47 : t.at 47 = some d47
section
variable {t : Text} {n : Nat} {Q : RV → List OV → Prop} {X : Exn → List OV → Prop}
def isB : D → Bool
  | .bl _ => true
  | _ => false
def isWork : D → Bool
  | .tup [a, b, c] => between a 0 200 && (between b 1 100 && isB c)
  | _ => false
/-- its elements have a type -/
def T1 (d : D) : Prop := tyOk d = true ∧ ∀ xs, d = .tup xs → ∀ x ∈ xs, tyOk x = true
def T2 (d : D) : Prop := tyOk d = true ∧ ∀ xs, d = .tup xs → ∀ x ∈ xs, T1 x
theorem w45 [Wh t] [c : Iw0 t] {d : D} (hd : tyOk d = true) (h : Q (.val (.bl (between d 0 200))) []) : W t (n + 3) 45 [.val d] Q X := by
  refine w_at (fd := d45) [some (.val d)] c.a45 rfl rfl ?_
  unfold d45 b45
  walk_at "s"
  exact w7 hd h
theorem ty_isb {d : D} : tyD .bool d = isB d := by cases d <;> rfl
theorem w46 [Wh t] [c : Iw0 t] {d : D} (hd : T1 d) (h : Q (.val (.bl (isWork d))) []) : W t (n + 4) 46 [.val d] Q X := by
  refine w_at (fd := d46) [some (.val d)] c.a46 rfl rfl ?_
  unfold d46 b46
  cases d with
  | tup xs =>
    walk_at "i"
    refine if_n (fun h1 => ?_) (fun h1 => ?_)
    · walk_at "s"
      have : isWork (.tup xs) = false := by
        match xs, h1 with
        | [], _ => rfl
        | [_], _ => rfl
        | [_, _], _ => rfl
        | [_, _, _], h1 => exact absurd rfl h1
        | _ :: _ :: _ :: _ :: _, _ => rfl
      rw [this] at h
      exact h
    · match xs, h1, hd, h with
      | [a, b, e], _, hd, h =>
        have ht := hd.2 _ rfl
        walk_at "ev"
        refine w45 (ht a (by simp)) ?_
        walk_at "ev"
        refine if_b (fun h2 => ?_) (fun h2 => ?_)
        · walk_at "s"
          simp only [Bool.not_eq_true'] at h2
          show Q _ []
          simpa [isWork, h2] using h
        · refine cutN ?_
          simp only [Bool.not_eq_false'] at h2
          walk_at "s"
          refine w7 (ht b (by simp)) ?_
          walk_at "ev"
          refine if_b (fun h3 => ?_) (fun h3 => ?_)
          · rw [v_ty (ht e (by simp)), ty_isb]
            walk_at "ev"
            simpa [isWork, h2, h3] using h
          · show Q _ []
            simpa [isWork, h2, h3] using h
      | [], h1, _, _ => simp at h1
      | [_], h1, _, _ => simp at h1
      | [_, _], h1, _, _ => simp at h1
      | _ :: _ :: _ :: _ :: r, h1, _, _ => simp at h1; omega
  | fn f => exact absurd hd.1 Bool.false_ne_true
  | scr f => exact absurd hd.1 Bool.false_ne_true
  | exn f => exact absurd hd.1 Bool.false_ne_true
  | _ =>
    walk_at "i"
    refine if_T ?_
    walk_at "s"
    exact h
def day1 : D → Int
  | .tup (.int a :: _) => a
  | _ => 0
/-- days that don't fall -/
def rising : List D → Bool
  | a :: b :: r => decide (day1 a ≤ day1 b) && rising (b :: r)
  | _ => true
def areWorks : D → Bool
  | .tup xs => (decide (1 ≤ xs.length) && decide (xs.length ≤ 12)) && (xs.all isWork && rising xs)
  | _ => false
theorem isWork_eq {d : D} (h : isWork d = true) : ∃ a b c, d = .tup [.int a, .int b, .bl c] ∧ 0 ≤ a ∧ a ≤ 200 ∧ 1 ≤ b ∧ b ≤ 100 := by
  unfold isWork at h
  split at h
  · rename_i a b c
    cases a <;> simp [between] at h
    cases b <;> simp at h
    cases c <;> simp [isB] at h
    exact ⟨_, _, _, rfl, h.1.1, h.1.2, h.2.1, h.2.2⟩
  · cases h
theorem zipD_mem : ∀ {xs ys : List D} {d : D}, d ∈ zipD xs ys → ∃ x y, d = .tup [x, y] ∧ x ∈ xs ∧ y ∈ ys
  | [], _, _, h => by simp [zipD] at h
  | _ :: _, [], _, h => by simp [zipD] at h
  | x :: xs, y :: ys, d, h => by
    simp only [zipD, List.mem_cons] at h
    rcases h with rfl | h
    · exact ⟨x, y, rfl, List.mem_cons_self .., List.mem_cons_self ..⟩
    · obtain ⟨a, b, e, h1, h2⟩ := zipD_mem h
      exact ⟨a, b, e, List.mem_cons_of_mem _ h1, List.mem_cons_of_mem _ h2⟩
theorem zipD_len : ∀ (xs ys : List D), (zipD xs ys).length ≤ xs.length
  | [], _ => Nat.zero_le _
  | _ :: _, [] => Nat.zero_le _
  | x :: xs, y :: ys => Nat.succ_le_succ (zipD_len xs ys)
def le1 : D → Bool
  | .tup [x, y] => decide (day1 x ≤ day1 y)
  | _ => false
theorem rising_zip : ∀ xs : List D, (zipD xs xs.tail).all le1 = rising xs
  | [] => rfl
  | [_] => rfl
  | a :: b :: r => by
    show (le1 (.tup [a, b]) && (zipD (b :: r) r).all le1) = _
    rw [show (zipD (b :: r) r).all le1 = rising (b :: r) from rising_zip (b :: r)]
    rfl
theorem w47 [Wh t] [c : Iw t] {d : D} (hd : T2 d) (hl : ∀ xs, d = .tup xs → xs.length ≤ 1000) (h : Q (.val (.bl (areWorks d))) []) : W t (n + 5) 47 [.val d] Q X := by
  refine w_at (fd := d47) [some (.val d), none, none] c.a47 rfl rfl ?_
  unfold d47 b47
  cases d with
  | tup xs =>
    have hl := hl xs rfl
    walk_at "i"
    refine if_d (fun h1 => ?_) (fun h1 => ?_)
    · refine if_n (fun h2 => ?_) (fun h2 => ?_)
      · refine if_T ?_
        walk_at "s"
        have e : areWorks (.tup xs) = false := by
          have : ¬ xs.length ≤ 12 := by omega
          simp [areWorks, this]
        rw [e] at h
        exact h
      · rw [m_lc]
        walk_at "ev"
        refine lc_map (fun x => .bl (isWork x)) (fun x hx R hR => ?_) ?_
        · walk_at "ev"
          refine w46 (hd.2 _ rfl x hx) ?_
          walk_at "ev"
          exact hR
        · walk_at "ev"
          refine all_f ?_
          walk_at "ev"
          refine if_b (fun h3 => ?_) (fun h3 => ?_)
          · walk_at "s"
            simp only [Bool.not_eq_true'] at h3
            have e : areWorks (.tup xs) = false := by simp [areWorks, h3]
            rw [e] at h
            exact h
          · refine cutN ?_
            simp only [Bool.not_eq_false'] at h3
            walk_at "s"
            rw [m_lc]
            walk_at "ev"
            rw [cut_tail (by omega)]
            refine ⟨by have := zipD_len xs xs.tail; unfold line; omega, lc_map (fun x => .bl (le1 x)) (fun x hx R hR => ?_) ?_⟩
            · obtain ⟨x, y, rfl, hx, hy⟩ := zipD_mem hx
              obtain ⟨a, b, c', rfl, _⟩ := isWork_eq (List.all_eq_true.mp h3 x hx)
              obtain ⟨a', b', c'', rfl, _⟩ := isWork_eq (List.all_eq_true.mp h3 y (List.mem_of_mem_tail hy))
              walk_at "ev"
              exact hR
            · walk_at "ev"
              refine all_f ?_
              rw [rising_zip]
              have e : areWorks (.tup xs) = rising xs := by
                have a1 : 1 ≤ xs.length := by omega
                have a2 : xs.length ≤ 12 := by omega
                simp [areWorks, a1, a2, h3]
              rw [e] at h
              exact h
    · refine if_T ?_
      walk_at "s"
      have e : areWorks (.tup xs) = false := by
        have : ¬ 1 ≤ xs.length := by omega
        simp [areWorks, this]
      rw [e] at h
      exact h
  | fn f => exact absurd hd.1 Bool.false_ne_true
  | scr f => exact absurd hd.1 Bool.false_ne_true
  | exn f => exact absurd hd.1 Bool.false_ne_true
  | _ =>
    walk_at "i"
    refine if_T ?_
    walk_at "s"
    exact h
end
/-! cut_by -/
class Cu (t : Text) : Prop where
  a31 : t.at 31 = some d31
section
variable {t : Text} {n : Nat} {Q : RV → List OV → Prop} {X : Exn → List OV → Prop}
def lt (p d c : Int) : Int := if p - p * c * d / 100 > 0 then p - p * c * d / 100 else 0
theorem lt_bd {p d c : Int} (hp : 0 ≤ p ∧ p ≤ 100) (hd : 0 ≤ d) (hc : 0 ≤ c) : 0 ≤ lt p d c ∧ lt p d c ≤ p := by
  have h1 : 0 ≤ p * c * d := Int.mul_nonneg (Int.mul_nonneg hp.1 hc) hd
  have h2 : 0 ≤ p * c * d / 100 := Int.ediv_nonneg h1 (by decide)
  unfold lt
  split <;> omega
theorem w31 [c : Cu t] {p d c : Int} (hp : 0 ≤ p ∧ p ≤ 100) (hd : 0 ≤ d ∧ d ≤ 200) (hc : 0 ≤ c ∧ c ≤ 100) (h : Q (.val (.int (lt p d c))) []) : W t (n + 1) 31 [.val (.int p), .val (.int d), .val (.int c)] Q X := by
  refine w_at (fd := d31) [some (.val (.int p)), some (.val (.int d)), some (.val (.int c))] Cu.a31 rfl rfl ?_
  unfold d31 b31
  walk_at "s"
  refine ⟨by walk_at "mul", by walk_at "mul", cdiv (by decide) (sm64 (by decide) (by decide)) (by decide), h⟩
end
/-! score: results and scores of a work (49, 50, 51, 65-68, 121, 122) -/
class Sc5 (t : Text) : Prop where
  a50 : t.at 50 = some d50
  a51 : t.at 51 = some d51
class Sc0 (t : Text) : Prop extends Sc5 t where
  a49 : t.at 49 = some d49
class Sc1 (t : Text) : Prop where
  a65 : t.at 65 = some d65
  a66 : t.at 66 = some d66
  a67 : t.at 67 = some d67
  a68 : t.at 68 = some d68
class Sc2 (t : Text) : Prop where
  a121 : t.at 121 = some d121
  a122 : t.at 122 = some d122
section
variable {t : Text} {n : Nat} {Q : RV → List OV → Prop} {X : Exn → List OV → Prop}
/-- how second tries are counted -/
inductive Sec where
  | best | last | mean
def secS : Sec → Str
  | .best => "best"
  | .last => "last"
  | .mean => "mean"
structure Rule where
  drop : Int
  cut : Int
  sec : Sec
structure RuleOk (r : Rule) : Prop where
  drop : 0 ≤ r.drop ∧ r.drop ≤ 5
  cut : 0 ≤ r.cut ∧ r.cut ≤ 100
def rulO (r : Rule) : OV := .ins 0 [.int r.drop, .int r.cut, .str (secS r.sec)]
def rulD (r : Rule) : D := .ins 0 [.int r.drop, .int r.cut, .str (secS r.sec)]
theorem sec_second (s : Sec) : second (secS s) = true := by cases s <;> decide +kernel
abbrev Wrk := Int × Int × Bool
abbrev Try := Int × Int
def tryD (x : Try) : D := .tup [.int x.1, .int x.2]
inductive Res where
  | non | exc | tr (ts : List Try)
def resD : Res → D
  | .non => .non
  | .exc => .str "excused"
  | .tr ts => .tup (ts.map tryD)
def TryOk (w : Wrk) (x : Try) : Prop := (0 ≤ x.1 ∧ x.1 ≤ w.2.1) ∧ (0 ≤ x.2 ∧ x.2 ≤ 200)
def ResOk (w : Wrk) : Res → Prop
  | .tr ts => (1 ≤ ts.length ∧ ts.length ≤ 3) ∧ (∀ x ∈ ts, TryOk w x) ∧ ts.Pairwise fun a b => a.2 ≤ b.2
  | _ => True
/-- a try's points, late -/
def tryPts (w : Wrk) (c : Int) (x : Try) : Int := lt x.1 (if x.2 - w.1 > 0 then x.2 - w.1 else 0) c
/-- the greatest -/
def mx : List Int → Int
  | [] => 0
  | x :: xs => xs.foldl max x
theorem foldl_max (xs : List Int) : ∀ a : Int, a ≤ xs.foldl max a ∧ (∀ x ∈ xs, x ≤ xs.foldl max a) ∧ (xs.foldl max a = a ∨ xs.foldl max a ∈ xs) := by
  induction xs with
  | nil => intro a; exact ⟨Int.le_refl _, by simp, .inl rfl⟩
  | cons x xs ih =>
    intro a
    obtain ⟨h1, h2, h3⟩ := ih (max a x)
    refine ⟨by rw [List.foldl_cons]; omega, fun y hy => ?_, ?_⟩
    · rw [List.foldl_cons]
      rcases List.mem_cons.mp hy with rfl | hy
      · omega
      · exact h2 y hy
    · rw [List.foldl_cons]
      rcases h3 with h3 | h3
      · by_cases z : a ≤ x
        · right; rw [h3, show max a x = x by omega]; exact List.mem_cons_self ..
        · left; rw [h3]; omega
      · right; exact List.mem_cons_of_mem _ h3
theorem mx_ok {xs : List Int} (h : xs ≠ []) : mx xs ∈ xs ∧ ∀ x ∈ xs, x ≤ mx xs := by
  cases xs with
  | nil => exact absurd rfl h
  | cons a xs =>
    obtain ⟨h1, h2, h3⟩ := foldl_max xs a
    refine ⟨?_, fun x hx => ?_⟩
    · rcases h3 with h3 | h3
      · show xs.foldl max a ∈ _; rw [h3]; exact List.mem_cons_self ..
      · exact List.mem_cons_of_mem _ h3
    · rcases List.mem_cons.mp hx with rfl | hx
      · exact h1
      · exact h2 x hx
theorem mx_eq {xs : List Int} {m : Int} (h : m ∈ xs) (h2 : ∀ x ∈ xs, x ≤ m) : m = mx xs := by
  have ne : xs ≠ [] := fun z => by rw [z] at h; cases h
  obtain ⟨a, b⟩ := mx_ok ne
  have := b m h
  have := h2 _ a
  omega
theorem max_w {xs : List Int} {Z : RV → Prop} (h : xs ≠ []) (q : Z (.val (.int (mx xs)))) : biW .max1 [some (.lst (xs.map .int))] Z := ⟨xs, rfl, h, fun m h1 h2 => by rw [mx_eq h1 h2]; exact q⟩
/-- of several points one -/
def comb : Sec → List Int → Int
  | .best, xs => mx xs
  | .last, xs => xs.getLastD 0
  | .mean, xs => xs.sum / xs.length
def scoreD (w : Wrk) (r : Rule) : Res → D
  | .non => .int 0
  | .exc => .non
  | .tr ts => .int (comb r.sec (ts.map (tryPts w r.cut)))
theorem w49 [c : Sc0 t] {r : Rule} (h : Q (.val .non) [rulO r]) : W t (n + 1) 49 [.bor (rulO r)] Q X := by
  refine w_at (fd := d49) [some (.bor (rulO r))] c.a49 rfl rfl ?_
  unfold d49 b49 rulO
  walk_at "i"
  refine if_F (cutN (cutN ?_))
  exact h
theorem w49v [c : Sc0 t] {r : Rule} (h : Q (.val .non) []) : W t (n + 1) 49 [.val (rulD r)] Q X := by
  refine w_at (fd := d49) [some (.val (rulD r))] c.a49 rfl rfl ?_
  unfold d49 b49 rulD
  walk_at "i"
  refine if_F (cutN (cutN ?_))
  exact h

def isTry (m : Int) : D → Bool
  | .tup [a, b] => between a 0 m && between b 0 200
  | _ => false
def day2 : D → Int
  | .tup (_ :: .int b :: _) => b
  | _ => 0
def rising2 : List D → Bool
  | a :: b :: r => decide (day2 a ≤ day2 b) && rising2 (b :: r)
  | _ => true
def isRes (m : Int) : D → Bool
  | .non => true
  | .str s => decide (s = "excused")
  | .tup xs => (decide (1 ≤ xs.length) && decide (xs.length ≤ 3)) && (xs.all (isTry m) && rising2 xs)
  | _ => false
theorem isTry_eq {m : Int} {d : D} (h : isTry m d = true) : ∃ a b, d = .tup [.int a, .int b] ∧ 0 ≤ a ∧ a ≤ m ∧ 0 ≤ b ∧ b ≤ 200 := by
  unfold isTry at h
  split at h
  · rename_i a b
    cases a <;> simp [between] at h
    cases b <;> simp at h
    exact ⟨_, _, rfl, h.1.1, h.1.2, h.2.1, h.2.2⟩
  · cases h
theorem w50 [Wh t] [Iw0 t] [c : Sc5 t] {w : Wrk} {d : D} (hd : T1 d) (h : Q (.val (.bl (isTry w.2.1 d))) []) : W t (n + 4) 50 [.val (wkD w), .val d] Q X := by
  refine w_at (fd := d50) [some (.val (wkD w)), some (.val d)] c.a50 rfl rfl ?_
  unfold d50 b50 wkD
  cases d with
  | tup xs =>
    walk_at "i"
    refine if_n (fun h1 => ?_) (fun h1 => ?_)
    · walk_at "s"
      have : isTry w.2.1 (.tup xs) = false := by
        match xs, h1 with
        | [], _ => rfl
        | [_], _ => rfl
        | [_, _], h1 => exact absurd rfl h1
        | _ :: _ :: _ :: _, _ => rfl
      rw [this] at h
      exact h
    · match xs, h1, hd, h with
      | [a, b], _, hd, h =>
        have ht := hd.2 _ rfl
        refine cutN ?_
        walk_at "s"
        refine w7 (ht a (by simp)) ?_
        walk_at "ev"
        refine if_b (fun h2 => ?_) (fun h2 => ?_)
        · refine w45 (ht b (by simp)) ?_
          walk_at "ev"
          simpa [isTry, h2] using h
        · show Q _ []
          simpa [isTry, h2] using h
      | [], h1, _, _ => simp at h1
      | [_], h1, _, _ => simp at h1
      | _ :: _ :: _ :: r, h1, _, _ => simp at h1; omega
  | fn f => exact absurd hd.1 Bool.false_ne_true
  | scr f => exact absurd hd.1 Bool.false_ne_true
  | exn f => exact absurd hd.1 Bool.false_ne_true
  | _ =>
    walk_at "i"
    refine if_T ?_
    walk_at "s"
    exact h
def le2 : D → Bool
  | .tup [x, y] => decide (day2 x ≤ day2 y)
  | _ => false
theorem rising2_zip : ∀ xs : List D, (zipD xs xs.tail).all le2 = rising2 xs
  | [] => rfl
  | [_] => rfl
  | a :: b :: r => by
    show (le2 (.tup [a, b]) && (zipD (b :: r) r).all le2) = _
    rw [show (zipD (b :: r) r).all le2 = rising2 (b :: r) from rising2_zip (b :: r)]
    rfl
theorem w51 [Wh t] [Iw0 t] [c : Sc5 t] {w : Wrk} {d : D} (hd : T2 d) (hl : ∀ xs, d = .tup xs → xs.length ≤ 1000) (h : Q (.val (.bl (isRes w.2.1 d))) []) : W t (n + 5) 51 [.val (wkD w), .val d] Q X := by
  refine w_at (fd := d51) [some (.val (wkD w)), some (.val d), none, none] c.a51 rfl rfl ?_
  unfold d51 b51
  cases d with
  | non =>
    walk_at "i"
    refine if_T ?_
    walk_at "s"
    exact h
  | str s =>
    walk_at "i"
    refine if_F (cutN ?_)
    walk_at "i"
    refine if_T ?_
    walk_at "s"
    exact h
  | tup xs =>
    have hl := hl xs rfl
    walk_at "i"
    refine if_F (cutN ?_)
    walk_at "i"
    refine if_F (cutN ?_)
    walk_at "i"
    refine if_d (fun h1 => ?_) (fun h1 => ?_)
    · refine if_n (fun h2 => ?_) (fun h2 => ?_)
      · walk_at "s"
        have e : isRes w.2.1 (.tup xs) = false := by
          have : ¬ xs.length ≤ 3 := by omega
          simp [isRes, this]
        rw [e] at h
        exact h
      · refine cutN ?_
        walk_at "i"
        rw [m_lc]
        walk_at "ev"
        refine lc_map (fun x => .bl (isTry w.2.1 x)) (fun x hx R hR => ?_) ?_
        · walk_at "ev"
          refine w50 (hd.2 _ rfl x hx) ?_
          walk_at "ev"
          exact hR
        · walk_at "ev"
          refine all_f ?_
          walk_at "ev"
          refine if_b (fun h3 => ?_) (fun h3 => ?_)
          · walk_at "s"
            simp only [Bool.not_eq_true'] at h3
            have e : isRes w.2.1 (.tup xs) = false := by simp [isRes, h3]
            rw [e] at h
            exact h
          · refine cutN ?_
            simp only [Bool.not_eq_false'] at h3
            walk_at "s"
            rw [m_lc]
            walk_at "ev"
            rw [cut_tail (by omega)]
            refine ⟨by have := zipD_len xs xs.tail; unfold line; omega, lc_map (fun x => .bl (le2 x)) (fun x hx R hR => ?_) ?_⟩
            · obtain ⟨x, y, rfl, hx, hy⟩ := zipD_mem hx
              obtain ⟨a, b, rfl, _⟩ := isTry_eq (List.all_eq_true.mp h3 x hx)
              obtain ⟨a', b', rfl, _⟩ := isTry_eq (List.all_eq_true.mp h3 y (List.mem_of_mem_tail hy))
              walk_at "ev"
              exact hR
            · walk_at "ev"
              refine all_f ?_
              rw [rising2_zip]
              have e : isRes w.2.1 (.tup xs) = rising2 xs := by
                have a1 : 1 ≤ xs.length := by omega
                have a2 : xs.length ≤ 3 := by omega
                simp [isRes, a1, a2, h3]
              rw [e] at h
              exact h
    · refine if_T ?_
      walk_at "s"
      have e : isRes w.2.1 (.tup xs) = false := by
        have : ¬ 1 ≤ xs.length := by omega
        simp [isRes, this]
      rw [e] at h
      exact h
  | fn f => exact absurd hd.1 Bool.false_ne_true
  | scr f => exact absurd hd.1 Bool.false_ne_true
  | exn f => exact absurd hd.1 Bool.false_ne_true
  | _ =>
    walk_at "i"
    refine if_F (cutN ?_)
    walk_at "i"
    refine if_F (cutN ?_)
    walk_at "i"
    refine if_T ?_
    walk_at "s"
    exact h
/-! good ones -/
theorem t1_try (x : Try) : T1 (tryD x) := ⟨rfl, fun xs e y hy => by cases e; simp at hy; rcases hy with rfl | rfl <;> rfl⟩
theorem t2_res (r : Res) : T2 (resD r) := by
  cases r with
  | non => exact ⟨rfl, fun xs e => nomatch e⟩
  | exc => exact ⟨rfl, fun xs e => nomatch e⟩
  | tr ts => exact ⟨rfl, fun xs e y hy => by cases e; obtain ⟨x, _, rfl⟩ := List.mem_map.mp hy; exact t1_try x⟩
theorem rising2_of : ∀ {ts : List Try}, (ts.Pairwise fun a b => a.2 ≤ b.2) → rising2 (ts.map tryD) = true
  | [], _ => rfl
  | [_], _ => rfl
  | a :: b :: r, h => by
    rw [List.pairwise_cons] at h
    show (decide (a.2 ≤ b.2) && rising2 ((b :: r).map tryD)) = true
    rw [rising2_of h.2, decide_eq_true (h.1 b (List.mem_cons_self ..))]
    rfl
theorem isRes_ok {w : Wrk} {r : Res} (h : ResOk w r) : isRes w.2.1 (resD r) = true := by
  cases r with
  | non => rfl
  | exc => rfl
  | tr ts =>
    obtain ⟨⟨h1, h2⟩, h3, h4⟩ := h
    have e : (ts.map tryD).all (isTry w.2.1) = true := by
      rw [List.all_map, List.all_eq_true]
      intro x hx
      obtain ⟨⟨a, b⟩, c, d⟩ := h3 x hx
      show (between (.int x.1) 0 w.2.1 && between (.int x.2) 0 200) = true
      rw [between_ok ⟨a, b⟩, between_ok ⟨c, d⟩]; rfl
    show ((decide (1 ≤ (ts.map tryD).length) && decide ((ts.map tryD).length ≤ 3)) && ((ts.map tryD).all (isTry w.2.1) && rising2 (ts.map tryD))) = true
    rw [List.length_map, decide_eq_true h1, decide_eq_true h2, e, rising2_of h4]
    rfl
theorem isWork_ok {w : Wrk} (h : WkOk w) : isWork (wkD w) = true := by
  obtain ⟨⟨a, b⟩, c, d⟩ := h
  show (between (.int w.1) 0 200 && (between (.int w.2.1) 1 100 && true)) = true
  rw [between_ok ⟨a, b⟩, between_ok ⟨c, d⟩]; rfl
theorem t1_work (w : Wrk) : T1 (wkD w) := ⟨rfl, fun xs e y hy => by cases e; simp at hy; rcases hy with rfl | rfl | rfl <;> rfl⟩
theorem w121 [Wh t] [Iw0 t] [c : Sc2 t] {w : Wrk} (hw : WkOk w) (h : Q (.val .non) []) : W t (n + 5) 121 [.val (wkD w)] Q X := by
  refine w_at (fd := d121) [some (.val (wkD w))] c.a121 rfl rfl ?_
  unfold d121 b121
  walk_at "i"
  refine w46 (t1_work w) ?_
  rw [isWork_ok hw]
  walk_at "ev"
  refine cutN (cutN ?_)
  exact h
/-! the score -/
theorem w65 [c : Sc1 t] {xs : List Int} (hx : xs ≠ []) (h : Q (.val (.int (mx xs))) []) : W t (n + 1) 65 [.val (.lst (xs.map .int))] Q X := by
  refine w_at (fd := d65) [some (.val (.lst (xs.map .int)))] c.a65 rfl rfl ?_
  unfold d65 b65
  walk_at "s"
  exact max_w hx h
theorem at_last {xs : List D} {x : D} : L2.atI (xs ++ [x]) (-1) = some x := by
  unfold L2.atI L2.ixN
  rw [List.length_append, List.length_singleton, if_neg (by decide), if_pos (by omega)]
  show (xs ++ [x])[((xs.length + 1 : Nat) + (-1 : Int)).toNat]? = some x
  rw [show ((xs.length + 1 : Nat) + (-1 : Int)).toNat = xs.length by omega]
  simp
theorem at_lastI {xs : List Int} (hx : xs ≠ []) : L2.atI (xs.map D.int) (-1) = some (.int (xs.getLastD 0)) := by
  obtain ⟨ys, y, rfl⟩ : ∃ ys y, xs = ys ++ [y] := ⟨xs.dropLast, xs.getLast hx, (List.dropLast_concat_getLast hx).symm⟩
  rw [List.map_append, List.map_cons, List.map_nil, at_last]
  simp
theorem w66 [c : Sc1 t] {xs : List Int} (hx : xs ≠ []) (h : Q (.val (.int (xs.getLastD 0))) []) : W t (n + 1) 66 [.val (.lst (xs.map .int))] Q X := by
  refine w_at (fd := d66) [some (.val (.lst (xs.map .int)))] c.a66 rfl rfl ?_
  unfold d66 b66
  walk_at "s"
  obtain ⟨ys, y, rfl⟩ : ∃ ys y, xs = ys ++ [y] := ⟨xs.dropLast, xs.getLast hx, (List.dropLast_concat_getLast hx).symm⟩
  rw [List.map_append, List.map_cons, List.map_nil, at_last]
  walk_at "ev"
  simpa using h
theorem w67 [c : Sc1 t] {xs : List Int} (hx : xs ≠ []) (hl : xs.length ≤ 1000) (h : Q (.val (.int (xs.sum / xs.length))) []) : W t (n + 1) 67 [.val (.lst (xs.map .int))] Q X := by
  refine w_at (fd := d67) [some (.val (.lst (xs.map .int)))] c.a67 rfl rfl ?_
  unfold d67 b67
  walk_at "s"
  refine sum_w ?_
  walk_at "ev"
  rw [List.length_map]
  have : 0 < xs.length := List.length_pos_iff.mpr hx
  exact ⟨cdiv (by omega) (sm64 (by omega) (by omega)) (by decide), h⟩
def secF : Sec → Nat
  | .best => 65
  | .last => 66
  | .mean => 67
theorem w_sec [c : Sc1 t] {sc : Sec} {xs : List Int} (hx : xs ≠ []) (hl : xs.length ≤ 1000) (h : Q (.val (.int (comb sc xs))) []) : W t (n + 1) (secF sc) [.val (.lst (xs.map .int))] Q X := by
  cases sc with
  | best => exact w65 hx h
  | last => exact w66 hx h
  | mean => exact w67 hx hl h
theorem look_sec (sc : Sec) : lookK [.inr ("best" : Str), .inr ("last" : Str), .inr ("mean" : Str)] [.fn 65, .fn 66, .fn 67] (.inr (secS sc)) = some (.fn (secF sc)) := by cases sc <;> rfl
theorem secF_mem (sc : Sec) : secF sc ∈ [65, 66, 67] := by cases sc <;> decide
/-- the tries' points, in a comprehension -/
theorem tries_map {ts : List Try} {f : Try → D} {g : D → D} (h : ∀ x ∈ ts, g (tryD x) = f x) : (ts.map tryD).map g = ts.map f := by
  rw [List.map_map]
  exact List.map_congr_left h
def ptsD (w : Wrk) (c : Int) : D → D
  | .tup [.int p, .int d] => .int (tryPts w c (p, d))
  | _ => .non
theorem w68 [Cu t] [c : Sc1 t] {w : Wrk} {r : Rule} {x : Res} (hw : WkOk w) (hr : RuleOk r) (hx : ResOk w x) (h : Q (.val (scoreD w r x)) [rulO r]) : W t (n + 2) 68 [.val (wkD w), .bor (rulO r), .val (resD x)] Q X := by
  refine w_at (fd := d68) [some (.val (wkD w)), some (.bor (rulO r)), some (.val (resD x)), none, none, none] c.a68 rfl rfl ?_
  unfold d68 b68
  cases x with
  | non =>
    unfold resD
    walk_at "i"
    refine if_T ?_
    walk_at "s"
    exact h
  | exc =>
    unfold resD
    walk_at "i"
    refine if_F (cutN ?_)
    walk_at "i"
    refine if_T ?_
    walk_at "s"
    exact h
  | tr ts =>
    obtain ⟨⟨h1, h2⟩, h3, h4⟩ := hx
    have ne : ts.map (tryPts w r.cut) ≠ [] := fun z => by rw [List.map_eq_nil_iff] at z; rw [z] at h1; simp at h1
    simp only [resD, wkD, rulO, rulD]
    walk_at "i"
    refine if_F (cutN ?_)
    walk_at "i"
    refine if_F (cutN ?_)
    walk_at "s"
    rw [look_sec]
    walk_at "ev"
    walk_at "s"
    refine ⟨secF_mem _, ?_⟩
    rw [m_lc]
    walk_at "ev"
    refine lc_map (ptsD w r.cut) (fun x hx R hR => ?_) ?_
    · obtain ⟨y, hy, rfl⟩ := List.mem_map.mp hx
      obtain ⟨⟨a, b⟩, c', d⟩ := h3 y hy
      have hm : 0 ≤ (if y.2 - w.1 > 0 then y.2 - w.1 else 0) ∧ (if y.2 - w.1 > 0 then y.2 - w.1 else 0) ≤ 200 := by
        have := hw.1
        split <;> omega
      unfold tryD
      walk_at "ev"
      refine w31 ⟨a, by have := hw.2.2; omega⟩ hm hr.cut ?_
      walk_at "ev"
      exact hR
    · walk_at "ev"
      rw [tries_map (f := fun x => .int (tryPts w r.cut x)) (fun x _ => rfl)]
      have e : ts.map (fun x => D.int (tryPts w r.cut x)) = (ts.map (tryPts w r.cut)).map .int := by rw [List.map_map]; rfl
      rw [e]
      refine w_sec ne (by rw [List.length_map]; omega) ?_
      walk_at "ev"
      exact h
theorem w122 [Wh t] [Iw0 t] [Cu t] [Sc0 t] [Sc1 t] [c : Sc2 t] {w : Wrk} {r : Rule} {x : Res} (hw : WkOk w) (hr : RuleOk r) (hx : ResOk w x) (h : Q (.val (scoreD w r x)) [rulO r]) : W t (n + 6) 122 [.val (wkD w), .bor (rulO r), .val (resD x)] Q X := by
  refine w_at (fd := d122) [some (.val (wkD w)), some (.bor (rulO r)), some (.val (resD x))] c.a122 rfl rfl ?_
  unfold d122 b122
  walk_at "s"
  refine w121 hw ?_
  walk_at "ev"
  walk_at "s"
  refine w49 ?_
  walk_at "ev"
  walk_at "i"
  refine w51 (t2_res x) (fun xs e => by
    cases x with
    | non => cases e
    | exc => cases e
    | tr ts => cases e; rw [List.length_map]; have := hx.1; omega) ?_
  rw [isRes_ok hx]
  walk_at "ev"
  refine cutN ?_
  walk_at "s"
  refine w68 hw hr hx ?_
  walk_at "ev"
  exact h
theorem w68v [Cu t] [c : Sc1 t] {w : Wrk} {r : Rule} {x : Res} (hw : WkOk w) (hr : RuleOk r) (hx : ResOk w x) (h : Q (.val (scoreD w r x)) []) : W t (n + 2) 68 [.val (wkD w), .val (rulD r), .val (resD x)] Q X := by
  refine w_at (fd := d68) [some (.val (wkD w)), some (.val (rulD r)), some (.val (resD x)), none, none, none] c.a68 rfl rfl ?_
  unfold d68 b68
  cases x with
  | non =>
    unfold resD
    walk_at "i"
    refine if_T ?_
    walk_at "s"
    exact h
  | exc =>
    unfold resD
    walk_at "i"
    refine if_F (cutN ?_)
    walk_at "i"
    refine if_T ?_
    walk_at "s"
    exact h
  | tr ts =>
    obtain ⟨⟨h1, h2⟩, h3, h4⟩ := hx
    have ne : ts.map (tryPts w r.cut) ≠ [] := fun z => by rw [List.map_eq_nil_iff] at z; rw [z] at h1; simp at h1
    simp only [resD, wkD, rulO, rulD]
    walk_at "i"
    refine if_F (cutN ?_)
    walk_at "i"
    refine if_F (cutN ?_)
    walk_at "s"
    rw [look_sec]
    walk_at "ev"
    walk_at "s"
    refine ⟨secF_mem _, ?_⟩
    rw [m_lc]
    walk_at "ev"
    refine lc_map (ptsD w r.cut) (fun x hx R hR => ?_) ?_
    · obtain ⟨y, hy, rfl⟩ := List.mem_map.mp hx
      obtain ⟨⟨a, b⟩, c', d⟩ := h3 y hy
      have hm : 0 ≤ (if y.2 - w.1 > 0 then y.2 - w.1 else 0) ∧ (if y.2 - w.1 > 0 then y.2 - w.1 else 0) ≤ 200 := by
        have := hw.1
        split <;> omega
      unfold tryD
      walk_at "ev"
      refine w31 ⟨a, by have := hw.2.2; omega⟩ hm hr.cut ?_
      walk_at "ev"
      exact hR
    · walk_at "ev"
      rw [tries_map (f := fun x => .int (tryPts w r.cut x)) (fun x _ => rfl)]
      have e : ts.map (fun x => D.int (tryPts w r.cut x)) = (ts.map (tryPts w r.cut)).map .int := by rw [List.map_map]; rfl
      rw [e]
      refine w_sec ne (by rw [List.length_map]; omega) ?_
      walk_at "ev"
      exact h
theorem w122v [Wh t] [Iw0 t] [Cu t] [Sc0 t] [Sc1 t] [c : Sc2 t] {w : Wrk} {r : Rule} {x : Res} (hw : WkOk w) (hr : RuleOk r) (hx : ResOk w x) (h : Q (.val (scoreD w r x)) []) : W t (n + 6) 122 [.val (wkD w), .val (rulD r), .val (resD x)] Q X := by
  refine w_at (fd := d122) [some (.val (wkD w)), some (.val (rulD r)), some (.val (resD x))] c.a122 rfl rfl ?_
  unfold d122 b122
  walk_at "s"
  refine w121 hw ?_
  walk_at "ev"
  walk_at "s"
  refine w49v ?_
  walk_at "ev"
  walk_at "i"
  refine w51 (t2_res x) (fun xs e => by
    cases x with
    | non => cases e
    | exc => cases e
    | tr ts => cases e; rw [List.length_map]; have := hx.1; omega) ?_
  rw [isRes_ok hx]
  walk_at "ev"
  refine cutN ?_
  walk_at "s"
  refine w68v hw hr hx ?_
  walk_at "ev"
  exact h
/-- a rule as drawn -/
abbrev rulT (r : Rule) : D := .tup [.int r.drop, .int r.cut, .str (secS r.sec)]
theorem at_sec {i : Int} {Z : D → Prop} (h1 : 0 ≤ i) (h2 : i < 3) (h : ∀ sc, Z (.str (secS sc))) : atW (L2.atI [.str ("best" : Str), .str ("last" : Str), .str ("mean" : Str)] i) Z := by
  refine at_any h1 h2 fun x hx => ?_
  simp only [List.mem_cons, List.not_mem_nil, or_false] at hx
  rcases hx with rfl | rfl | rfl
  · exact h .best
  · exact h .last
  · exact h .mean
end
/-! rule1: rules and tries drawn (5, 18, 36) -/
class Rl1 (t : Text) : Prop where
  a5 : t.at 5 = some d5
class Mk1 (t : Text) : Prop where
  a18 : t.at 18 = some d18
class Ty1 (t : Text) : Prop where
  a36 : t.at 36 = some d36
section
variable {t : Text} {n : Nat} {Q : RV → List OV → Prop} {X : Exn → List OV → Prop}
theorem w5 [Dr1 t] [c : Rl1 t] {s : List D} (g : Good s) (h : ∀ r s', Good s' → RuleOk r → Q (.val (rulT r)) [.lst s']) : W t (n + 2) 5 [.bor (.lst s)] Q X := by
  refine w_at (fd := d5) [some (.bor (.lst s)), none, none] c.a5 rfl rfl ?_
  unfold d5 b5
  walk_at "s"
  refine w2 g (by decide) (by decide) fun a s ha ha2 g => ?_
  walk_at "ev"
  refine w2 g (by decide) (by decide) fun b s hb hb2 g => ?_
  walk_at "ev"
  refine w2 g (by decide) (by decide) fun b' s hb' hb2' g => ?_
  walk_at "ev"
  refine w2 g (by decide) (by decide) fun v s hv hv2 g => ?_
  walk_at "ev"
  refine at_int (xs := [0, 100, b, b']) 0 100 hv (by simpa using hv2) (by simp; omega) fun cut h0 h1 => ?_
  walk_at "ev"
  walk_at "s"
  refine w2 g (by decide) (by decide) fun u s hu hu2 g => ?_
  walk_at "ev"
  refine at_sec hu hu2 fun sc => ?_
  walk_at "ev"
  exact h ⟨a, cut, sc⟩ s g ⟨⟨ha, by show a ≤ 5; omega⟩, h0, h1⟩
theorem w18 [Wh t] [Ru t] [c : Mk1 t] {r : Rule} (hr : RuleOk r) (h : Q (.fr (rulO r)) []) : W t (n + 6) 18 [.val (rulT r)] Q X := by
  refine w_at (fd := d18) [some (.val (rulT r))] c.a18 rfl rfl ?_
  unfold d18 b18 rulT
  walk_at "s"
  refine w12 hr.drop hr.cut (sec_second _) ?_
  walk_at "ev"
  exact h
theorem w36 [Dr1 t] [c : Ty1 t] {s : List D} {w : Wrk} (g : Good s) (hw : WkOk w) (h : ∀ x s', Good s' → TryOk w x → Q (.val (tryD x)) [.lst s']) : W t (n + 2) 36 [.bor (.lst s), .val (wkD w)] Q X := by
  refine w_at (fd := d36) [some (.bor (.lst s)), some (.val (wkD w)), none, none] c.a36 rfl rfl ?_
  obtain ⟨⟨w1, w2'⟩, w3, w4⟩ := hw
  unfold d36 b36 wkD
  walk_at "s"
  refine w2 g (by omega) (by omega) fun a s ha ha2 g => ?_
  walk_at "ev"
  refine w2 g (by decide) (by decide) fun v s hv hv2 g => ?_
  walk_at "ev"
  refine at_int (xs := [0, w.2.1, a]) 0 w.2.1 hv (by simpa using hv2) (by simp; omega) fun got g0 g1 => ?_
  walk_at "ev"
  walk_at "s"
  refine w2 g (by decide) (by decide) fun b s hb hb2 g => ?_
  walk_at "ev"
  refine w2 g (by decide) (by decide) fun b' s hb' hb2' g => ?_
  walk_at "ev"
  refine w2 g (by decide) (by decide) fun b'' s hb'' hb2'' g => ?_
  walk_at "ev"
  refine w2 g (by decide) (by decide) fun v s hv hv2 g => ?_
  walk_at "ev"
  refine at_int (xs := [0, b, b', b'']) 0 200 hv (by simpa using hv2) (by simp; omega) fun far f0 f1 => ?_
  walk_at "ev"
  walk_at "s"
  refine w2 g (by decide) (by decide) fun v s hv hv2 g => ?_
  walk_at "ev"
  refine at_int (xs := [if w.1 + far < 200 then w.1 + far else 200, far]) 0 200 (by split <;> omega) (by simp only [List.length_cons, List.length_nil]; split <;> omega) (by
    intro x hx
    simp only [List.mem_cons, List.not_mem_nil, or_false] at hx
    rcases hx with rfl | rfl
    · split <;> omega
    · omega) fun dt d0 d1 => ?_
  walk_at "ev"
  exact h (got, dt) s g ⟨⟨g0, g1⟩, d0, d1⟩
/-- tries sorted by their days -/
def byDay (ts : List Try) : List Try := ts.mergeSort fun a b => decide (a.2 ≤ b.2)
theorem byDay_perm (ts : List Try) : (byDay ts).Perm ts := List.mergeSort_perm ..
theorem byDay_up (ts : List Try) : (byDay ts).Pairwise fun a b => a.2 ≤ b.2 := by
  have := List.pairwise_mergeSort (le := fun a b : Try => decide (a.2 ≤ b.2)) (fun a b c h1 h2 => by simp at *; omega) (fun a b => by simp; omega) ts
  exact this.imp fun h => by simpa using h
theorem byDay_D (ts : List Try) : (ts.map tryD).mergeSort (fun a b => decide (key1 a ≤ key1 b)) = (byDay ts).map tryD := (PySem.W.sort_maps tryD fun _ _ _ _ => rfl).symm
theorem has1_tries (ts : List Try) : (ts.map tryD).all has1 = true := by
  rw [List.all_map, List.all_eq_true]
  intro x _
  rfl
end
/-! ownr: repr of Rules (165) -/
class Rr (t : Text) : Prop where
  a165 : t.at 165 = some d165
section
variable {t : Text} {n : Nat} {Q : RV → List OV → Prop} {X : Exn → List OV → Prop}
theorem spc_d {F : Nat → G.Spec} {o1 : Option (Nat × Exn)} {g1 : Nat → Nat → Exn → (RV → Prop) → Prop} {k : SP} {c f : Nat} {X : XP} {R : PostE} {x : D} {env : G.Env} (hx : isIns c (some x) = true) (h : F f [.val x] (fun r _ => spW k r fun r => R r env) (fun e _ => X e env)) : spcW ⟨F, o1, g1⟩ k c f X R (.d x) env := ⟨hx, _, rfl, by simp [lent], h⟩
theorem spc_s {F : Nat → G.Spec} {o1 : Option (Nat × Exn)} {g1 : Nat → Nat → Exn → (RV → Prop) → Prop} {k : SP} {c f i : Nat} {X : XP} {R : PostE} {x : D} {env : G.Env} (he : env[i]? = some (some (.val x))) (hx : isIns c (some x) = true) (h : F f [.val x] (fun r _ => spW k r fun r => R r env) (fun e _ => X e env)) : spcW ⟨F, o1, g1⟩ k c f X R (.slot i) env := by
  have e1 : res env (.slot i) = some x := by simp only [res, he]; rfl
  have e2 : handed env (.slot i) = some (.val x) := by simp only [handed, he]
  have e3 : lent env [.slot i] [.inl 0] = [] := by simp only [lent, List.getElem?_cons_zero, he]
  refine ⟨by rw [e1]; exact hx, [.val x], ?_, by rw [e3]; exact List.nodup_nil, ?_⟩
  · rw [List.map_cons, e2]; rfl
  · rw [e3]
    simp only [back_0]
    exact h
def rulS (r : Rule) : Str := Str.empty ++ ("Rules(drop=" : Str) ++ (toString r.drop : Str) ++ (", cut=" : Str) ++ (toString r.cut : Str) ++ (", second=" : Str) ++ secS r.sec ++ (")" : Str)
theorem w165 [c : Rr t] {r : Rule} (hr : RuleOk r) (h : Q (.val (.str (rulS r))) []) : W t (n + 1) 165 [.val (rulD r)] Q X := by
  refine w_at (fd := d165) [some (.val (rulD r))] c.a165 rfl rfl ?_
  unfold d165 b165 rulD
  walk_at "s"
  have hd : (toString r.drop : Str).length ≤ 70 := by
    have := int_len r.drop
    have := sm_log (sm64 (i := r.drop) (by have := hr.drop; omega) (by have := hr.drop; omega))
    omega
  have hc : (toString r.cut : Str).length ≤ 70 := by
    have := int_len r.cut
    have := sm_log (sm64 (i := r.cut) (by have := hr.cut; omega) (by have := hr.cut; omega))
    omega
  have hs : (secS r.sec).length ≤ 4 := by cases r.sec <;> decide
  have k1 : ("Rules(drop=" : Str).length = 11 := by decide
  have k2 : (", cut=" : Str).length = 6 := by decide
  have k3 : (", second=" : Str).length = 9 := by decide
  have k4 : (")" : Str).length = 1 := by decide
  have k0 : (Str.empty).length = 0 := by decide
  have ll : line = 16777216 := rfl
  have l1 : r.drop.natAbs.log2 < 1920 := by have := sm_log (sm64 (i := r.drop) (by have := hr.drop; omega) (by have := hr.drop; omega)); omega
  have l2 : r.cut.natAbs.log2 < 1920 := by have := sm_log (sm64 (i := r.cut) (by have := hr.cut; omega) (by have := hr.cut; omega)); omega
  simp only [str_len_append, k0, k1, k2, k3, k4]
  refine ⟨by omega, v_fsti l1 ⟨by omega, by omega, v_fsti l2 ⟨by omega, by omega, by omega, by omega, ?_⟩⟩⟩
  exact h
end
/-! sz: what may be shown, by depth and size -/
def Sz (n b : Nat) (d : D) : Prop := fit n d = true ∧ wt n d ≤ b
theorem Sz.mono {n b c : Nat} {d : D} (h : Sz n b d) (hb : b ≤ c) : Sz n c d := ⟨h.1, Nat.le_trans h.2 hb⟩
theorem Sz.shw {b : Nat} {d : D} (h : Sz 50 b d) (hb : b ≤ line) : Shw d := ⟨h.1, Nat.le_trans h.2 hb⟩
theorem sz_int {n : Nat} {i : Int} (h : Sm 200 i) : Sz n 202 (.int i) := by
  have l := sm_log h
  have e1 : fit n (.int i) = decide (i.natAbs.log2 < 1920) := by cases n <;> rfl
  have e2 : wt n (.int i) = i.natAbs.log2 + 2 := by cases n <;> rfl
  exact ⟨by rw [e1]; exact decide_eq_true (by omega), by rw [e2]; omega⟩
theorem sz_non {n : Nat} : Sz n 4 .non := ⟨by cases n <;> rfl, by cases n <;> exact Nat.le_refl _⟩
theorem sz_bl {n : Nat} {b : Bool} : Sz n 5 (.bl b) := ⟨by cases n <;> rfl, by cases n <;> exact Nat.le_refl _⟩
theorem sz_str {n b : Nat} {s : Str} (h : asc s = true) (hb : 10 * s.length + 2 ≤ b) : Sz n b (.str s) := by
  have e1 : fit n (.str s) = okStr s := by cases n <;> rfl
  have e2 : wt n (.str s) = 10 * s.length + 2 := by cases n <;> rfl
  exact ⟨by rw [e1]; exact asc_ok h, by rw [e2]; exact hb⟩
theorem sz_sum {n b : Nat} : ∀ {xs : List D}, (∀ x ∈ xs, Sz n b x) → (xs.map fun x => wt n x + 2).sum ≤ xs.length * (b + 2)
  | [], _ => Nat.zero_le _
  | x :: xs, h => by
    have h1 := (h x (List.mem_cons_self ..)).2
    have h2 := sz_sum (xs := xs) fun y hy => h y (List.mem_cons_of_mem _ hy)
    rw [List.map_cons, List.sum_cons, List.length_cons, Nat.add_mul]
    omega
theorem sz_tup {n b : Nat} {xs : List D} (h : ∀ x ∈ xs, Sz n b x) : Sz (n + 1) (xs.length * (b + 2) + 3) (.tup xs) := by
  refine ⟨?_, ?_⟩
  · simp only [fit]
    exact List.all_eq_true.mpr fun x hx => (h x hx).1
  · simp only [wt]
    have := sz_sum h
    omega
theorem sz_lst {n b : Nat} {xs : List D} (h : ∀ x ∈ xs, Sz n b x) : Sz (n + 1) (xs.length * (b + 2) + 3) (.lst xs) := by
  refine ⟨?_, ?_⟩
  · simp only [fit]
    exact List.all_eq_true.mpr fun x hx => (h x hx).1
  · simp only [wt]
    have := sz_sum h
    omega
theorem sz_le {b c : Nat} {xs : List D} (hl : xs.length ≤ c) : xs.length * (b + 2) + 3 ≤ c * (b + 2) + 3 := Nat.add_le_add_right (Nat.mul_le_mul_right _ hl) 3
theorem shw_and {d : D} {P : Prop} (h : Shw d) (q : P) : plainR d = true ∧ (toPy d).showable = true ∧ (toPy d).depth ≤ 60 ∧ (showD d).length ≤ line ∧ P := by
  obtain ⟨a, b, c, e⟩ := fit_ok 50 d h.1
  exact ⟨a, b, by omega, Nat.le_trans e h.2, q⟩
/-! nest: repr of data with Rules within (198: two such alike) -/
class Sn (t : Text) : Prop where
  a198 : t.at 198 = some d198
def T0 : D → Str
  | .ins _ [.int a, .int b, .str s] => Str.empty ++ ("Rules(drop=" : Str) ++ (toString a : Str) ++ (", cut=" : Str) ++ (toString b : Str) ++ (", second=" : Str) ++ s ++ (")" : Str)
  | _ => Str.empty
theorem T0_rul (r : Rule) : T0 (rulD r) = rulS r := rfl
theorem rulS_len {r : Rule} (hr : RuleOk r) : (rulS r).length ≤ 200 := by
  have hd : (toString r.drop : Str).length ≤ 70 := by
    have := int_len r.drop
    have := sm_log (sm64 (i := r.drop) (by have := hr.drop; omega) (by have := hr.drop; omega))
    omega
  have hc : (toString r.cut : Str).length ≤ 70 := by
    have := int_len r.cut
    have := sm_log (sm64 (i := r.cut) (by have := hr.cut; omega) (by have := hr.cut; omega))
    omega
  have hs : (secS r.sec).length ≤ 4 := by cases r.sec <;> decide
  have k1 : ("Rules(drop=" : Str).length = 11 := by decide
  have k2 : (", cut=" : Str).length = 6 := by decide
  have k3 : (", second=" : Str).length = 9 := by decide
  have k4 : (")" : Str).length = 1 := by decide
  have k0 : (Str.empty).length = 0 := by decide
  unfold rulS
  simp only [str_len_append, k0, k1, k2, k3, k4]
  omega
mutual
theorem plain_nest {c : Nat} : ∀ {d : D}, plainR d = true → nestD c d = true ∧ hasI d = false ∧ insts d = []
  | .non, _ => ⟨rfl, rfl, rfl⟩
  | .bl _, _ => ⟨rfl, rfl, rfl⟩
  | .int _, _ => ⟨rfl, rfl, rfl⟩
  | .str _, _ => ⟨rfl, rfl, rfl⟩
  | .lst _, h => ⟨by simpa only [nestD] using h, rfl, rfl⟩
  | .dct _ _ _, h => ⟨by simpa only [nestD] using h, rfl, rfl⟩
  | .fn _, h => by simp [plainR] at h
  | .scr _, h => by simp [plainR] at h
  | .exn _, h => by simp [plainR] at h
  | .ins _ _, h => by simp [plainR] at h
  | .tup ds, h => by
    obtain ⟨a, b, e⟩ := plain_nests (c := c) (ds := ds) (by simpa only [plainR] using h)
    exact ⟨by simpa only [nestD] using a, by simpa only [hasI] using b, by simpa only [insts] using e⟩
theorem plain_nests {c : Nat} : ∀ {ds : List D}, plainRs ds = true → nestDs c ds = true ∧ hasIs ds = false ∧ instss ds = []
  | [], _ => ⟨rfl, rfl, rfl⟩
  | d :: ds, h => by
    simp only [plainRs, Bool.and_eq_true] at h
    obtain ⟨a, b, e⟩ := plain_nest (c := c) h.1
    obtain ⟨a', b', e'⟩ := plain_nests (c := c) h.2
    exact ⟨by simp [nestDs, a, a'], by simp [hasIs, b, b'], by simp [instss, e, e']⟩
end
theorem nestS_of : ∀ {d : D}, hasI d = false → (toPy d).showable = true → (toPy d).depth ≤ 60 → nestS d = true
  | .tup ds, h, a, b => by
    simp only [hasI] at h
    simp [nestS, h, a, b]
  | .non, _, a, b => by simp [nestS, a, b]
  | .bl _, _, a, b => by simp [nestS, a, b]
  | .int _, _, a, b => by simp [nestS, a, b]
  | .str _, _, a, b => by simp [nestS, a, b]
  | .lst _, _, a, b => by simp [nestS, a, b]
  | .dct _ _ _, _, a, b => by simp [nestS, a, b]
  | .ins _ _, h, _, _ => by simp [hasI] at h
  | .fn _, _, a, b => by simp [nestS, a, b]
  | .scr _, _, a, b => by simp [nestS, a, b]
  | .exn _, _, a, b => by simp [nestS, a, b]
/-- data with Rules within: l tuples above them, a text of b signs at most -/
structure Nz (b l : Nat) (d : D) : Prop where
  nest : nestD 0 d = true
  sh : nestS d = true
  lev : G.lev d ≤ l
  len : (showN T0 d).length ≤ b
  ins : ∀ y ∈ insts d, ∃ r, RuleOk r ∧ y = rulD r
theorem Nz.mono {b c l m : Nat} {d : D} (h : Nz b l d) (hb : b ≤ c) (hl : l ≤ m) : Nz c m d := ⟨h.nest, h.sh, Nat.le_trans h.lev hl, Nat.le_trans h.len hb, h.ins⟩
theorem nz_plain {n b : Nat} {d : D} (hn : n ≤ 60) (h : Sz n b d) : Nz b 0 d := by
  obtain ⟨a1, a2, a3, a4⟩ := fit_ok n d h.1
  obtain ⟨b1, b2, b3⟩ := plain_nest (c := 0) a1
  refine ⟨b1, nestS_of b2 a2 (by omega), by rw [lev_has b2]; exact Nat.le_refl _, ?_, by rw [b3]; simp⟩
  rw [show_plain b2]
  exact Nat.le_trans a4 h.2
theorem nz_rul {r : Rule} (hr : RuleOk r) : Nz 200 0 (rulD r) :=
  ⟨rfl, rfl, Nat.le_refl _, rulS_len hr, fun y hy => ⟨r, hr, by simpa [insts, rulD] using hy⟩⟩
theorem nzs {b l : Nat} : ∀ {xs : List D}, (∀ x ∈ xs, Nz b l x) → nestDs 0 xs = true ∧ nestSs xs = true ∧ levs xs ≤ l ∧ ((showNs T0 xs).map (·.length)).sum ≤ xs.length * b ∧ (showNs T0 xs).length = xs.length ∧ ∀ y ∈ instss xs, ∃ r, RuleOk r ∧ y = rulD r
  | [], _ => ⟨rfl, rfl, Nat.zero_le _, Nat.zero_le _, rfl, by simp [instss]⟩
  | x :: xs, h => by
    have hx := h x (List.mem_cons_self ..)
    obtain ⟨a, b', c, d, e, f⟩ := nzs (xs := xs) fun y hy => h y (List.mem_cons_of_mem _ hy)
    refine ⟨by simp [nestDs, hx.nest, a], by simp [nestSs, hx.sh, b'], ?_, ?_, by simp [showNs, e], ?_⟩
    · simp only [levs]
      have := hx.lev
      omega
    · simp only [showNs, List.map_cons, List.sum_cons, List.length_cons, Nat.succ_mul]
      have := hx.len
      omega
    · intro y hy
      simp only [instss, List.mem_append] at hy
      rcases hy with hy | hy
      · exact hx.ins y hy
      · exact f y hy
theorem nz_tup {b l : Nat} {xs : List D} (h : ∀ x ∈ xs, Nz b l x) (hi : hasIs xs = true) : Nz (xs.length * b + 2 * xs.length + 3) (l + 1) (.tup xs) := by
  obtain ⟨a, b', c, d, e, f⟩ := nzs h
  refine ⟨by simpa only [nestD] using a, by simpa [nestS, hi] using b', by simp only [G.lev, hi, if_true]; omega, ?_, by simpa only [insts] using f⟩
  simp only [showN, hi, if_true]
  have := tupleText_len_le (showNs T0 xs)
  rw [e] at this
  omega
section
variable {t : Text} {n : Nat} {Q : RV → List OV → Prop} {X : Exn → List OV → Prop}
theorem nst_p {Γ : Fns} {c f : Nat} {X : XP} {d : D} {Q : RV → Prop} {env : G.Env} (hd : Shw d) (q : Q (.val (.str (showD d)))) : nstW Γ c f X (some d) Q env := by
  obtain ⟨a, b, c', e⟩ := fit_ok 50 d hd.1
  exact .inl ⟨d, rfl, ⟨a, b, by omega, Nat.le_trans e hd.2⟩, q⟩
theorem nst_r [Rr t] {o : Option (Nat × Exn)} {g : Nat → Nat → Exn → (RV → Prop) → Prop} {X : XP} {ds : List D} {b : Nat} {Q : RV → Prop} {env : G.Env} (h : Nz b 2 (.tup ds)) (hb : b ≤ line) (hi : hasIs ds = true) (q : Q (.val (.str (showN T0 (.tup ds))))) : nstW ⟨W t (n + 1), o, g⟩ 0 165 X (some (.tup ds)) Q env := by
  refine .inr ⟨ds, T0, rfl, ⟨h.nest, h.sh, hi, h.lev, Nat.le_trans h.len hb⟩, fun y hy => ?_, q⟩
  obtain ⟨r, hr, rfl⟩ := h.ins y hy
  exact (w165 (n := n) (t := t) (Q := fun r1 _ => r1 = RV.val (D.str (T0 (rulD r)))) (X := fun e _ => X e env) hr rfl :)
theorem w198p [c : Sn t] {d : D} (hd : Shw d) (h : Q (.val (.bl true)) []) : W t (n + 2) 198 [.val d, .val d] Q X := by
  refine w_at (fd := d198) [some (.val d), some (.val d)] c.a198 rfl rfl ?_
  unfold d198 b198
  walk_at "s"
  refine nst_p hd (nst_p hd ?_)
  walk_at "ev"
  exact h
theorem w198r [Rr t] [c : Sn t] {ds : List D} {b : Nat} (hn : Nz b 2 (.tup ds)) (hb : b ≤ line) (hi : hasIs ds = true) (h : Q (.val (.bl true)) []) : W t (n + 2) 198 [.val (.tup ds), .val (.tup ds)] Q X := by
  refine w_at (fd := d198) [some (.val (.tup ds)), some (.val (.tup ds))] c.a198 rfl rfl ?_
  unfold d198 b198
  walk_at "s"
  refine nst_r hn hb hi (nst_r hn hb hi ?_)
  walk_at "ev"
  exact h
end
/-! odd: things of any sort, bounded; spoilt ones -/
class Od (t : Text) : Prop where
  a4 : t.at 4 = some d4
  a96 : t.at 96 = some d96
  a97 : t.at 97 = some d97
class Od0 (t : Text) : Prop where
  a96 : t.at 96 = some d96
instance odOf {t : Text} [c : Od t] : Od0 t := ⟨c.a96⟩
/-- bounded data: m spoilings, k deep -/
def Bd (m : Nat) : Nat → D → Prop
  | _, .non => True
  | _, .bl _ => True
  | _, .int i => i.natAbs ≤ 100000000000000000000000000000 + 1000 * m
  | _, .str s => asc s = true ∧ s.length ≤ 10 + m
  | k + 1, .tup xs => xs.length ≤ 13 + m ∧ ∀ x ∈ xs, Bd m k x
  | k + 1, .lst xs => xs.length ≤ 13 + m ∧ ∀ x ∈ xs, Bd m k x
  | _ + 1, .dct false ks vs => (ks = [] ∧ vs = []) ∨ (ks = [.inl 0] ∧ vs = [.int 1])
  | _, _ => False
theorem Bd.up {m : Nat} : ∀ {k : Nat} {d : D}, Bd m k d → Bd m (k + 1) d
  | k, .non, _ => by cases k <;> trivial
  | k, .bl _, _ => by cases k <;> trivial
  | k, .int _, h => by cases k <;> exact h
  | k, .str _, h => by cases k <;> exact h
  | k + 1, .tup xs, h => ⟨h.1, fun x hx => (h.2 x hx).up⟩
  | k + 1, .lst xs, h => ⟨h.1, fun x hx => (h.2 x hx).up⟩
  | k + 1, .dct false _ _, h => h
  | k + 1, .dct true _ _, h => h.elim
  | 0, .tup _, h => h.elim
  | 0, .lst _, h => h.elim
  | 0, .dct false _ _, h => h.elim
  | 0, .dct true _ _, h => h.elim
  | k, .ins _ _, h => by cases k <;> exact h.elim
  | k, .fn _, h => by cases k <;> exact h.elim
  | k, .scr _, h => by cases k <;> exact h.elim
  | k, .exn _, h => by cases k <;> exact h.elim
theorem Bd.le {m k j : Nat} {d : D} (h : Bd m k d) (hj : k ≤ j) : Bd m j d := by
  induction hj with
  | refl => exact h
  | step _ ih => exact ih.up
theorem Bd.next {m : Nat} : ∀ {k : Nat} {d : D}, Bd m k d → Bd (m + 1) k d
  | k, .non, _ => by cases k <;> trivial
  | k, .bl _, _ => by cases k <;> trivial
  | k, .int i, h => by
    have h : i.natAbs ≤ 100000000000000000000000000000 + 1000 * m := by cases k <;> exact h
    have h' : i.natAbs ≤ 100000000000000000000000000000 + 1000 * (m + 1) := by omega
    clear h
    cases k <;> exact h'
  | k, .str s, h => by
    have h : asc s = true ∧ s.length ≤ 10 + m := by cases k <;> exact h
    have h' : asc s = true ∧ s.length ≤ 10 + (m + 1) := ⟨h.1, by omega⟩
    clear h
    cases k <;> exact h'
  | k + 1, .tup xs, h => ⟨by have := h.1; omega, fun x hx => (h.2 x hx).next⟩
  | k + 1, .lst xs, h => ⟨by have := h.1; omega, fun x hx => (h.2 x hx).next⟩
  | k + 1, .dct false _ _, h => h
  | k + 1, .dct true _ _, h => h.elim
  | 0, .tup _, h => h.elim
  | 0, .lst _, h => h.elim
  | 0, .dct false _ _, h => h.elim
  | 0, .dct true _ _, h => h.elim
  | k, .ins _ _, h => by cases k <;> exact h.elim
  | k, .fn _, h => by cases k <;> exact h.elim
  | k, .scr _, h => by cases k <;> exact h.elim
  | k, .exn _, h => by cases k <;> exact h.elim
theorem Bd.ty {m k : Nat} {d : D} (h : Bd m k d) : tyOk d = true := by
  cases d <;> first
    | rfl
    | (cases k <;> exact h.elim)
/-- the weights -/
def wb : Nat → Nat
  | 0 => 160
  | k + 1 => 16 * (wb k + 2) + 3
theorem wb_up (k : Nat) : 160 ≤ wb k := by
  induction k with
  | zero => exact Nat.le_refl _
  | succ k ih => simp only [wb]; omega
theorem sum_le {f : D → Nat} {b : Nat} : ∀ {xs : List D}, (∀ x ∈ xs, f x ≤ b) → (xs.map f).sum ≤ xs.length * b
  | [], _ => Nat.zero_le _
  | x :: xs, h => by
    have h1 := h x (List.mem_cons_self ..)
    have h2 := sum_le (xs := xs) fun y hy => h y (List.mem_cons_of_mem _ hy)
    rw [List.map_cons, List.sum_cons, List.length_cons, Nat.succ_mul]
    omega
theorem log_big {i : Int} (h : i.natAbs ≤ 100000000000000000000000003000) : i.natAbs.log2 ≤ 100 := sm_log (n := 100) (by
  unfold Sm
  exact Nat.lt_of_le_of_lt h (by decide))
theorem Bd.fit {m : Nat} (hm : m ≤ 3) : ∀ {k j : Nat} {d : D}, Bd m k d → k ≤ j → G.fit j d = true ∧ wt j d ≤ wb k
  | k, j, .non, _, _ => by
    have := wb_up k
    exact ⟨by cases j <;> rfl, by rw [show wt j .non = 4 by cases j <;> rfl]; omega⟩
  | k, j, .bl b, _, _ => by
    have := wb_up k
    exact ⟨by cases j <;> rfl, by rw [show wt j (.bl b) = 5 by cases j <;> rfl]; omega⟩
  | k, j, .int i, h, _ => by
    have := wb_up k
    have h : i.natAbs ≤ 100000000000000000000000000000 + 1000 * m := by cases k <;> exact h
    have h2 := log_big (i := i) (by omega)
    refine ⟨?_, by rw [show wt j (.int i) = i.natAbs.log2 + 2 by cases j <;> rfl]; omega⟩
    have : decide (i.natAbs.log2 < 1920) = true := decide_eq_true (by omega)
    cases j <;> exact this
  | k, j, .str s, h, _ => by
    have := wb_up k
    have h : asc s = true ∧ s.length ≤ 10 + m := by cases k <;> exact h
    exact ⟨by have := asc_ok h.1; cases j <;> exact this, by rw [show wt j (.str s) = 10 * s.length + 2 by cases j <;> rfl]; omega⟩
  | k + 1, 0, .tup xs, _, hj => by omega
  | k + 1, 0, .lst xs, _, hj => by omega
  | k + 1, j + 1, .tup xs, h, hj => by
    have ih : ∀ x ∈ xs, G.fit j x = true ∧ wt j x ≤ wb k := fun x hx => (h.2 x hx).fit hm (by omega)
    refine ⟨by simp only [G.fit]; exact List.all_eq_true.mpr fun x hx => (ih x hx).1, ?_⟩
    have s := sum_le (f := fun x => wt j x + 2) (b := wb k + 2) (xs := xs) fun x hx => by have := (ih x hx).2; omega
    have l : xs.length * (wb k + 2) ≤ 16 * (wb k + 2) := Nat.mul_le_mul_right _ (by have := h.1; omega)
    simp only [wt, wb]
    omega
  | k + 1, j + 1, .lst xs, h, hj => by
    have ih : ∀ x ∈ xs, G.fit j x = true ∧ wt j x ≤ wb k := fun x hx => (h.2 x hx).fit hm (by omega)
    refine ⟨by simp only [G.fit]; exact List.all_eq_true.mpr fun x hx => (ih x hx).1, ?_⟩
    have s := sum_le (f := fun x => wt j x + 2) (b := wb k + 2) (xs := xs) fun x hx => by have := (ih x hx).2; omega
    have l : xs.length * (wb k + 2) ≤ 16 * (wb k + 2) := Nat.mul_le_mul_right _ (by have := h.1; omega)
    simp only [wt, wb]
    omega
  | k + 1, 0, .dct false _ _, _, hj => by omega
  | k + 1, j + 1, .dct false ks vs, h, _ => by
    have := wb_up k
    rcases h with ⟨rfl, rfl⟩ | ⟨rfl, rfl⟩
    · exact ⟨rfl, by simp only [wt, wb, List.map_nil, List.sum_nil]; omega⟩
    · refine ⟨by cases j <;> rfl, ?_⟩
      have e : wt j (.int 1) = 2 := by cases j <;> rfl
      simp only [wt, wb, wtK, List.map_cons, List.map_nil, List.sum_cons, List.sum_nil, e]
      show 0 + 2 + 2 + 0 + (2 + 2 + 0) + 3 ≤ _
      omega
  | k + 1, _, .dct true _ _, h, _ => h.elim
  | 0, _, .tup _, h, _ => h.elim
  | 0, _, .lst _, h, _ => h.elim
  | 0, _, .dct false _ _, h, _ => h.elim
  | 0, _, .dct true _ _, h, _ => h.elim
  | k, _, .ins _ _, h, _ => by cases k <;> exact h.elim
  | k, _, .fn _, h, _ => by cases k <;> exact h.elim
  | k, _, .scr _, h, _ => by cases k <;> exact h.elim
  | k, _, .exn _, h, _ => by cases k <;> exact h.elim
theorem Bd.shw {m : Nat} (hm : m ≤ 3) {d : D} (h : Bd m 4 d) : Shw d := by
  obtain ⟨a, b⟩ := h.fit hm (j := 50) (by decide)
  exact ⟨a, Nat.le_trans b (by decide)⟩
section
variable {t : Text} {n : Nat} {Q : RV → List OV → Prop} {X : Exn → List OV → Prop}
theorem w4 [c : Od t] {d : D} (hd : tyOk d = true) (h : Q (.val (.bl (whole d))) []) : W t (n + 1) 4 [.val d] Q X := by
  refine w_at (fd := d4) [some (.val d)] c.a4 rfl rfl ?_
  unfold d4 b4
  walk_at "s"
  rw [v_ty hd]
  cases d <;> first
    | exact absurd hd Bool.false_ne_true
    | (walk_at "ev"; exact h)
def odds : List D := [D.non, D.bl true, D.bl false, D.int 0, D.int 1, D.int (-1), D.int (10 ^ Int.toNat 29), D.str (Str.ofString ""), D.str (Str.ofString "ann"), D.str (Str.ofString "excused"), D.str (Str.ofString "best"), D.tup [], D.lst [], D.dct false [] [], D.tup [D.int 0], D.lst [D.int 0],
  D.tup [D.non], D.tup [D.tup []]] ++ [D.str (Str.ofString "drop"), D.dct false [Sum.inl 0] [D.int 1]]
theorem odds_ok : ∀ d ∈ odds, Bd 0 2 d := by
  exact fa_cons trivial (fa_cons trivial (fa_cons trivial (fa_cons (show _ ≤ _ by decide) (fa_cons (show _ ≤ _ by decide) (fa_cons (show _ ≤ _ by decide) (fa_cons (show _ ≤ _ by decide) (fa_cons ⟨by decide, by decide⟩ (fa_cons ⟨by decide, by decide⟩ (fa_cons ⟨by decide, by decide⟩ (fa_cons ⟨by decide, by decide⟩ (fa_cons ⟨by decide, fa_nil⟩ (fa_cons ⟨by decide, fa_nil⟩ (fa_cons (Or.inl ⟨rfl, rfl⟩) (fa_cons ⟨by decide, fa_cons (show _ ≤ _ by decide) fa_nil⟩ (fa_cons ⟨by decide, fa_cons (show _ ≤ _ by decide) fa_nil⟩ (fa_cons ⟨by decide, fa_cons trivial fa_nil⟩ (fa_cons ⟨by decide, fa_cons ⟨by decide, fa_nil⟩ fa_nil⟩ (fa_cons ⟨by decide, by decide⟩ (fa_cons (Or.inr ⟨rfl, rfl⟩) (fa_nil))))))))))))))))))))
/-- one of the odd things -/
theorem w96 [Dr1 t] [c : Od0 t] {s : List D} (g : Good s) (h : ∀ d s', Good s' → Bd 0 2 d → Q (.val d) [.lst s']) : W t (n + 2) 96 [.bor (.lst s)] Q X := by
  refine w_at (fd := d96) [some (.bor (.lst s)), none] c.a96 rfl rfl ?_
  unfold d96 b96
  walk_at "s"
  refine ⟨⟨by decide, by decide, by decide⟩, ?_⟩
  walk_at "s"
  refine ⟨show 18 + 2 ≤ line by decide, ?_⟩
  refine w2 g (by decide) (by decide) fun v s hv hv2 g => ?_
  walk_at "ev"
  refine at_any (xs := odds) hv hv2 fun d hd => ?_
  exact h d s g (odds_ok d hd)
/-- a list that changed: still bounded -/
theorem bd_row {m k : Nat} {xs : List D} (h : Bd m (k + 1) (.lst xs)) : Bd m (k + 1) (.tup xs) := h
abbrev K97 (Q : RV → List OV → Prop) : G.K := ⟨fun env => Q (.val .non) (bors env), fun r env => Q r (bors env), fun _ => False, fun _ => False⟩
theorem Bd.odd {m k : Nat} {d : D} (h : Bd 0 2 d) : Bd (m + 1) (k + 2) d := by
  have h2 : Bd (m + 1) 2 d := by
    induction m with
    | zero => exact h.next
    | succ m ih => exact ih.next
  exact h2.le (by omega)
theorem eraseIdx_mem {α : Type} {x : α} : ∀ {xs : List α} {k : Nat}, x ∈ xs.eraseIdx k → x ∈ xs
  | [], _, h => by simp at h
  | _ :: _, 0, h => List.mem_cons_of_mem _ h
  | a :: xs, k + 1, h => by
    rw [List.eraseIdx_cons_succ] at h
    rcases List.mem_cons.mp h with rfl | h
    · exact List.mem_cons_self ..
    · exact List.mem_cons_of_mem _ (eraseIdx_mem h)
section
variable {N m e : Nat} {s : List D} {d : D}
theorem s97_5 {ys : List D} {a b : Int} {d : D} (h : Q (.val (.tup ys)) [.lst s]) : wSs ⟨W t N, none, G.Wh t N⟩ (b97.drop 5) [some (.bor (.lst s)), some (.val d), some (.val (.int e)), some (.val (.int a)), some (.val (.int b)), some (.own (.lst ys))] (fun x env => X x (bors env)) (K97 Q) := by
  show wSs ⟨W t N, none, G.Wh t N⟩ [_] _ _ _
  walk_at "s"
  exact h
theorem s97_3 [Dr1 t] [c : Od t] {xs : List D} {a b : Int} (he : 0 < e) (g : Good s) (hd : Bd m (e + 2) (.tup xs)) (ha : 0 ≤ a) (ha2 : a < xs.length)
    (IH : ∀ (s : List D) (x : D) (Q : RV → List OV → Prop) (X : Exn → List OV → Prop), Good s → Bd m (e + 1) x → (∀ r s', Good s' → Bd (m + 1) (e + 1) r.toD → Q r [.lst s']) → W t (N + 2) 97 [.bor (.lst s), .val x, .val (.int ((e : Int) - 1))] Q X)
    (hm : m ≤ 2) (h : ∀ r s', Good s' → Bd (m + 1) (e + 2) r.toD → Q r [.lst s']) :
    wSs ⟨W t (N + 2), none, G.Wh t (N + 2)⟩ (b97.drop 4) [some (.bor (.lst s)), some (.val (.tup xs)), some (.val (.int e)), some (.val (.int a)), some (.val (.int b)), some (.own (.lst xs))] (fun x env => X x (bors env)) (K97 Q) := by
  have hl : xs.length ≤ 13 + m := hd.1
  have hx : ∀ x ∈ xs, Bd (m + 1) (e + 1) x := fun x hx => (hd.2 x hx).next
  obtain ⟨k, rfl⟩ : ∃ k : Nat, a = k := ⟨a.toNat, by omega⟩
  have hk : k < xs.length := by omega
  have fin : ∀ s ys, Good s → ys.length ≤ 14 + m → (∀ y ∈ ys, Bd (m + 1) (e + 1) y) → wSs ⟨W t (N + 2), none, G.Wh t (N + 2)⟩ (b97.drop 5) [some (.bor (.lst s)), some (.val (.tup xs)), some (.val (.int e)), some (.val (.int (k : Int))), some (.val (.int b)), some (.own (.lst ys))] (fun x env => X x (bors env)) (K97 Q) :=
    fun s ys g h1 h2 => s97_5 (h _ s g ⟨by show ys.length ≤ 13 + (m + 1); omega, h2⟩)
  show wSs _ (_ :: _) _ _ _
  walk_at "i"
  refine if_d (fun h0 => ?_) (fun h0 => ?_)
  · walk_at "s"
    refine w96 g fun x s g hx2 => ?_
    walk_at "ev"
    refine ⟨⟨by omega, by omega, by unfold line; omega⟩, ?_⟩
    refine cutN (fin s _ g ?_ ?_)
    · simp; omega
    · intro y hy
      simp only [List.mem_append, List.mem_singleton] at hy
      rcases hy with (hy | rfl) | hy
      · exact hx y (List.mem_of_mem_take hy)
      · exact (hx2.odd (m := m) (k := e - 1)).le (by omega)
      · exact hx y (List.mem_of_mem_drop hy)
  · have ix : L2.ixN xs.length (k : Int) = some k := by
      unfold L2.ixN
      rw [if_pos (by omega), if_pos (by omega)]
      simp
    walk_at "i"
    refine if_d (fun h1 => ?_) (fun h1 => ?_)
    · walk_at "s"
      simp only [v_popA]
      refine ⟨by omega, k, xs[k], ix, List.getElem?_eq_getElem hk, ?_⟩
      walk_at "ev"
      refine cutN (cutN (fin s _ g ?_ ?_))
      · rw [List.length_eraseIdx]; split <;> omega
      · exact fun y hy => hx y (eraseIdx_mem hy)
    · walk_at "i"
      refine if_d (fun h2 => ?_) (fun h2 => ?_)
      · walk_at "s"
        refine ⟨xs[k], at_nat (List.getElem?_eq_getElem hk), ?_⟩
        walk_at "ev"
        refine ⟨⟨by omega, by omega, by unfold line; omega⟩, ?_⟩
        refine cutN (cutN (cutN (fin s _ g ?_ ?_)))
        · simp; omega
        · intro y hy
          simp only [List.mem_append, List.mem_singleton] at hy
          rcases hy with (hy | rfl) | hy
          · exact hx y (List.mem_of_mem_take hy)
          · exact hx _ (List.getElem_mem hk)
          · exact hx y (List.mem_of_mem_drop hy)
      · walk_at "i"
        refine if_d (fun h3 => ?_) (fun h3 => ?_)
        · walk_at "s"
          exact h _ s g ⟨by show xs.length ≤ _; omega, hx⟩
        · walk_at "i"
          refine if_d (fun h4 => ?_) (fun h4 => ?_)
          · walk_at "s"
            simp only [v_popA]
            refine ⟨by omega, k, xs[k], ix, List.getElem?_eq_getElem hk, ?_⟩
            walk_at "ev"
            refine ⟨by rw [List.length_eraseIdx]; unfold line; split <;> omega, ?_⟩
            refine cutN (cutN (cutN (cutN (cutN (fin s _ g ?_ ?_)))))
            · rw [List.length_append, List.length_eraseIdx]; simp; split <;> omega
            · intro y hy
              rcases List.mem_append.mp hy with hy | hy
              · exact hx y (eraseIdx_mem hy)
              · rw [List.mem_singleton] at hy; rw [hy]; exact hx _ (List.getElem_mem hk)
          · walk_at "s"
            refine ⟨xs[k], at_nat (List.getElem?_eq_getElem hk), ?_⟩
            walk_at "ev"
            refine IH s _ _ _ g (hd.2 _ (List.getElem_mem hk)) fun r s g hr => ?_
            walk_at "ev"
            refine ⟨k, ix, cutN (cutN (cutN (cutN (cutN (fin s _ g ?_ ?_)))))⟩
            · rw [List.length_set]; omega
            · intro y hy
              rcases List.mem_or_eq_of_mem_set hy with hy | rfl
              · exact hx y hy
              · exact hr
/-- a list, a tuple, a text .. is spoilt -/
theorem s97_2 [Dr1 t] [c : Od t] (g : Good s) (hd : Bd m (e + 2) d)
    (IH : 0 < e → ∀ (s : List D) (x : D) (Q : RV → List OV → Prop) (X : Exn → List OV → Prop), Good s → Bd m (e + 1) x → (∀ r s', Good s' → Bd (m + 1) (e + 1) r.toD → Q r [.lst s']) → W t (N + 2) 97 [.bor (.lst s), .val x, .val (.int ((e : Int) - 1))] Q X)
    (hm : m ≤ 2) (h : ∀ r s', Good s' → Bd (m + 1) (e + 2) r.toD → Q r [.lst s']) :
    wSs ⟨W t (N + 2), none, G.Wh t (N + 2)⟩ (b97.drop 2) [some (.bor (.lst s)), some (.val d), some (.val (.int e)), none, none, none] (fun x env => X x (bors env)) (K97 Q) := by
  have odd : wSs ⟨W t (N + 2), none, G.Wh t (N + 2)⟩ [.ret (.call 96 [(.ref 0)] [.inl 0])] [some (.bor (.lst s)), some (.val d), some (.val (.int e)), none, none, none] (fun x env => X x (bors env))
      ⟨fun env => wSs ⟨W t (N + 2), none, G.Wh t (N + 2)⟩ (b97.drop 3) env (fun x env => X x (bors env)) (K97 Q), fun r env => Q r (bors env), fun _ => False, fun _ => False⟩ := by
    walk_at "s"
    refine w96 g fun x s g hx => ?_
    walk_at "ev"
    exact h _ s g hx.odd
  show wSs _ (_ :: _) _ _ _
  cases d with
  | tup xs =>
    walk_at "i"
    refine if_b (fun _ => odd) fun h1 => ?_
    refine if_d (fun _ => odd) fun h2 => ?_
    refine cutN ?_
    have he : 0 < e := by omega
    have hl : xs.length ≤ 13 + m := hd.1
    have h0 : 0 < xs.length := by
      cases xs with
      | nil => simp at h1
      | cons _ _ => simp
    walk_at "s"
    refine w2 g (by omega) (by omega) fun a s ha ha2 g => ?_
    walk_at "ev"
    refine w2 g (by decide) (by decide) fun b s hb hb2 g => ?_
    walk_at "ev"
    exact s97_3 he g hd ha ha2 (IH he) hm h
  | fn f => exact absurd hd.ty Bool.false_ne_true
  | scr f => exact absurd hd.ty Bool.false_ne_true
  | exn f => exact absurd hd.ty Bool.false_ne_true
  | _ =>
    walk_at "i"
    exact odd
theorem cut_len (z : Str) (lo hi : Option Int) : (L2.cutS z lo hi).length ≤ z.length := cutS_len z lo hi
/-- a text is bent -/
theorem s97_1 [Dr1 t] [c : Od t] (g : Good s) (hd : Bd m (e + 2) d)
    (IH : 0 < e → ∀ (s : List D) (x : D) (Q : RV → List OV → Prop) (X : Exn → List OV → Prop), Good s → Bd m (e + 1) x → (∀ r s', Good s' → Bd (m + 1) (e + 1) r.toD → Q r [.lst s']) → W t (N + 2) 97 [.bor (.lst s), .val x, .val (.int ((e : Int) - 1))] Q X)
    (hm : m ≤ 2) (h : ∀ r s', Good s' → Bd (m + 1) (e + 2) r.toD → Q r [.lst s']) :
    wSs ⟨W t (N + 2), none, G.Wh t (N + 2)⟩ (b97.drop 1) [some (.bor (.lst s)), some (.val d), some (.val (.int e)), none, none, none] (fun x env => X x (bors env)) (K97 Q) := by
  show wSs _ (_ :: _) _ _ _
  cases d with
  | str x =>
    have hx : asc x = true ∧ x.length ≤ 10 + m := hd
    walk_at "i"
    refine w2 g (by decide) (by decide) fun v s hv hv2 g => ?_
    walk_at "ev"
    refine if_d (fun h0 => ?_) (fun h0 => cutN (s97_2 g hd IH hm h))
    walk_at "s"
    have hl := hx.2
    have hu := upper_asc hx.1
    refine ⟨by show x.length + 1 ≤ line; unfold line; omega, by omega, by rw [hu.2]; unfold line; omega, by show x.length + 1 ≤ line; unfold line; omega, ?_⟩
    refine w2 g (by decide) (by decide) fun v s hv hv2 g => ?_
    walk_at "ev"
    refine at_any hv hv2 fun y hy => ?_
    refine h _ s g ?_
    have e1 : (x ++ Str.ofString "a").length = x.length + 1 := str_len_append ..
    have e2 : (x ++ Str.ofString " ").length = x.length + 1 := str_len_append ..
    have e3 := cut_len x none (some (-1))
    simp only [List.mem_cons, List.not_mem_nil, or_false] at hy
    rcases hy with rfl | rfl | rfl | rfl | rfl | rfl
    · exact ⟨asc_app hx.1 (by decide), by omega⟩
    · exact ⟨asc_cut hx.1, by omega⟩
    · exact ⟨hu.1, by rw [hu.2]; omega⟩
    · exact ⟨by decide, by show 2 ≤ _; omega⟩
    · exact ⟨by decide, by show 2 ≤ _; omega⟩
    · exact ⟨asc_app hx.1 (by decide), by omega⟩
  | fn f => exact absurd hd.ty Bool.false_ne_true
  | scr f => exact absurd hd.ty Bool.false_ne_true
  | exn f => exact absurd hd.ty Bool.false_ne_true
  | _ =>
    walk_at "i"
    exact if_F (cutN (s97_2 g hd IH hm h))
theorem go [Dr1 t] [c : Od t] (e N : Nat) {s : List D} {d : D} {Q : RV → List OV → Prop} {X : Exn → List OV → Prop} (hm : m ≤ 2) (g : Good s) (hd : Bd m (e + 2) d)
    (IH : 0 < e → ∀ (s : List D) (x : D) (Q : RV → List OV → Prop) (X : Exn → List OV → Prop), Good s → Bd m (e + 1) x → (∀ r s', Good s' → Bd (m + 1) (e + 1) r.toD → Q r [.lst s']) → W t (N + 2) 97 [.bor (.lst s), .val x, .val (.int ((e : Int) - 1))] Q X)
    (h : ∀ r s', Good s' → Bd (m + 1) (e + 2) r.toD → Q r [.lst s']) : W t (N + 3) 97 [.bor (.lst s), .val d, .val (.int e)] Q X := by
  refine w_at (fd := d97) [some (.bor (.lst s)), some (.val d), some (.val (.int e)), none, none, none] c.a97 rfl rfl ?_
  unfold d97 b97
  walk_at "i"
  refine w4 hd.ty ?_
  cases d with
  | int i =>
    have hi : i.natAbs ≤ 100000000000000000000000000000 + 1000 * m := hd
    simp only [whole]
    walk_at "ev"
    refine w2 g (by decide) (by decide) fun v s hv hv2 g => ?_
    walk_at "ev"
    refine if_d (fun h0 => ?_) (fun h0 => cutN (s97_1 g hd IH hm h))
    walk_at "s"
    refine w2 g (by decide) (by decide) fun v s hv hv2 g => ?_
    walk_at "ev"
    refine at_int (xs := [1, -1, 5, -5, 100, 201]) (-5) 201 hv (by simpa using hv2) (by decide) fun x h1 h2 => ?_
    walk_at "ev"
    exact h _ s g (show (i + x).natAbs ≤ 100000000000000000000000000000 + 1000 * (m + 1) by omega)
  | fn f => exact absurd hd.ty Bool.false_ne_true
  | scr f => exact absurd hd.ty Bool.false_ne_true
  | exn f => exact absurd hd.ty Bool.false_ne_true
  | _ =>
    simp only [whole]
    walk_at "ev"
    exact cutN (s97_1 g hd IH hm h)
/-- a thing spoilt -/
theorem w97 [Dr1 t] [c : Od t] : ∀ (e : Nat) {n : Nat} {s : List D} {d : D} {Q : RV → List OV → Prop} {X : Exn → List OV → Prop}, m ≤ 2 → Good s → Bd m (e + 2) d → (∀ r s', Good s' → Bd (m + 1) (e + 2) r.toD → Q r [.lst s']) → W t (n + e + 3) 97 [.bor (.lst s), .val d, .val (.int e)] Q X := by
  intro e
  induction e with
  | zero =>
    intro n s d Q X hm g hd h
    exact go 0 n hm g hd (fun z => absurd z (by decide)) h
  | succ e ih =>
    intro n s d Q X hm g hd h
    refine go (e + 1) (n + e + 1) hm g hd (fun _ s x Q X g hx k => ?_) h
    have q := ih (n := n) (X := X) hm g hx k
    rw [show n + e + 3 = n + e + 1 + 2 from rfl] at q
    rw [show (((e + 1 : Nat) : Int) - 1) = (e : Int) by omega]
    exact q
end
end
/-! rulq: Rules compared (201), another rule (17), a rule's text (103) -/
class Req (t : Text) : Prop where
  a201 : t.at 201 = some d201
class Rot (t : Text) : Prop where
  a17 : t.at 17 = some d17
  a103 : t.at 103 = some d103
/-- two rules alike -/
def ruleq (r q : Rule) : Bool := eqD (rulT r) (rulT q)
theorem Bd.data {m k : Nat} {d : D} (h : Bd m k d) : isData (some d) = true ∧ tyD (.cls 0) d = false := by
  cases d <;> first
    | exact ⟨rfl, rfl⟩
    | (cases k <;> exact h.elim)
    | skip
  rename_i w _ _
  cases w
  · exact ⟨rfl, rfl⟩
  · cases k <;> exact h.elim
section
variable {t : Text} {n : Nat} {Q : RV → List OV → Prop} {X : Exn → List OV → Prop}
theorem w201r [c : Req t] {r q : Rule} (h : Q (.val (.bl (ruleq r q))) []) : W t (n + 1) 201 [.val (rulD r), .val (rulD q)] Q X := by
  refine w_at (fd := d201) [some (.val (rulD r)), some (.val (rulD q))] c.a201 rfl rfl ?_
  unfold d201 b201
  walk_at "i"
  rw [v_ty (show tyOk (rulD q) = true from rfl), show tyD (.cls 0) (rulD q) = true from rfl]
  walk_at "ev"
  refine cutN ?_
  unfold rulD
  walk_at "s"
  refine ⟨rfl, rfl, ?_⟩
  exact h
theorem w201d [c : Req t] {r : Rule} {y : D} (hy : tyOk y = true) (hy0 : tyD (.cls 0) y = false) (h : Q (.val (.bl false)) []) : W t (n + 1) 201 [.val (rulD r), .val y] Q X := by
  refine w_at (fd := d201) [some (.val (rulD r)), some (.val y)] c.a201 rfl rfl ?_
  unfold d201 b201
  walk_at "i"
  rw [v_ty hy, hy0]
  walk_at "ev"
  walk_at "s"
  exact h
theorem w103 [c : Rot t] {r : Rule} (hr : RuleOk r) (h : Q (.val (.str (rulS r))) []) : W t (n + 1) 103 [.val (rulT r)] Q X := by
  refine w_at (fd := d103) [some (.val (rulT r)), none] c.a103 rfl rfl ?_
  unfold d103 b103 rulT
  walk_at "s"
  have hd : (toString r.drop : Str).length ≤ 70 := by
    have := int_len r.drop
    have := sm_log (sm64 (i := r.drop) (by have := hr.drop; omega) (by have := hr.drop; omega))
    omega
  have hc : (toString r.cut : Str).length ≤ 70 := by
    have := int_len r.cut
    have := sm_log (sm64 (i := r.cut) (by have := hr.cut; omega) (by have := hr.cut; omega))
    omega
  have hs : (secS r.sec).length ≤ 4 := by cases r.sec <;> decide
  have k1 : ("Rules(drop=" : Str).length = 11 := by decide
  have k2 : (", cut=" : Str).length = 6 := by decide
  have k3 : (", second=" : Str).length = 9 := by decide
  have k4 : (")" : Str).length = 1 := by decide
  have ll : line = 16777216 := rfl
  have l1 : r.drop.natAbs.log2 < 1920 := by have := sm_log (sm64 (i := r.drop) (by have := hr.drop; omega) (by have := hr.drop; omega)); omega
  have l2 : r.cut.natAbs.log2 < 1920 := by have := sm_log (sm64 (i := r.cut) (by have := hr.cut; omega) (by have := hr.cut; omega)); omega
  refine ⟨l1, by omega, ?_⟩
  simp only [str_len_append, k1, k2]
  refine ⟨by omega, by omega, l2, by omega, by omega, ?_⟩
  walk_at "s"
  simp only [str_len_append, k1, k2, k3, k4]
  refine ⟨by omega, by omega, by omega, ?_⟩
  have e : ("Rules(drop=" : Str) ++ (toString r.drop : Str) ++ (", cut=" : Str) ++ (toString r.cut : Str) ++ (", second=" : Str) ++ secS r.sec ++ (")" : Str) = rulS r := by
    unfold rulS
    rw [show Str.empty ++ ("Rules(drop=" : Str) = ("Rules(drop=" : Str) by decide +kernel]
  rw [e]
  exact h
theorem w17 [Dr1 t] [Rl1 t] [c : Rot t] {s : List D} {r : Rule} (g : Good s) (hr : RuleOk r) (h : ∀ q s', Good s' → RuleOk q → Q (.val (rulT q)) [.lst s']) : W t (n + 3) 17 [.bor (.lst s), .val (rulT r)] Q X := by
  refine w_at (fd := d17) [some (.bor (.lst s)), some (.val (rulT r)), none, none] c.a17 rfl rfl ?_
  unfold d17 b17
  walk_at "s"
  refine w2 g (by decide) (by decide) fun v s hv hv2 g => ?_
  walk_at "ev"
  refine w5 g fun q s g hq => ?_
  walk_at "ev"
  obtain rfl | rfl | rfl | rfl : v = 0 ∨ v = 1 ∨ v = 2 ∨ v = 3 := by omega
  · walk_at "i"
    refine if_d (fun z => absurd z (by decide)) fun _ => ?_
    refine cutN ?_
    unfold rulT
    walk_at "s"
    rw [show cutD [D.int r.drop, D.int r.cut, D.str (secS r.sec)] none (some 0) = [] from rfl, show cutD [D.int r.drop, D.int r.cut, D.str (secS r.sec)] (some (0 + 1)) none = [D.int r.cut, D.str (secS r.sec)] from rfl]
    refine ⟨show 0 + 1 ≤ line by decide, show 1 + 2 ≤ line by decide, ?_⟩
    exact h ⟨q.drop, r.cut, r.sec⟩ s g ⟨hq.drop, hr.cut⟩
  · walk_at "i"
    refine if_d (fun z => absurd z (by decide)) fun _ => ?_
    refine cutN ?_
    unfold rulT
    walk_at "s"
    rw [show cutD [D.int r.drop, D.int r.cut, D.str (secS r.sec)] none (some 1) = [D.int r.drop] from rfl, show cutD [D.int r.drop, D.int r.cut, D.str (secS r.sec)] (some (1 + 1)) none = [D.str (secS r.sec)] from rfl]
    refine ⟨show 1 + 1 ≤ line by decide, show 2 + 1 ≤ line by decide, ?_⟩
    exact h ⟨r.drop, q.cut, r.sec⟩ s g ⟨hr.drop, hq.cut⟩
  · walk_at "i"
    refine if_d (fun z => absurd z (by decide)) fun _ => ?_
    refine cutN ?_
    unfold rulT
    walk_at "s"
    rw [show cutD [D.int r.drop, D.int r.cut, D.str (secS r.sec)] none (some 2) = [D.int r.drop, D.int r.cut] from rfl, show cutD [D.int r.drop, D.int r.cut, D.str (secS r.sec)] (some (2 + 1)) none = [] from rfl]
    refine ⟨show 2 + 1 ≤ line by decide, show 3 + 0 ≤ line by decide, ?_⟩
    exact h ⟨r.drop, r.cut, q.sec⟩ s g ⟨hr.drop, hr.cut⟩
  · walk_at "i"
    refine if_T ?_
    walk_at "s"
    refine w2 g (by decide) (by decide) fun v s hv hv2 g => ?_
    walk_at "ev"
    refine at_any (xs := [rulT r, rulT q]) hv (by simpa using hv2) fun d hd => ?_
    simp only [List.mem_cons, List.not_mem_nil, or_false] at hd
    rcases hd with rfl | rfl
    · exact h r s g hr
    · exact h q s g hq
end
instance : Wh tx := ⟨rfl, rfl⟩
instance : Ru tx := ⟨rfl, rfl, rfl, rfl, rfl⟩
instance : Sa tx := ⟨rfl⟩
instance : Dr1 tx := ⟨rfl, rfl, rfl⟩
instance : Rl1 tx := ⟨rfl⟩
instance : Mk1 tx := ⟨rfl⟩
instance : Rr tx := ⟨rfl⟩
instance : Od0 tx := ⟨rfl⟩
instance : Req tx := ⟨rfl⟩
instance : Rot tx := ⟨rfl, rfl⟩
section
variable {n : Nat} {Q : RV → List OV → Prop} {X : Exn → List OV → Prop}
theorem ruleq_self (r : Rule) : ruleq r r = true := SeqAt.eqv_refl_plain (toPy (rulT r)) rfl
theorem ruleq_com (r q : Rule) : ruleq r q = ruleq q r := by
  unfold ruleq rulT
  show ((r.drop == q.drop) && ((r.cut == q.cut) && ((secS r.sec == secS q.sec) && true))) = ((q.drop == r.drop) && ((q.cut == r.cut) && ((secS q.sec == secS r.sec) && true)))
  rw [BEq.comm (a := r.drop), BEq.comm (a := r.cut), BEq.comm (a := secS r.sec)]
theorem shw_bls (bs : List Bool) (h : bs.length ≤ 100) : Shw (.lst (bs.map .bl)) := by
  refine ((sz_lst (n := 49) (b := 5) fun x hx => ?_).mono (sz_le (c := 100) (by rw [List.length_map]; exact h))).shw (by decide)
  obtain ⟨b, _, rfl⟩ := List.mem_map.mp hx
  exact sz_bl
theorem str_as (a b c : Str) : a ++ (b ++ c) = a ++ b ++ c := by
  show (⟨a.cps ++ (b.cps ++ c.cps)⟩ : Str) = ⟨(a.cps ++ b.cps) ++ c.cps⟩
  rw [Array.append_assoc]
theorem two_text (r q : Rule) : showN T0 (.tup [rulD r, rulD q]) = ("(" : Str) ++ rulS r ++ (", " : Str) ++ rulS q ++ (")" : Str) := by
  show PySem.tupleText [rulS r, rulS q] = _
  unfold PySem.tupleText
  rw [show ((if [rulS r, rulS q].length == 1 then ",)" else ")" : String) : String) = ")" from rfl]
  show ("(" : Str) ++ (rulS r ++ (", " : Str) ++ rulS q) ++ (")" : Str) = _
  rw [str_as, str_as]
theorem law_holds : ∀ ns : List Int, ns.length ≤ 63 → W tx 20 202 [.val (.scr ns)] (fun r _ => r = .val (.bl true)) (fun _ _ => False) := by
  intro ns hns
  refine w_at (fd := d202) [some (.val (.scr ns)), none, none, none, none, none, none, none, none, none] rfl rfl rfl ?_
  unfold d202 b202
  walk_at "f"
  refine ⟨⟨by split <;> (try split) <;> omega, by split <;> (try split) <;> omega⟩, ?_⟩
  refine for_inv (fun env => ∃ x1 o2 x3 x4 x5 x6 x7 x8 x9, env = [some (.val (.scr ns)), vO x1, oO o2, vO x3, vO x4, vO x5, vO x6, vO x7, vO x8, vO x9]) ⟨none, none, none, none, none, none, none, none, none, rfl⟩ ?_ ?_
  · rintro d hd env R ⟨x1, o2, x3, x4, x5, x6, x7, x8, x9, rfl⟩ hR
    obtain ⟨k, rfl, hk, _⟩ := rng_mem hd
    walk_at "ev"
    walk_at "s"
    refine w1 hk fun s g => ?_
    walk_at "ev"
    walk_at "f"
    refine ⟨by decide, ?_⟩
    refine for_inv (fun env => ∃ (s : List D) (x3 x4 x5 x6 x7 x8 x9 : Option D), Good s ∧ env = [some (.val (.scr ns)), some (.val (.int k)), some (.own (.lst s)), vO x3, vO x4, vO x5, vO x6, vO x7, vO x8, vO x9]) ⟨s, x3, x4, x5, x6, x7, x8, x9, g, rfl⟩ ?_ ?_
    · clear hd g s
      rintro d hd env R' ⟨s, x3, x4, x5, x6, x7, x8, x9, g, rfl⟩ hR'
      obtain ⟨t, rfl, _, _⟩ := rng_mem hd
      walk_at "ev"
      walk_at "s"
      refine w5 g fun r s g hr => ?_
      walk_at "ev"
      walk_at "s"
      refine w17 g hr fun q s g hq => ?_
      walk_at "ev"
      walk_at "s"
      refine w18 hr ?_
      walk_at "ev"
      refine w18 hq ?_
      walk_at "ev"
      walk_at "s"
      refine ⟨rfl, rfl, ?_⟩
      walk_at "ev"
      refine ⟨⟨by decide, by decide, by simp⟩, rfl, rfl, show 2 + 2 ≤ line by decide, ?_⟩
      rw [show eqD (.tup [.int r.drop, .int r.cut, .str (secS r.sec)]) (.tup [.int q.drop, .int q.cut, .str (secS q.sec)]) = ruleq r q from rfl,
        show (List.replicate (Int.toNat 2) [D.bl (ruleq r q)]).flatten ++ [D.bl (!ruleq r q), D.bl true] = [D.bl (ruleq r q), D.bl (ruleq r q), D.bl (!ruleq r q), D.bl true] from rfl]
      walk_at "i"
      refine own_id rfl rfl (w201r ⟨_, rfl, ?_⟩)
      walk_at "ev"
      refine own_id rfl rfl (w201r ⟨_, rfl, ?_⟩)
      walk_at "ev"
      refine own_id rfl rfl (w201r ⟨_, rfl, ?_⟩)
      walk_at "ev"
      refine own_id rfl rfl (w201r ⟨_, rfl, ?_⟩)
      walk_at "ev"
      rw [ruleq_com q r, ruleq_self r]
      have shL : Shw (.lst [.bl (ruleq r q), .bl (ruleq r q), .bl (!ruleq r q), .bl true]) := shw_bls [ruleq r q, ruleq r q, !ruleq r q, true] (show 4 ≤ 100 by decide)
      refine w13 shL ?_
      walk_at "ev"
      refine cutN ?_
      walk_at "f"
      refine spc_s rfl rfl ?_
      refine w165 hr ⟨_, rfl, ?_⟩
      walk_at "ev"
      refine w96 g fun o s g ho => ?_
      walk_at "ev"
      have hth : ∀ y ∈ [rulT r, D.lst [.int r.drop, .int r.cut, .str (secS r.sec)], .str (rulS r), o, .non], isData (some y) = true ∧ tyD (.cls 0) y = false ∧ tyOk y = true := by
        intro y hy
        simp only [List.mem_cons, List.not_mem_nil, or_false] at hy
        rcases hy with rfl | rfl | rfl | rfl | rfl
        · exact ⟨rfl, rfl, rfl⟩
        · exact ⟨rfl, rfl, rfl⟩
        · exact ⟨rfl, rfl, rfl⟩
        · exact ⟨ho.data.1, ho.data.2, ho.ty⟩
        · exact ⟨rfl, rfl, rfl⟩
      refine for_inv (fun env => ∃ (z : Option D), env = [some (.val (.scr ns)), some (.val (.int k)), some (.own (.lst s)), some (.val (.int t)), some (.val (rulT r)), some (.val (rulT q)), some (.val (rulD r)), some (.val (rulD q)), some (.val (.lst [.bl (ruleq r q), .bl (ruleq r q), .bl (!ruleq r q), .bl true])), vO z]) ⟨_, rfl⟩ ?_ ?_
      · rintro d hd env R2 ⟨z, rfl⟩ hR2
        obtain ⟨d1, d2, d3⟩ := hth d hd
        walk_at "ev"
        walk_at "i"
        refine own_id rfl (by cases d <;> first | exact d1 | (cases d1)) (w201d d3 d2 ⟨_, rfl, ?_⟩)
        walk_at "ev"
        refine own_di d1 rfl (w201d d3 d2 ⟨_, rfl, ?_⟩)
        walk_at "ev"
        refine own_id rfl (by cases d <;> first | exact d1 | (cases d1)) (w201d d3 d2 ⟨_, rfl, ?_⟩)
        walk_at "ev"
        refine w13 (shw_bls [false, false, true] (by decide)) ?_
        walk_at "ev"
        refine cutN ?_
        exact hR2 _ ⟨some _, rfl⟩
      · rintro env ⟨z, rfl⟩
        walk_at "s"
        refine w103 hr ?_
        walk_at "ev"
        have l1 := rulS_len hr
        have l2 := rulS_len hq
        have k1 : ("(" : Str).length = 1 := by decide
        have k2 : (", " : Str).length = 2 := by decide
        have k3 : (")" : Str).length = 1 := by decide
        have ll : line = 16777216 := rfl
        refine ⟨by omega, by rw [str_len_append]; omega, w103 hq ?_⟩
        walk_at "ev"
        simp only [str_len_append, k1, k2, k3]
        refine ⟨by omega, by omega, ?_⟩
        walk_at "i"
        refine spc_s rfl rfl ?_
        refine w165 hr ⟨_, rfl, ?_⟩
        walk_at "ev"
        refine w103 hr ?_
        walk_at "ev"
        have hN : Nz (2 * 200 + 2 * 2 + 3) 1 (.tup [rulD r, rulD q]) := nz_tup (b := 200) (l := 0) (xs := [rulD r, rulD q]) (fun x hx => by
          simp only [List.mem_cons, List.not_mem_nil, or_false] at hx
          rcases hx with rfl | rfl
          · exact nz_rul hr
          · exact nz_rul hq) rfl
        refine nst_r (hN.mono (Nat.le_refl _) (by decide)) (by decide) rfl ?_
        rw [two_text r q]
        walk_at "ev"
        refine cutN ?_
        exact hR' _ ⟨s, some _, some _, some _, some _, some _, some _, z, g, rfl⟩
    · rintro env ⟨s, x3, x4, x5, x6, x7, x8, x9, g, rfl⟩
      exact cutN (hR _ ⟨some _, some _, x3, x4, x5, x6, x7, x8, x9, rfl⟩)
  · rintro env ⟨x1, o2, x3, x4, x5, x6, x7, x8, x9, rfl⟩
    walk_at "s"
    rfl
end
abbrev top (i : Nat) : Stmt := PySem.Challenge.pw_classmarks_k03_rules_compared_and_shown.main.body.getD i (.Pass ⟨0, 0, 0, 0⟩)
def N0 : List Str := ["_law_script", "_law_k"]
def N1 : List Str := ["_law_script", "_law_k", "_law_cell"]
def N2 : List Str := ["_law_state_here", "_law_many", "_law_found", "_law_stirred"]
def N5 : List Str := ["_law_state_here", "_law_leave", "_law_loss"]
def N6 : List Str := ["thing"]
def N7 : List Str := ["thing", "low", "high"]
def N8 : List Str := ["thing"]
def N9 : List Str := ["thing"]
def N10 : List Str := ["thing"]
def N11 : List Str := ["name", "value", "is_let"]
def N12 : List Str := ["self", "drop", "cut", "second", "name", "value"]
def N13 : List Str := ["_law_found", "_law_due"]
def N17 : List Str := ["_law_state_here", "_law_rule_here", "_law_place", "_law_other_here"]
def N18 : List Str := ["_law_rule_here"]
def N96 : List Str := ["_law_state_here", "_law_some"]
def N103 : List Str := ["_law_rule_here", "_law_text_here"]
def N165 : List Str := ["self"]
def N201 : List Str := ["self", "other"]
def N202 : List Str := ["_law_script", "_law_k", "_law_state_here", "_law_turn", "_law_rule_here", "_law_mate", "_law_one", "_law_two", "_law_due", "_law_thing"]
abbrev upats : List (Nat × Nat × List Str × List (Sum Nat D)) := (0, 2, [], [.inl 0, .inl 1]) :: (1, 2, [], [.inl 0, .inl 1]) :: (2, 2, [], [.inl 0, .inl 1]) :: (5, 1, [], [.inl 0]) :: (17, 2, [], [.inl 0, .inl 1]) :: (6, 1, [], [.inl 0]) :: (7, 3, [], [.inl 0, .inl 1, .inl 2]) :: (8, 1, [], [.inl 0]) :: (9, 1, [], [.inl 0]) :: (10, 1, [], [.inl 0]) :: (11, 2, [], [.inl 0, .inl 1]) :: (12, 1, ["drop", "cut", "second"], [.inl 0, .inl 1, .inl 2, .inl 3]) :: (18, 1, [], [.inl 0]) :: (201, 2, [], [.inl 0, .inl 1]) :: (13, 2, [], [.inl 0, .inl 1]) :: (165, 1, [], [.inl 0]) :: (96, 1, [], [.inl 0]) :: (103, 1, [], [.inl 0]) :: []
def UH : HU := ⟨[], [], []⟩
def U : Tx := ⟨(0, "_law_cell_at") :: (1, "_law_state") :: (2, "_law_take") :: (5, "_law_rule") :: (6, "is_whole") :: (7, "is_between") :: (8, "is_drop") :: (9, "is_cut") :: (10, "is_second") :: (11, "is_rule") :: (13, "_law_same") :: (17, "_law_other") :: (18, "_law_made") :: (96, "_law_odd") :: (103, "_law_text") :: (202, "law") :: [], upats, [("IS_VALUE", (.dct true [.inr ("drop" : Str), .inr ("cut" : Str), .inr ("second" : Str)] [(.fn 8), (.fn 9), (.fn 10)])), ("MOST_DROP", (.int 5)), ("MOST_CUT", (.int 100)), ("SECONDS", (.tup [(.str ("best" : Str)), (.str ("last" : Str)), (.str ("mean" : Str))]))], ["range", "max", "min", "len", "isinstance", "bool", "int", "str", "repr", "list"], [(0, "Rules", 12)], [], [.bool, .int, .str, (.cls 0)], false, [(0, 201)], [(.repr, 0, 165)], [], [], UH, [(0, 165)]⟩
theorem ck0 : chkSs U N0 d0.body (defScope (top 17)) (defBody (top 17)) = true := by decide +kernel
theorem sc0 : C8.scC N0 ["_law_script", "_law_k"] (defScope (top 17)) = true := by decide +kernel
theorem ck1 : chkSs U N1 d1.body (defScope (top 18)) (defBody (top 18)) = true := by decide +kernel
theorem sc1 : C8.scC N1 ["_law_script", "_law_k"] (defScope (top 18)) = true := by decide +kernel
theorem ck2 : chkSs U N2 d2.body (defScope (top 19)) (defBody (top 19)) = true := by decide +kernel
theorem sc2 : C8.scC N2 ["_law_state_here", "_law_many"] (defScope (top 19)) = true := by decide +kernel
theorem ck5 : chkSs U N5 d5.body (defScope (top 20)) (defBody (top 20)) = true := by decide +kernel
theorem sc5 : C8.scC N5 ["_law_state_here"] (defScope (top 20)) = true := by decide +kernel
theorem ck6 : chkSs U N6 d6.body (defScope (top 4)) (defBody (top 4)) = true := by decide +kernel
theorem sc6 : C8.scC N6 ["thing"] (defScope (top 4)) = true := by decide +kernel
theorem ck7 : chkSs U N7 d7.body (defScope (top 5)) (defBody (top 5)) = true := by decide +kernel
theorem sc7 : C8.scC N7 ["thing", "low", "high"] (defScope (top 5)) = true := by decide +kernel
theorem ck8 : chkSs U N8 d8.body (defScope (top 10)) (defBody (top 10)) = true := by decide +kernel
theorem sc8 : C8.scC N8 ["thing"] (defScope (top 10)) = true := by decide +kernel
theorem ck9 : chkSs U N9 d9.body (defScope (top 11)) (defBody (top 11)) = true := by decide +kernel
theorem sc9 : C8.scC N9 ["thing"] (defScope (top 11)) = true := by decide +kernel
theorem ck10 : chkSs U N10 d10.body (defScope (top 12)) (defBody (top 12)) = true := by decide +kernel
theorem sc10 : C8.scC N10 ["thing"] (defScope (top 12)) = true := by decide +kernel
theorem ck11 : chkSs U N11 d11.body (defScope (top 14)) (defBody (top 14)) = true := by decide +kernel
theorem sc11 : C8.scC N11 ["name", "value"] (defScope (top 14)) = true := by decide +kernel
theorem ck12 : chkSs U N12 d12.body (defScope (inClass (top 15) 0)) (defBody (inClass (top 15) 0)) = true := by decide +kernel
theorem sc12 : C8.scC N12 ["self", "drop", "cut", "second"] (defScope (inClass (top 15) 0)) = true := by decide +kernel
theorem ck13 : chkSs U N13 d13.body (defScope (top 23)) (defBody (top 23)) = true := by decide +kernel
theorem sc13 : C8.scC N13 ["_law_found", "_law_due"] (defScope (top 23)) = true := by decide +kernel
theorem ck17 : chkSs U N17 d17.body (defScope (top 24)) (defBody (top 24)) = true := by decide +kernel
theorem sc17 : C8.scC N17 ["_law_state_here", "_law_rule_here"] (defScope (top 24)) = true := by decide +kernel
theorem ck18 : chkSs U N18 d18.body (defScope (top 21)) (defBody (top 21)) = true := by decide +kernel
theorem sc18 : C8.scC N18 ["_law_rule_here"] (defScope (top 21)) = true := by decide +kernel
theorem ck96 : chkSs U N96 d96.body (defScope (top 22)) (defBody (top 22)) = true := by decide +kernel
theorem sc96 : C8.scC N96 ["_law_state_here"] (defScope (top 22)) = true := by decide +kernel
theorem ck103 : chkSs U N103 d103.body (defScope (top 25)) (defBody (top 25)) = true := by decide +kernel
theorem sc103 : C8.scC N103 ["_law_rule_here"] (defScope (top 25)) = true := by decide +kernel
theorem ck165 : chkSs U N165 d165.body (defScope (inClass (top 15) 2)) (defBody (inClass (top 15) 2)) = true := by decide +kernel
theorem sc165 : C8.scC N165 ["self"] (defScope (inClass (top 15) 2)) = true := by decide +kernel
theorem ck201 : chkSs U N201 d201.body (defScope (inClass (top 15) 1)) (defBody (inClass (top 15) 1)) = true := by decide +kernel
theorem sc201 : C8.scC N201 ["self", "other"] (defScope (inClass (top 15) 1)) = true := by decide +kernel
theorem ck202 : chkSs U N202 d202.body (defScope (top 26)) (defBody (top 26)) = true := by decide +kernel
theorem sc202 : C8.scC N202 ["_law_script"] (defScope (top 26)) = true := by decide +kernel
theorem cf165 : chkSs U0 N165 d165.body (defScope (inClass (top 15) 2)) (defBody (inClass (top 15) 2)) = true := by decide +kernel
def lamNms : List Str := []
set_option maxHeartbeats 0 in
theorem facts {w : World} {K : PySem.W.Frag} {h : Heap} {mg : Str → Option Value} {fa : Addr} (X : K.In h) (Gn : h.Ns mainGlobals mg) (hfa : mg "law" = some (.ref fa))
    {C0 : Addr} {cd0 : ClassData} {ca0 : Value} {cb0 : Option Addr} {cl0 : Array (Option Value)}
    {f0 : Addr} {od0 an0 : Option Addr} {sl0 : Array (Option Value)} {oc0 kV0 dc0 pm0 ct_0 : Value} {cv0 : Value}
    {f1 : Addr} {od1 an1 : Option Addr} {sl1 : Array (Option Value)} {oc1 kV1 dc1 pm1 ct_1 : Value} {cv1 : Value}
    {f2 : Addr} {od2 an2 : Option Addr} {sl2 : Array (Option Value)} {oc2 kV2 dc2 pm2 ct_2 : Value} {cv2 : Value}
    {f5 : Addr} {od5 an5 : Option Addr} {sl5 : Array (Option Value)} {oc5 kV5 dc5 pm5 ct_5 : Value} {cv5 : Value}
    {f6 : Addr} {od6 an6 : Option Addr} {sl6 : Array (Option Value)} {oc6 kV6 dc6 pm6 ct_6 : Value} {cv6 : Value}
    {f7 : Addr} {od7 an7 : Option Addr} {sl7 : Array (Option Value)} {oc7 kV7 dc7 pm7 ct_7 : Value} {cv7 : Value}
    {f8 : Addr} {od8 an8 : Option Addr} {sl8 : Array (Option Value)} {oc8 kV8 dc8 pm8 ct_8 : Value} {cv8 : Value}
    {f9 : Addr} {od9 an9 : Option Addr} {sl9 : Array (Option Value)} {oc9 kV9 dc9 pm9 ct_9 : Value} {cv9 : Value}
    {f10 : Addr} {od10 an10 : Option Addr} {sl10 : Array (Option Value)} {oc10 kV10 dc10 pm10 ct_10 : Value} {cv10 : Value}
    {f11 : Addr} {od11 an11 : Option Addr} {sl11 : Array (Option Value)} {oc11 kV11 dc11 pm11 ct_11 : Value} {cv11 : Value}
    {f12 : Addr} {od12 an12 : Option Addr} {sl12 : Array (Option Value)} {oc12 kV12 dc12 pm12 ct_12 : Value} {cv12 : Value}
    {tk12_0 : Nat}
    {tk12_1 : Nat}
    {tk12_2 : Nat}
    {T12 : Addr} {tc12 : Value} {td12 : Option Addr} {ts12 : Array (Option Value)} {tm12 : Nat}
    {f13 : Addr} {od13 an13 : Option Addr} {sl13 : Array (Option Value)} {oc13 kV13 dc13 pm13 ct_13 : Value} {cv13 : Value}
    {f17 : Addr} {od17 an17 : Option Addr} {sl17 : Array (Option Value)} {oc17 kV17 dc17 pm17 ct_17 : Value} {cv17 : Value}
    {f18 : Addr} {od18 an18 : Option Addr} {sl18 : Array (Option Value)} {oc18 kV18 dc18 pm18 ct_18 : Value} {cv18 : Value}
    {f96 : Addr} {od96 an96 : Option Addr} {sl96 : Array (Option Value)} {oc96 kV96 dc96 pm96 ct_96 : Value} {cv96 : Value}
    {f103 : Addr} {od103 an103 : Option Addr} {sl103 : Array (Option Value)} {oc103 kV103 dc103 pm103 ct_103 : Value} {cv103 : Value}
    {f165 : Addr} {od165 an165 : Option Addr} {sl165 : Array (Option Value)} {oc165 kV165 dc165 pm165 ct_165 : Value} {cv165 : Value}
    {f201 : Addr} {od201 an201 : Option Addr} {sl201 : Array (Option Value)} {oc201 kV201 dc201 pm201 ct_201 : Value} {cv201 : Value}
    {f202 : Addr} {od202 an202 : Option Addr} {sl202 : Array (Option Value)} {oc202 kV202 dc202 pm202 ct_202 : Value} {cv202 : Value}
    {va1 : Addr} {ve1 : Array DictEntry} {vn1 : Nat}
    {vt5 : Nat}
    {vt6 : Nat}
    {vt8 : Nat}
    {vt9 : Nat}
    {vt10 : Nat}
    {va7 : Addr} {vd7 : Option Addr} {vm7 : Nat} {vs7 : Array (Option Value)}
    (ac0 : PySem.W.nsIn K mainGlobals "Rules" = some (some (.ref C0)))
    (pg0 : PySem.W.plainGet K C0 Str.empty = true)
    (hd0 : PySem.W.hasDictIn K C0 = true)
    (po0 : PySem.W.plainOver K C0 = true)
    (sa0 : PySem.W.findIn K (.ref C0) "__setattr__" = some (some (.builtin "object.__setattr__")))
    (na0_0 : PySem.W.findIn K (.ref C0) "drop" = some none)
    (na0_1 : PySem.W.findIn K (.ref C0) "cut" = some none)
    (na0_2 : PySem.W.findIn K (.ref C0) "second" = some none)
    (ha0 : PySem.W.findIn K (.ref C0) "__class__" = some (some (.builtin "object.__class__")))
    (hm0 : PySem.W.mroIn K C0 (.type "object") = some true)
    (lk0 : K.lookup C0 = some ⟨ca0, cb0, .cls cd0, cl0⟩)
    (ct0 : PySem.W.typeIn K (.ref C0) = some (.type "type"))
    (mk0 : PySem.W.makesIn K C0 = true)
    (kc0 : PySem.W.keepIn K (.ref C0) = true)
    (nq0 : PySem.W.findIn K (.ref C0) "__ne__" = some (some (.builtin "object.__ne__")))
    (no0NoneType : PySem.W.mroIn K C0 (.type "NoneType") = some false)
    (no0bool : PySem.W.mroIn K C0 (.type "bool") = some false)
    (no0int : PySem.W.mroIn K C0 (.type "int") = some false)
    (no0str : PySem.W.mroIn K C0 (.type "str") = some false)
    (no0tuple : PySem.W.mroIn K C0 (.type "tuple") = some false)
    (no0list : PySem.W.mroIn K C0 (.type "list") = some false)
    (no0dict : PySem.W.mroIn K C0 (.type "dict") = some false)
    (hn : PySem.W.specialIn K (.builtin "object.__class__") "__get__" = some (some (.builtin "getset_descriptor.__get__")))
    (htk : PySem.W.takesIn K (.builtin "object.__class__") = some true)
    (mr0_bool : PySem.W.mroIn K C0 (.type "bool") = some false)
    (mr0_int : PySem.W.mroIn K C0 (.type "int") = some false)
    (mr0_str : PySem.W.mroIn K C0 (.type "str") = some false)
    (a0 : PySem.W.nsIn K mainGlobals "_law_cell_at" = some (some (.ref f0)))
    (l0 : K.lookup f0 = some ⟨oc0, od0, .func (PySem.W.fnOf "_law_cell_at" "_law_cell_at" (defArgs (top 17)) (defBody (top 17)) (defScope (top 17)) .none kV0 dc0 pm0 an0 cv0 ct_0), sl0⟩)
    (c0 : PySem.W.codeIn K cv0 "_law_cell_at" = true)
    (k0 : PySem.W.keepIn K (.ref f0) = true)
    (a1 : PySem.W.nsIn K mainGlobals "_law_state" = some (some (.ref f1)))
    (l1 : K.lookup f1 = some ⟨oc1, od1, .func (PySem.W.fnOf "_law_state" "_law_state" (defArgs (top 18)) (defBody (top 18)) (defScope (top 18)) .none kV1 dc1 pm1 an1 cv1 ct_1), sl1⟩)
    (c1 : PySem.W.codeIn K cv1 "_law_state" = true)
    (k1 : PySem.W.keepIn K (.ref f1) = true)
    (a2 : PySem.W.nsIn K mainGlobals "_law_take" = some (some (.ref f2)))
    (l2 : K.lookup f2 = some ⟨oc2, od2, .func (PySem.W.fnOf "_law_take" "_law_take" (defArgs (top 19)) (defBody (top 19)) (defScope (top 19)) .none kV2 dc2 pm2 an2 cv2 ct_2), sl2⟩)
    (c2 : PySem.W.codeIn K cv2 "_law_take" = true)
    (k2 : PySem.W.keepIn K (.ref f2) = true)
    (a5 : PySem.W.nsIn K mainGlobals "_law_rule" = some (some (.ref f5)))
    (l5 : K.lookup f5 = some ⟨oc5, od5, .func (PySem.W.fnOf "_law_rule" "_law_rule" (defArgs (top 20)) (defBody (top 20)) (defScope (top 20)) .none kV5 dc5 pm5 an5 cv5 ct_5), sl5⟩)
    (c5 : PySem.W.codeIn K cv5 "_law_rule" = true)
    (k5 : PySem.W.keepIn K (.ref f5) = true)
    (a6 : PySem.W.nsIn K mainGlobals "is_whole" = some (some (.ref f6)))
    (l6 : K.lookup f6 = some ⟨oc6, od6, .func (PySem.W.fnOf "is_whole" "is_whole" (defArgs (top 4)) (defBody (top 4)) (defScope (top 4)) .none kV6 dc6 pm6 an6 cv6 ct_6), sl6⟩)
    (c6 : PySem.W.codeIn K cv6 "is_whole" = true)
    (k6 : PySem.W.keepIn K (.ref f6) = true)
    (a7 : PySem.W.nsIn K mainGlobals "is_between" = some (some (.ref f7)))
    (l7 : K.lookup f7 = some ⟨oc7, od7, .func (PySem.W.fnOf "is_between" "is_between" (defArgs (top 5)) (defBody (top 5)) (defScope (top 5)) .none kV7 dc7 pm7 an7 cv7 ct_7), sl7⟩)
    (c7 : PySem.W.codeIn K cv7 "is_between" = true)
    (k7 : PySem.W.keepIn K (.ref f7) = true)
    (a8 : PySem.W.nsIn K mainGlobals "is_drop" = some (some (.ref f8)))
    (l8 : K.lookup f8 = some ⟨oc8, od8, .func (PySem.W.fnOf "is_drop" "is_drop" (defArgs (top 10)) (defBody (top 10)) (defScope (top 10)) .none kV8 dc8 pm8 an8 cv8 ct_8), sl8⟩)
    (c8 : PySem.W.codeIn K cv8 "is_drop" = true)
    (k8 : PySem.W.keepIn K (.ref f8) = true)
    (a9 : PySem.W.nsIn K mainGlobals "is_cut" = some (some (.ref f9)))
    (l9 : K.lookup f9 = some ⟨oc9, od9, .func (PySem.W.fnOf "is_cut" "is_cut" (defArgs (top 11)) (defBody (top 11)) (defScope (top 11)) .none kV9 dc9 pm9 an9 cv9 ct_9), sl9⟩)
    (c9 : PySem.W.codeIn K cv9 "is_cut" = true)
    (k9 : PySem.W.keepIn K (.ref f9) = true)
    (a10 : PySem.W.nsIn K mainGlobals "is_second" = some (some (.ref f10)))
    (l10 : K.lookup f10 = some ⟨oc10, od10, .func (PySem.W.fnOf "is_second" "is_second" (defArgs (top 12)) (defBody (top 12)) (defScope (top 12)) .none kV10 dc10 pm10 an10 cv10 ct_10), sl10⟩)
    (c10 : PySem.W.codeIn K cv10 "is_second" = true)
    (k10 : PySem.W.keepIn K (.ref f10) = true)
    (a11 : PySem.W.nsIn K mainGlobals "is_rule" = some (some (.ref f11)))
    (l11 : K.lookup f11 = some ⟨oc11, od11, .func (PySem.W.fnOf "is_rule" "is_rule" (defArgs (top 14)) (defBody (top 14)) (defScope (top 14)) .none kV11 dc11 pm11 an11 cv11 ct_11), sl11⟩)
    (c11 : PySem.W.codeIn K cv11 "is_rule" = true)
    (k11 : PySem.W.keepIn K (.ref f11) = true)
    (a12 : PySem.W.findIn K (.ref C0) "__init__" = some (some (.ref f12)))
    (i12 : PySem.W.isFn K (.ref f12) = true)
    (l12 : K.lookup f12 = some ⟨oc12, od12, .func (PySem.W.fnOf "__init__" "Rules.__init__" (defArgs (inClass (top 15) 0)) (defBody (inClass (top 15) 0)) (defScope (inClass (top 15) 0)) (.ref T12) kV12 dc12 pm12 an12 cv12 ct_12), sl12⟩)
    (c12 : PySem.W.codeIn K cv12 "Rules.__init__" = true)
    (k12 : PySem.W.keepIn K (.ref f12) = true)
    (t12 : K.lookup T12 = some ⟨tc12, td12, .seq #[.int 0 tk12_0, .int 0 tk12_1, .str ("best" : Str) tk12_2] tm12, ts12⟩)
    (a13 : PySem.W.nsIn K mainGlobals "_law_same" = some (some (.ref f13)))
    (l13 : K.lookup f13 = some ⟨oc13, od13, .func (PySem.W.fnOf "_law_same" "_law_same" (defArgs (top 23)) (defBody (top 23)) (defScope (top 23)) .none kV13 dc13 pm13 an13 cv13 ct_13), sl13⟩)
    (c13 : PySem.W.codeIn K cv13 "_law_same" = true)
    (k13 : PySem.W.keepIn K (.ref f13) = true)
    (a17 : PySem.W.nsIn K mainGlobals "_law_other" = some (some (.ref f17)))
    (l17 : K.lookup f17 = some ⟨oc17, od17, .func (PySem.W.fnOf "_law_other" "_law_other" (defArgs (top 24)) (defBody (top 24)) (defScope (top 24)) .none kV17 dc17 pm17 an17 cv17 ct_17), sl17⟩)
    (c17 : PySem.W.codeIn K cv17 "_law_other" = true)
    (k17 : PySem.W.keepIn K (.ref f17) = true)
    (a18 : PySem.W.nsIn K mainGlobals "_law_made" = some (some (.ref f18)))
    (l18 : K.lookup f18 = some ⟨oc18, od18, .func (PySem.W.fnOf "_law_made" "_law_made" (defArgs (top 21)) (defBody (top 21)) (defScope (top 21)) .none kV18 dc18 pm18 an18 cv18 ct_18), sl18⟩)
    (c18 : PySem.W.codeIn K cv18 "_law_made" = true)
    (k18 : PySem.W.keepIn K (.ref f18) = true)
    (a96 : PySem.W.nsIn K mainGlobals "_law_odd" = some (some (.ref f96)))
    (l96 : K.lookup f96 = some ⟨oc96, od96, .func (PySem.W.fnOf "_law_odd" "_law_odd" (defArgs (top 22)) (defBody (top 22)) (defScope (top 22)) .none kV96 dc96 pm96 an96 cv96 ct_96), sl96⟩)
    (c96 : PySem.W.codeIn K cv96 "_law_odd" = true)
    (k96 : PySem.W.keepIn K (.ref f96) = true)
    (a103 : PySem.W.nsIn K mainGlobals "_law_text" = some (some (.ref f103)))
    (l103 : K.lookup f103 = some ⟨oc103, od103, .func (PySem.W.fnOf "_law_text" "_law_text" (defArgs (top 25)) (defBody (top 25)) (defScope (top 25)) .none kV103 dc103 pm103 an103 cv103 ct_103), sl103⟩)
    (c103 : PySem.W.codeIn K cv103 "_law_text" = true)
    (k103 : PySem.W.keepIn K (.ref f103) = true)
    (a165 : PySem.W.findIn K (.ref C0) "__repr__" = some (some (.ref f165)))
    (i165 : PySem.W.isFn K (.ref f165) = true)
    (l165 : K.lookup f165 = some ⟨oc165, od165, .func (PySem.W.fnOf "__repr__" "Rules.__repr__" (defArgs (inClass (top 15) 2)) (defBody (inClass (top 15) 2)) (defScope (inClass (top 15) 2)) .none kV165 dc165 pm165 an165 cv165 ct_165), sl165⟩)
    (c165 : PySem.W.codeIn K cv165 "Rules.__repr__" = true)
    (k165 : PySem.W.keepIn K (.ref f165) = true)
    (a201 : PySem.W.findIn K (.ref C0) "__eq__" = some (some (.ref f201)))
    (i201 : PySem.W.isFn K (.ref f201) = true)
    (l201 : K.lookup f201 = some ⟨oc201, od201, .func (PySem.W.fnOf "__eq__" "Rules.__eq__" (defArgs (inClass (top 15) 1)) (defBody (inClass (top 15) 1)) (defScope (inClass (top 15) 1)) .none kV201 dc201 pm201 an201 cv201 ct_201), sl201⟩)
    (c201 : PySem.W.codeIn K cv201 "Rules.__eq__" = true)
    (k201 : PySem.W.keepIn K (.ref f201) = true)
    (a202 : PySem.W.nsIn K mainGlobals "law" = some (some (.ref f202)))
    (l202 : K.lookup f202 = some ⟨oc202, od202, .func (PySem.W.fnOf "law" "law" (defArgs (top 26)) (defBody (top 26)) (defScope (top 26)) .none kV202 dc202 pm202 an202 cv202 ct_202), sl202⟩)
    (c202 : PySem.W.codeIn K cv202 "law" = true)
    (k202 : PySem.W.keepIn K (.ref f202) = true)
    (z0 : PySem.W.nsIn K mainGlobals "range" = some none)
    (z1 : PySem.W.nsIn K mainGlobals "max" = some none)
    (z2 : PySem.W.nsIn K mainGlobals "min" = some none)
    (z3 : PySem.W.nsIn K mainGlobals "len" = some none)
    (z4 : PySem.W.nsIn K mainGlobals "isinstance" = some none)
    (z5 : PySem.W.nsIn K mainGlobals "bool" = some none)
    (z6 : PySem.W.nsIn K mainGlobals "int" = some none)
    (z7 : PySem.W.nsIn K mainGlobals "str" = some none)
    (z8 : PySem.W.nsIn K mainGlobals "repr" = some none)
    (z9 : PySem.W.nsIn K mainGlobals "list" = some none)
    (cst0 : PySem.W.nsIn K mainGlobals "IS_VALUE" = some (some (.ref va1)))
    (vl1 : K.lookup va1 = some ⟨.type "dict", none, .dict ve1 vn1, #[]⟩)
    (vk1 : PySem.W.KeysLit w.params ve1.toList)
    (vw1 : (va1 == sysModules) = false)
    (vx1 : Ents ve1.toList [(("drop" : Str), (.ref f8)), (("cut" : Str), (.ref f9)), (("second" : Str), (.ref f10))])
    (cst1 : PySem.W.nsIn K mainGlobals "MOST_DROP" = some (some (.int 5 vt5)))
    (cst2 : PySem.W.nsIn K mainGlobals "MOST_CUT" = some (some (.int 100 vt6)))
    (cst3 : PySem.W.nsIn K mainGlobals "SECONDS" = some (some (.ref va7)))
    (vl7 : K.lookup va7 = some ⟨.type "tuple", vd7, .seq [(.str ("best" : Str) vt8), (.str ("last" : Str) vt9), (.str ("mean" : Str) vt10)].toArray vm7, vs7⟩) :
    ∃ L : Lay, L.K = K ∧ L.fn 202 = fa ∧ (∀ q ∈ L.C, ∃ x ∈ lamNms, PySem.W.tabIn L.K x = some (q.1, q.2.1) ∧ L.K.lookup q.2.1 = none) ∧ GR0 U L tx w mg ∧ ∃ fd ps, DefAt U L tx 202 fd ps ∧ BindOk L.K fd ps 1 [] [.inl 0] := by
  obtain rfl : f202 = fa := by
    have e := hfa.symm.trans (PySem.W.mg_of X Gn a202)
    cases e
    rfl
  let L : Lay := ⟨K, w, fun c => (([(0, C0)] : List (Nat × Addr)).lookup c).getD 0, fun i => (([(0, f0), (1, f1), (2, f2), (5, f5), (6, f6), (7, f7), (8, f8), (9, f9), (10, f10), (11, f11), (12, f12), (13, f13), (17, f17), (18, f18), (96, f96), (103, f103), (165, f165), (201, f201), (202, f202)] : List (Nat × Addr)).lookup i).getD 0, fun i => (([] : List (Nat × Addr)).lookup i).getD 0, fun c => ([0] : List Nat).contains c, []⟩
  have hf : ∀ i a, (([(0, f0), (1, f1), (2, f2), (5, f5), (6, f6), (7, f7), (8, f8), (9, f9), (10, f10), (11, f11), (12, f12), (13, f13), (17, f17), (18, f18), (96, f96), (103, f103), (165, f165), (201, f201), (202, f202)] : List (Nat × Addr)).lookup i).getD 0 = a → L.fn i = a := fun i a e => e
  have D0 := defAt (U := U) (L := L) (t := tx) (f := 0) N0 ["_law_script", "_law_k"] d0 (hf 0 f0 rfl) l0 c0 rfl sc0 rfl rfl ck0
  have D1 := defAt (U := U) (L := L) (t := tx) (f := 1) N1 ["_law_script", "_law_k"] d1 (hf 1 f1 rfl) l1 c1 rfl sc1 rfl rfl ck1
  have D2 := defAt (U := U) (L := L) (t := tx) (f := 2) N2 ["_law_state_here", "_law_many"] d2 (hf 2 f2 rfl) l2 c2 rfl sc2 rfl rfl ck2
  have D5 := defAt (U := U) (L := L) (t := tx) (f := 5) N5 ["_law_state_here"] d5 (hf 5 f5 rfl) l5 c5 rfl sc5 rfl rfl ck5
  have D6 := defAt (U := U) (L := L) (t := tx) (f := 6) N6 ["thing"] d6 (hf 6 f6 rfl) l6 c6 rfl sc6 rfl rfl ck6
  have D7 := defAt (U := U) (L := L) (t := tx) (f := 7) N7 ["thing", "low", "high"] d7 (hf 7 f7 rfl) l7 c7 rfl sc7 rfl rfl ck7
  have D8 := defAt (U := U) (L := L) (t := tx) (f := 8) N8 ["thing"] d8 (hf 8 f8 rfl) l8 c8 rfl sc8 rfl rfl ck8
  have D9 := defAt (U := U) (L := L) (t := tx) (f := 9) N9 ["thing"] d9 (hf 9 f9 rfl) l9 c9 rfl sc9 rfl rfl ck9
  have D10 := defAt (U := U) (L := L) (t := tx) (f := 10) N10 ["thing"] d10 (hf 10 f10 rfl) l10 c10 rfl sc10 rfl rfl ck10
  have D11 := defAt (U := U) (L := L) (t := tx) (f := 11) N11 ["name", "value"] d11 (hf 11 f11 rfl) l11 c11 rfl sc11 rfl rfl ck11
  have D12 := defAt (U := U) (L := L) (t := tx) (f := 12) N12 ["self", "drop", "cut", "second"] d12 (hf 12 f12 rfl) l12 c12 rfl sc12 rfl rfl ck12
  have D13 := defAt (U := U) (L := L) (t := tx) (f := 13) N13 ["_law_found", "_law_due"] d13 (hf 13 f13 rfl) l13 c13 rfl sc13 rfl rfl ck13
  have D17 := defAt (U := U) (L := L) (t := tx) (f := 17) N17 ["_law_state_here", "_law_rule_here"] d17 (hf 17 f17 rfl) l17 c17 rfl sc17 rfl rfl ck17
  have D18 := defAt (U := U) (L := L) (t := tx) (f := 18) N18 ["_law_rule_here"] d18 (hf 18 f18 rfl) l18 c18 rfl sc18 rfl rfl ck18
  have D96 := defAt (U := U) (L := L) (t := tx) (f := 96) N96 ["_law_state_here"] d96 (hf 96 f96 rfl) l96 c96 rfl sc96 rfl rfl ck96
  have D103 := defAt (U := U) (L := L) (t := tx) (f := 103) N103 ["_law_rule_here"] d103 (hf 103 f103 rfl) l103 c103 rfl sc103 rfl rfl ck103
  have D165 := defAt (U := U) (L := L) (t := tx) (f := 165) N165 ["self"] d165 (hf 165 f165 rfl) l165 c165 rfl sc165 rfl rfl ck165
  have D201 := defAt (U := U) (L := L) (t := tx) (f := 201) N201 ["self", "other"] d201 (hf 201 f201 rfl) l201 c201 rfl sc201 rfl rfl ck201
  have D202 := defAt (U := U) (L := L) (t := tx) (f := 202) N202 ["_law_script"] d202 (hf 202 f202 rfl) l202 c202 rfl sc202 rfl rfl ck202
  have K0 : ClsOk L 0 := clsOk_of rfl pg0 hd0 po0 sa0 (fa_cons na0_0 (fa_cons na0_1 (fa_cons na0_2 (fa_nil)))) ha0 hn htk hm0 lk0 ct0
  have Kc : ∀ c, L.kc c = true → ClsOk L c := fa_has (fa_cons K0 (fa_nil))
  refine ⟨L, rfl, rfl, fa_nil, ⟨fa_cons (PySem.W.mg_none_of X Gn z0) (fa_cons (PySem.W.mg_none_of X Gn z1) (fa_cons (PySem.W.mg_none_of X Gn z2) (fa_cons (PySem.W.mg_none_of X Gn z3) (fa_cons (PySem.W.mg_none_of X Gn z4) (fa_cons (PySem.W.mg_none_of X Gn z5) (fa_cons (PySem.W.mg_none_of X Gn z6) (fa_cons (PySem.W.mg_none_of X Gn z7) (fa_cons (PySem.W.mg_none_of X Gn z8) (fa_cons (PySem.W.mg_none_of X Gn z9) (fa_nil)))))))))),
    fa_cons (cst_at (PySem.W.mg_of X Gn cst0) (cv_dict [("drop" : Str), ("cut" : Str), ("second" : Str)] vl1 vk1 vw1 vx1 rfl (.cons (cv_fn (hf 8 f8 rfl)) (.cons (cv_fn (hf 9 f9 rfl)) (.cons (cv_fn (hf 10 f10 rfl)) .nil))) (show ([("drop" : Str), ("cut" : Str), ("second" : Str)] : List Str).Nodup by decide +kernel))) (fa_cons (cst_at (PySem.W.mg_of X Gn cst1) cv_int) (fa_cons (cst_at (PySem.W.mg_of X Gn cst2) cv_int) (fa_cons (cst_at (PySem.W.mg_of X Gn cst3) (cv_tup vl7 (show 3 ≤ sizeLine by decide) (.cons (cv_str (by decide)) (.cons (cv_str (by decide)) (.cons (cv_str (by decide)) .nil))))) (fa_nil)))),
    fa_cons (PySem.W.mg_of X Gn a0) (fa_cons (PySem.W.mg_of X Gn a1) (fa_cons (PySem.W.mg_of X Gn a2) (fa_cons (PySem.W.mg_of X Gn a5) (fa_cons (PySem.W.mg_of X Gn a6) (fa_cons (PySem.W.mg_of X Gn a7) (fa_cons (PySem.W.mg_of X Gn a8) (fa_cons (PySem.W.mg_of X Gn a9) (fa_cons (PySem.W.mg_of X Gn a10) (fa_cons (PySem.W.mg_of X Gn a11) (fa_cons (PySem.W.mg_of X Gn a13) (fa_cons (PySem.W.mg_of X Gn a17) (fa_cons (PySem.W.mg_of X Gn a18) (fa_cons (PySem.W.mg_of X Gn a96) (fa_cons (PySem.W.mg_of X Gn a103) (fa_cons (PySem.W.mg_of X Gn a202) (fa_nil)))))))))))))))),
    fa_cons ⟨k0, _, _, D0, (bind_no (src := [0, 1]) rfl (by decide) (fun us ws h1 h2 => match us, ws, h1, h2 with | [_, _], [], _, _ => rfl))⟩ (fa_cons ⟨k1, _, _, D1, (bind_no (src := [0, 1]) rfl (by decide) (fun us ws h1 h2 => match us, ws, h1, h2 with | [_, _], [], _, _ => rfl))⟩ (fa_cons ⟨k2, _, _, D2, (bind_no (src := [0, 1]) rfl (by decide) (fun us ws h1 h2 => match us, ws, h1, h2 with | [_, _], [], _, _ => rfl))⟩ (fa_cons ⟨k5, _, _, D5, (bind_no (src := [0]) rfl (by decide) (fun us ws h1 h2 => match us, ws, h1, h2 with | [_], [], _, _ => rfl))⟩ (fa_cons ⟨k17, _, _, D17, (bind_no (src := [0, 1]) rfl (by decide) (fun us ws h1 h2 => match us, ws, h1, h2 with | [_, _], [], _, _ => rfl))⟩ (fa_cons ⟨k6, _, _, D6, (bind_no (src := [0]) rfl (by decide) (fun us ws h1 h2 => match us, ws, h1, h2 with | [_], [], _, _ => rfl))⟩ (fa_cons ⟨k7, _, _, D7, (bind_no (src := [0, 1, 2]) rfl (by decide) (fun us ws h1 h2 => match us, ws, h1, h2 with | [_, _, _], [], _, _ => rfl))⟩ (fa_cons ⟨k8, _, _, D8, (bind_no (src := [0]) rfl (by decide) (fun us ws h1 h2 => match us, ws, h1, h2 with | [_], [], _, _ => rfl))⟩ (fa_cons ⟨k9, _, _, D9, (bind_no (src := [0]) rfl (by decide) (fun us ws h1 h2 => match us, ws, h1, h2 with | [_], [], _, _ => rfl))⟩ (fa_cons ⟨k10, _, _, D10, (bind_no (src := [0]) rfl (by decide) (fun us ws h1 h2 => match us, ws, h1, h2 with | [_], [], _, _ => rfl))⟩ (fa_cons ⟨k11, _, _, D11, (bind_no (src := [0, 1]) rfl (by decide) (fun us ws h1 h2 => match us, ws, h1, h2 with | [_, _], [], _, _ => rfl))⟩ (fa_cons ⟨k12, _, _, D12, (bind_tup (src := [.inl 0, .inl 1, .inl 2, .inl 3]) (ds := [(.int 0), (.int 0), (.str ("best" : Str))]) t12 rfl (.cons dfl_int (.cons dfl_int (.cons (dfl_str (by decide)) .nil))) rfl (by decide) (fun us ws h1 h2 => match us, ws, h1, h2 with | [_], [_, _, _], _, _ => ⟨_, rfl, rfl⟩))⟩ (fa_cons ⟨k18, _, _, D18, (bind_no (src := [0]) rfl (by decide) (fun us ws h1 h2 => match us, ws, h1, h2 with | [_], [], _, _ => rfl))⟩ (fa_cons ⟨k201, _, _, D201, (bind_no (src := [0, 1]) rfl (by decide) (fun us ws h1 h2 => match us, ws, h1, h2 with | [_, _], [], _, _ => rfl))⟩ (fa_cons ⟨k13, _, _, D13, (bind_no (src := [0, 1]) rfl (by decide) (fun us ws h1 h2 => match us, ws, h1, h2 with | [_, _], [], _, _ => rfl))⟩ (fa_cons ⟨k165, _, _, D165, (bind_no (src := [0]) rfl (by decide) (fun us ws h1 h2 => match us, ws, h1, h2 with | [_], [], _, _ => rfl))⟩ (fa_cons ⟨k96, _, _, D96, (bind_no (src := [0]) rfl (by decide) (fun us ws h1 h2 => match us, ws, h1, h2 with | [_], [], _, _ => rfl))⟩ (fa_cons ⟨k103, _, _, D103, (bind_no (src := [0]) rfl (by decide) (fun us ws h1 h2 => match us, ws, h1, h2 with | [_], [], _, _ => rfl))⟩ (fa_nil)))))))))))))))))),
    fa_cons ⟨⟨mk0, a12, i12, kc0⟩, rfl, PySem.W.mg_of X Gn ac0⟩ (fa_nil),
    fa_nil, Kc,
    fa_cons (isi_ty "bool" rfl (fun _ _ => rfl) (by decide +kernel) (fun _ h => nomatch h) (fa_has (fa_cons mr0_bool (fa_nil)))) (fa_cons (isi_ty "int" rfl (fun _ _ => rfl) (by decide +kernel) (fun _ h => nomatch h) (fa_has (fa_cons mr0_int (fa_nil)))) (fa_cons (isi_ty "str" rfl (fun _ _ => rfl) (by decide +kernel) (fun _ h => nomatch h) (fa_has (fa_cons mr0_str (fa_nil)))) (fa_cons (isi_cls rfl K0 (fa_has (fa_cons (fun h => absurd rfl h) (fa_nil)))) (fa_nil)))), fa_cons ⟨a201, i201, nq0, hm0, by intro T hT; simp only [dataTs, List.mem_cons, List.not_mem_nil, or_false] at hT; rcases hT with rfl | rfl | rfl | rfl | rfl | rfl | rfl <;> assumption⟩ (fa_nil), fa_cons ⟨a165, i165⟩ (fa_nil), fa_nil, .inl rfl, fa_nil, fa_cons ⟨⟨a165, i165⟩, _, _, defFr (L := L) (t := tx) (f := 165) N165 ["self"] d165 (hf 165 f165 rfl) l165 c165 rfl sc165 rfl rfl cf165, (bind_no (src := [0]) rfl (by decide) (fun us ws h1 h2 => match us, ws, h1, h2 with | [_], [], _, _ => rfl))⟩ (fa_nil), rfl, tu_nil⟩, _, _, D202, (bind_no (src := [0]) rfl (by decide) (fun us ws h1 h2 => match us, ws, h1, h2 with | [_], [], _, _ => rfl))⟩
theorem walk {l : PySem.W.OpenLaw} {q : Program} {loose : List Str} {XP : (Str → Option Value) → Heap → Prop} {YP : World → Heap → Prop} {d : DefRec} {K : Params → PySem.W.Frag} (hn : l.most = some 63) (hdf : d.params.defaults = []) (hi : PyProof.Rows.importsNone q = true) (hl : lamNms.all (fun x => ((PyProof.Rows.recsOf q).find? fun e => e.name == x).isSome) = true)
    (hY : ∀ (w : World) (h : Heap), YP w h → (K w.params).In h)
    (F : ∀ (w : World) (mg : Str → Option Value) (fa : Addr) (h : Heap), (K w.params).In h → h.Ns mainGlobals mg → mg d.name = some (.ref fa) →
      ∃ L : Lay, L.K = K w.params ∧ L.fn 202 = fa ∧ (∀ q ∈ L.C, ∃ x ∈ lamNms, PySem.W.tabIn L.K x = some (q.1, q.2.1) ∧ L.K.lookup q.2.1 = none) ∧ GR0 U L tx w mg ∧ ∃ fd ps, DefAt U L tx 202 fd ps ∧ BindOk L.K fd ps 1 [] [.inl 0]) :
    PySem.W.WalkO q loose XP YP l.row.toRowW d [] (fun f vs => PySem.call f vs) := walkG hn hdf hi ⟨rfl, by decide, by decide⟩ hl hY F (fun ns h _ => law_holds ns h)
end Q

open PySem PySem.W PyProof.Rows in
set_option maxRecDepth 100000 in
set_option maxHeartbeats 0 in
theorem PySem.Challenge.cw_classmarks_k03_rules_compared_and_shown_holds : PySem.Challenge.rw_classmarks_k03_rules_compared_and_shown.Holds := by
  w_on; o_law; k_head; (case hw => w_witness2)
  k_fill
  refine Q.walk (l := PySem.Challenge.rw_classmarks_k03_rules_compared_and_shown) rfl rfl (by decide +kernel) (by decide +kernel) (fun w h Y => by first | exact PySem.W.km_in_of Y | exact PySem.W.kIn_of Y) ?F
  case F =>
    intro w mg fa h KX Gn hmg
    refine' Q.facts KX Gn hmg ?ac0 ?pg0 ?hd0 ?po0 ?sa0 ?na0_0 ?na0_1 ?na0_2 ?ha0 ?hm0 ?lk0 ?ct0 ?mk0 ?kc0 ?nq0 ?no0NoneType ?no0bool ?no0int ?no0str ?no0tuple ?no0list ?no0dict ?hn ?htk ?mr0_bool ?mr0_int ?mr0_str ?a0 ?l0 ?c0 ?k0 ?a1 ?l1 ?c1 ?k1 ?a2 ?l2 ?c2 ?k2 ?a5 ?l5 ?c5 ?k5 ?a6 ?l6 ?c6 ?k6 ?a7 ?l7 ?c7 ?k7 ?a8 ?l8 ?c8 ?k8 ?a9 ?l9 ?c9 ?k9 ?a10 ?l10 ?c10 ?k10 ?a11 ?l11 ?c11 ?k11 ?a12 ?i12 ?l12 ?c12 ?k12 ?t12 ?a13 ?l13 ?c13 ?k13 ?a17 ?l17 ?c17 ?k17 ?a18 ?l18 ?c18 ?k18 ?a96 ?l96 ?c96 ?k96 ?a103 ?l103 ?c103 ?k103 ?a165 ?i165 ?l165 ?c165 ?k165 ?a201 ?i201 ?l201 ?c201 ?k201 ?a202 ?l202 ?c202 ?k202 ?z0 ?z1 ?z2 ?z3 ?z4 ?z5 ?z6 ?z7 ?z8 ?z9 ?cst0 ?vl1 ?vk1 ?vw1 ?vx1 ?cst1 ?cst2 ?cst3 ?vl7
    (case ac0 => k_is)
    (case pg0 => k_is)
    (case hd0 => k_is)
    (case po0 => k_is)
    (case sa0 => k_is)
    (case na0_0 => k_is)
    (case na0_1 => k_is)
    (case na0_2 => k_is)
    (case ha0 => k_is)
    (case hm0 => k_is)
    (case lk0 => k_is)
    (case ct0 => k_is)
    (case mk0 => k_is)
    (case kc0 => k_is)
    (case nq0 => k_is)
    (case no0NoneType => k_is)
    (case no0bool => k_is)
    (case no0int => k_is)
    (case no0str => k_is)
    (case no0tuple => k_is)
    (case no0list => k_is)
    (case no0dict => k_is)
    (case hn => k_is)
    (case htk => k_is)
    (case mr0_bool => k_is)
    (case mr0_int => k_is)
    (case mr0_str => k_is)
    (case a0 => k_is)
    (case l0 => k_is)
    (case c0 => k_is)
    (case k0 => k_is)
    (case a1 => k_is)
    (case l1 => k_is)
    (case c1 => k_is)
    (case k1 => k_is)
    (case a2 => k_is)
    (case l2 => k_is)
    (case c2 => k_is)
    (case k2 => k_is)
    (case a5 => k_is)
    (case l5 => k_is)
    (case c5 => k_is)
    (case k5 => k_is)
    (case a6 => k_is)
    (case l6 => k_is)
    (case c6 => k_is)
    (case k6 => k_is)
    (case a7 => k_is)
    (case l7 => k_is)
    (case c7 => k_is)
    (case k7 => k_is)
    (case a8 => k_is)
    (case l8 => k_is)
    (case c8 => k_is)
    (case k8 => k_is)
    (case a9 => k_is)
    (case l9 => k_is)
    (case c9 => k_is)
    (case k9 => k_is)
    (case a10 => k_is)
    (case l10 => k_is)
    (case c10 => k_is)
    (case k10 => k_is)
    (case a11 => k_is)
    (case l11 => k_is)
    (case c11 => k_is)
    (case k11 => k_is)
    (case a12 => k_is)
    (case i12 => k_is)
    (case l12 => k_is)
    (case c12 => k_is)
    (case k12 => k_is)
    (case t12 => k_is)
    (case a13 => k_is)
    (case l13 => k_is)
    (case c13 => k_is)
    (case k13 => k_is)
    (case a17 => k_is)
    (case l17 => k_is)
    (case c17 => k_is)
    (case k17 => k_is)
    (case a18 => k_is)
    (case l18 => k_is)
    (case c18 => k_is)
    (case k18 => k_is)
    (case a96 => k_is)
    (case l96 => k_is)
    (case c96 => k_is)
    (case k96 => k_is)
    (case a103 => k_is)
    (case l103 => k_is)
    (case c103 => k_is)
    (case k103 => k_is)
    (case a165 => k_is)
    (case i165 => k_is)
    (case l165 => k_is)
    (case c165 => k_is)
    (case k165 => k_is)
    (case a201 => k_is)
    (case i201 => k_is)
    (case l201 => k_is)
    (case c201 => k_is)
    (case k201 => k_is)
    (case a202 => k_is)
    (case l202 => k_is)
    (case c202 => k_is)
    (case k202 => k_is)
    (case z0 => k_is)
    (case z1 => k_is)
    (case z2 => k_is)
    (case z3 => k_is)
    (case z4 => k_is)
    (case z5 => k_is)
    (case z6 => k_is)
    (case z7 => k_is)
    (case z8 => k_is)
    (case z9 => k_is)
    (case cst0 => k_is)
    (case vl1 => k_is)
    (case vk1 => k_keys)
    (case vw1 => exact rfl)
    (case vx1 => (repeat (first | exact True.intro | refine And.intro ⟨_, rfl⟩ (And.intro rfl ?_))))
    (case cst1 => k_is)
    (case cst2 => k_is)
    (case cst3 => k_is)
    (case vl7 => k_is)
