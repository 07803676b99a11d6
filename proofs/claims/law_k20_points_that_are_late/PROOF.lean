import PyProof.Rows.All
import Wide.All
import OpenK.AllK
import Wide.FinOn
import HandS.Call
import HandS.List
import HandS.Comp
import HandS.Exc
import HandS.Codes
import HandS.Text
import HandS.Iter
import HandS.Words
import HandS.Wide
import HandS.TupAny
import HandS.Dict
import PyProof.ReprRoads
import HandS.IsInst
import HandS.MakeKwOnly
import HandS.ExcOwn
import HandS.Style
import HandS.Ends
import HandS.Defaults
import PySem.Challenge.RW_classmarks_k20_points_that_are_late
set_option Elab.async false
set_option linter.all false
set_option maxRecDepth 100000
/-! A0: data without a heap, a small tree language, its meaning as a wish (weakest wish) over an environment. -/
namespace G
open PySem

/-- data: what a value is, all through -/
inductive D where
  | non | bl (b : Bool) | int (i : Int) | str (s : Str)
  | tup (xs : List D) | lst (xs : List D) | dct (ks vs : List D)
  | ins (c : Nat) (fs : List D) | fn (f : Nat)
  /-- the law's script -/
  | scr (ns : List Int)

/-- what one owns and may change: a list, an instance -/
inductive OV where
  | lst (xs : List D) | ins (c : Nat) (fs : List D)
def OV.toD : OV → D
  | .lst xs => .lst xs
  | .ins c fs => .ins c fs
/-- a name's content: data that never changes any more; an object of one's own; one that the caller lent -/
inductive EV where
  | val (d : D) | own (o : OV) | bor (o : OV)
def EV.toD : EV → D
  | .val d => d
  | .own o => o.toD
  | .bor o => o.toD
abbrev Env := List (Option EV)
/-- an expression's answer: data, or a new object that nobody else has -/
inductive RV where
  | val (d : D) | fr (o : OV)
def RV.toD : RV → D
  | .val d => d
  | .fr o => o.toD
def RV.toEV : RV → EV
  | .val d => .val d
  | .fr o => .own o
/-- an operand: data, or the slot of a name that is looked at when all operands are there -/
inductive Op where
  | d (d : D) | slot (i : Nat)
def res (env : Env) : Op → Option D
  | .d d => some d
  | .slot i => match env[i]? with
    | some (some v) => some v.toD
    | _ => none
structure Exn where
  c : Nat
  fs : List D
abbrev XP := Exn → Env → Prop
abbrev PostE := RV → Env → Prop
abbrev PostO := Op → Env → Prop
abbrev PostOs := List Op → Env → Prop
/-- a def's meaning: the arguments, what is wanged of the answer and of the lent objects, of an exception -/
abbrev Spec := List EV → (RV → List OV → Prop) → (Exn → List OV → Prop) → Prop

/-- targets -/
inductive Tg where
  | nm (i : Nat) | tp (ts : List Tg)
/-- the types that isinstance asks for -/
inductive Ty where
  | int | bool | str | lst | tup | dct | cls (c : Nat)
/-- built-in functions on operands -/
inductive BI where
  | len | max2 | min2 | max1 | min1 | sum | sum2 | all | any | lst | tup | repr | str | int | sorted | setSorted
/-- methods of one's own lists, by slot -/
inductive LM where
  | append | insert | pop | pop0 | extend

mutual
/-- expressions -/
inductive E where
  | var (i : Nat) | ref (i : Nat) | con (d : D) | glb (x : Str) (d : D)
  | bin (op : Operator) (a b : E) | neg (a : E)
  | cmp (op : CmpOp) (a b : E) | chn (o1 o2 : CmpOp) (a b c : E)
  | and (a b : E) | or (a b : E) | not (a : E) | ite (c : T) (a b : E)
  | tup (es : List E) | lst (es : List E)
  | sub (a i : E) | slc (a : E) (lo hi : Option E)
  | call (f : Nat) (as : List E) (src : List (Sum Nat D))
  | make (c : Nat) (as : List E) (src : List (Sum Nat D))
  | bi (b : BI) (as : List E) | isi (a : E) (t : Ty)
  | fld (a : E) (f : Nat)
  | lm (m : LM) (i : Nat) (as : List E)
  | lc (elt : E) (t : Tg) (it : I) (cond : T) (own : List Nat)
/-- tests -/
inductive T where
  | yes | tv (e : E) | and (a b : T) | or (a b : T) | not (a : T)
  | cmp (op : CmpOp) (a b : E) | chn (o1 o2 : CmpOp) (a b c : E)
/-- what is walked -/
inductive I where
  | it (e : E) | rng (es : List E) | enm (es : List E) | zip (es : List E) | rvd (es : List E)
end

inductive S where
  | asg (i : Nat) (e : E) | asgT (t : Tg) (e : E) | par (is : List Nat) (es : List E)
  | put (i : Nat) (ix e : E) | ex (e : E) | ret (e : E) | retN
  | ite (c : T) (a b : List S) | for_ (t : Tg) (it : I) (body : List S) | while_ (c : T) (body : List S)
  | brk | cnt | pass

/-! ### plain functions of data -/
def line : Nat := 16777216
def truth : D → Option Bool
  | .non => some false
  | .bl b => some b
  | .int i => some (i != 0)
  | .str s => some (s.length != 0)
  | .tup xs => some (!xs.isEmpty)
  | .lst xs => some (!xs.isEmpty)
  | .dct ks _ => some (!ks.isEmpty)
  | _ => none
def atD : D → D → Option D
  | .lst xs, .int i => L2.atI xs i
  | .tup xs, .int i => L2.atI xs i
  | .scr xs, .int i => (L2.atI xs i).map .int
  | .str s, .int i => (L2.atI s.cps.toList i).map fun c => .str ⟨#[c]⟩
  | _, _ => none
/-- an operator's wish -/
def binW (op : Operator) (a b : Option D) (Q : RV → Prop) : Prop :=
  match op, a, b with
  | .Add, some (.int i), some (.int j) => Q (.val (.int (i + j)))
  | .Sub, some (.int i), some (.int j) => Q (.val (.int (i - j)))
  | .Mult, some (.int i), some (.int j) => L2.CMulW i j ∧ Q (.val (.int (i * j)))
  | .FloorDiv, some (.int i), some (.int j) => L2.CDivW i j ∧ Q (.val (.int (i / j)))
  | .Mod, some (.int i), some (.int j) => 0 < j ∧ Q (.val (.int (i % j)))
  | .Pow, some (.int i), some (.int j) => L2.CPow i j ∧ Q (.val (.int (i ^ j.toNat)))
  | .Add, some (.str x), some (.str y) => x.length + y.length ≤ line ∧ Q (.val (.str (x ++ y)))
  | .Add, some (.lst xs), some (.lst ys) => xs.length + ys.length ≤ line ∧ Q (.fr (.lst (xs ++ ys)))
  | .Add, some (.tup xs), some (.tup ys) => xs.length + ys.length ≤ line ∧ Q (.val (.tup (xs ++ ys)))
  | _, _, _ => False
mutual
def toPy : D → PyData
  | .non => .none
  | .bl b => .bool b
  | .int i => .int i
  | .str s => .str s
  | .tup xs => .tuple (toPys xs)
  | .lst xs => .list (toPys xs)
  | .dct _ _ => .none
  | .ins _ _ => .none
  | .fn _ => .none
  | .scr _ => .none
def toPys : List D → List PyData
  | [] => []
  | x :: xs => toPy x :: toPys xs
end
mutual
/-- plain data: no dict, no instance, at any depth -/
def plain : D → Bool
  | .tup xs => plains xs
  | .lst xs => plains xs
  | .dct _ _ => false
  | .ins _ _ => false
  | .fn _ => false
  | .scr _ => false
  | _ => true
def plains : List D → Bool
  | [] => true
  | x :: xs => plain x && plains xs
end
def okPy (d : D) : Prop := plain d = true ∧ SeqAt.shaped (toPy d) = true
def eqD (a b : D) : Bool := PyData.eqv (toPy a) (toPy b)
/-- is one of two the same object as None -/
def isNon : D → Bool
  | .non => true
  | _ => false
def cmpW (op : CmpOp) (a b : Option D) (Q : Bool → Prop) : Prop :=
  match op, a, b with
  | .Lt, some (.int i), some (.int j) => Q (decide (i < j))
  | .LtE, some (.int i), some (.int j) => Q (decide (i ≤ j))
  | .Gt, some (.int i), some (.int j) => Q (decide (j < i))
  | .GtE, some (.int i), some (.int j) => Q (decide (j ≤ i))
  | .Eq, some (.int i), some (.int j) => Q (decide (i = j))
  | .NotEq, some (.int i), some (.int j) => Q (!decide (i = j))
  | .Eq, some (.str i), some (.str j) => Q (decide (i = j))
  | .NotEq, some (.str i), some (.str j) => Q (!decide (i = j))
  | .Is, some x, some .non => Q (isNon x)
  | .IsNot, some x, some .non => Q (!isNon x)
  | .Eq, some x, some y => okPy x ∧ okPy y ∧ Q (eqD x y)
  | .NotEq, some x, some y => okPy x ∧ okPy y ∧ Q (!eqD x y)
  | _, _, _ => False
def tyD : Ty → D → Bool
  | .int, .int _ => true
  | .int, .bl _ => true
  | .bool, .bl _ => true
  | .str, .str _ => true
  | .lst, .lst _ => true
  | .tup, .tup _ => true
  | .dct, .dct _ _ => true
  | .cls c, .ins c' _ => c == c'
  | _, _ => false
def showD (d : D) : Str := PyData.shown (toPy d)
def biW (b : BI) (xs : List (Option D)) (Q : RV → Prop) : Prop :=
  match b, xs with
  | .len, [some (.lst ys)] => Q (.val (.int ys.length))
  | .len, [some (.tup ys)] => Q (.val (.int ys.length))
  | .len, [some (.str s)] => Q (.val (.int s.length))
  | .len, [some (.scr s)] => Q (.val (.int s.length))
  | .max2, [some (.int i), some (.int j)] => Q (.val (.int (if j > i then j else i)))
  | .min2, [some (.int i), some (.int j)] => Q (.val (.int (if j < i then j else i)))
  | .repr, [some d] => plain d = true ∧ (toPy d).showable = true ∧ (toPy d).depth ≤ 60 ∧ (showD d).length ≤ line ∧ Q (.val (.str (showD d)))
  | .max1, [some (.lst ds)] => ∃ ns : List Int, ds = ns.map .int ∧ ns ≠ [] ∧ ∀ m, m ∈ ns → (∀ n ∈ ns, n ≤ m) → Q (.val (.int m))
  | .min1, [some (.lst ds)] => ∃ ns : List Int, ds = ns.map .int ∧ ns ≠ [] ∧ ∀ m, m ∈ ns → (∀ n ∈ ns, m ≤ n) → Q (.val (.int m))
  | .sum, [some (.lst ds)] => ∃ ns : List Int, ds = ns.map .int ∧ Q (.val (.int ns.sum))
  | .all, [some (.lst ds)] => ∃ bs : List Bool, ds = bs.map .bl ∧ Q (.val (.bl (bs.all id)))
  | .any, [some (.lst ds)] => ∃ bs : List Bool, ds = bs.map .bl ∧ Q (.val (.bl (bs.any id)))
  | .lst, [some (.lst ds)] => Q (.fr (.lst ds))
  | .lst, [some (.tup ds)] => Q (.fr (.lst ds))
  | .tup, [some (.lst ds)] => Q (.val (.tup ds))
  | .tup, [some (.tup ds)] => Q (.val (.tup ds))
  | .str, [some (.int i)] => i.natAbs.log2 < 1920 ∧ (toString i : Str).length ≤ line ∧ Q (.val (.str (toString i)))
  | .int, [some (.int i)] => Q (.val (.int i))
  | .int, [some (.bl b)] => Q (.val (.int (if b = true then 1 else 0)))
  | _, _ => False

/-! ### the meaning -/
/-- an operand by its tree -/
def opd (e : E) (w : Env → XP → PostE → Prop) (env : Env) (X : XP) (Q : PostO) : Prop :=
  match e with
  | .ref i => match env[i]? with
    | some (some _) => Q (.slot i) env
    | _ => False
  | _ => w env X fun r env' => Q (.d r.toD) env'
/-- the truth of an operand -/
def tru (env : Env) (o : Op) (Q : Bool → Env → Prop) : Prop := ∃ d b, res env o = some d ∧ truth d = some b ∧ Q b env

/-- operands that are data, all of them -/
def datas : List Op → Option (List D)
  | [] => some []
  | .d d :: r => (datas r).map fun ds => d :: ds
  | .slot _ :: _ => none
/-- what a call hands: data, or the content of a slot, lent -/
def handed (env : Env) : Op → Option EV
  | .d d => some (.val d)
  | .slot i => match env[i]? with
    | some (some (.own o)) => some (.bor o)
    | some (some (.bor o)) => some (.bor o)
    | some (some (.val d)) => some (.val d)
    | _ => none
def bindS (evs : List (Option EV)) : List (Sum Nat D) → Option (List EV)
  | [] => some []
  | .inl k :: r => match evs[k]? with
    | some (some v) => (bindS evs r).map fun t => v :: t
    | _ => none
  | .inr d :: r => (bindS evs r).map fun t => .val d :: t
/-- the slots that are lent, in the parameters' order -/
def lent (env : Env) (os : List Op) : List (Sum Nat D) → List Nat
  | [] => []
  | .inl k :: r => match os[k]? with
    | some (.slot i) => (match env[i]? with
      | some (some (.own _)) => i :: lent env os r
      | some (some (.bor _)) => i :: lent env os r
      | _ => lent env os r)
    | _ => lent env os r
  | .inr _ :: r => lent env os r
def EV.put (o : OV) : EV → EV
  | .bor _ => .bor o
  | _ => .own o
/-- the lent objects are back -/
def back (env : Env) : List Nat → List OV → Env
  | i :: is, o :: os => back (env.set i ((env[i]?.getD none).map fun v => v.put o)) is os
  | _, _ => env
/-- a name is stored; a lent one never -/
def setS (env : Env) (i : Nat) (v : EV) (Q : Env → Prop) : Prop :=
  match env[i]? with
  | some (some (.bor _)) => False
  | some _ => Q (env.set i (some v))
  | none => False
def setAll (env : Env) (is : List Nat) (rs : List RV) (Q : Env → Prop) : Prop :=
  match is, rs with
  | [], [] => Q env
  | i :: is, r :: rs => setS env i r.toEV fun env' => setAll env' is rs Q
  | _, _ => False
/-- one's own list at a slot is changed in place -/
def putW (env : Env) (i : Nat) (n : Int) (d : D) (Q : Env → Prop) : Prop :=
  match env[i]? with
  | some (some (.own (.lst xs))) => ∃ j, L2.ixN xs.length n = some j ∧ Q (env.set i (some (.own (.lst (xs.set j d)))))
  | some (some (.bor (.lst xs))) => ∃ j, L2.ixN xs.length n = some j ∧ Q (env.set i (some (.bor (.lst (xs.set j d)))))
  | _ => False
mutual
def asg (t : Tg) (d : D) (env : Env) (Q : Env → Prop) : Prop :=
  match t with
  | .nm i => setS env i (.val d) Q
  | .tp ts => match d with
    | .tup ds => ds.length = ts.length ∧ asgs ts ds env Q
    | _ => False
def asgs (ts : List Tg) (ds : List D) (env : Env) (Q : Env → Prop) : Prop :=
  match ts, ds with
  | [], [] => Q env
  | t :: ts, d :: ds => asg t d env fun env' => asgs ts ds env' Q
  | _, _ => False
end
/-- the names of a comprehension forgotten -/
def wipeE (env : Env) : List Nat → Env
  | [] => env
  | v :: vs => (wipeE env vs).set v none
/-- behind a comprehension the names of its own are as ahead -/
def unwipe (env0 env : Env) : List Nat → Env
  | [] => env
  | v :: vs => (unwipe env0 env vs).set v (env0[v]?.getD none)
def noOwn (env : Env) : List Nat → Bool
  | [] => true
  | v :: vs => (match env[v]? with
    | some (some (.own _)) => false
    | some (some (.bor _)) => false
    | _ => true) && noOwn env vs
/-- what is walked -/
def itemsD : D → Option (List D)
  | .lst xs => some xs
  | .tup xs => some xs
  | .str s => some (s.cps.toList.map fun c => .str ⟨#[c]⟩)
  | _ => none
def rngD (lo hi : Int) : List D := (List.range (hi - lo).toNat).map fun (k : Nat) => .int (lo + k)
def rngW (xs : List (Option D)) (Q : List D → Prop) : Prop :=
  match xs with
  | [some (.int j)] => (-1000000 ≤ j ∧ j ≤ 1000000) ∧ Q (rngD 0 j)
  | [some (.int i), some (.int j)] => (-1000000 ≤ i ∧ i ≤ 1000000 ∧ -1000000 ≤ j ∧ j ≤ 1000000) ∧ Q (rngD i j)
  | _ => False
def numbered : Nat → List D → List D
  | _, [] => []
  | n, d :: ds => .tup [.int n, d] :: numbered (n + 1) ds
def enmW (xs : Option (List D)) (Q : List D → Prop) : Prop :=
  match xs with
  | some [.lst ds] => Q (numbered 0 ds)
  | some [.tup ds] => Q (numbered 0 ds)
  | _ => False
def zipD : List D → List D → List D
  | x :: xs, y :: ys => .tup [x, y] :: zipD xs ys
  | _, _ => []
def zipW (xs : Option (List D)) (Q : List D → Prop) : Prop :=
  match xs with
  | some [.lst ds, .lst es] => Q (zipD ds es)
  | some [.tup ds, .tup es] => Q (zipD ds es)
  | _ => False
def rvdW (xs : Option (List D)) (Q : List D → Prop) : Prop :=
  match xs with
  | some [.lst ds] => Q ds.reverse
  | _ => False
/-- a comprehension's turns -/
def lcW (turn : D → Env → (Option D → Env → Prop) → Prop) (Q : List D → Env → Prop) : List D → List D → Env → Prop
  | [], acc, env => Q acc env
  | d :: ds, acc, env => turn d env fun r env' => lcW turn Q ds (match r with | some y => acc ++ [y] | none => acc) env'
/-- what is wanted behind a statement -/
structure K where
  nx : Env → Prop
  rt : RV → Env → Prop
  bk : Env → Prop := fun _ => False
  ct : Env → Prop := fun _ => False
def forW (turn : D → Env → (Env → Prop) → Prop) (Q : Env → Prop) : List D → Env → Prop
  | [], env => Q env
  | d :: ds, env => turn d env fun env' => forW turn Q ds env'
def whileW (turn : Env → (Env → Prop) → Prop) : Nat → Env → Prop
  | 0, _ => False
  | n + 1, env => turn env fun env' => whileW turn n env'

/-- the text's defs and classes -/
structure Fns where
  f : Nat → Spec
  /-- the place of an attribute -/
  pos : Nat → Nat → Option Nat
  /-- the def of __init__ -/
  init : Nat → Nat

mutual
def wE (Γ : Fns) : E → Env → XP → PostE → Prop
  | .var i, env, _, Q => match env[i]? with
    | some (some (.val d)) => Q (.val d) env
    | some (some (.own o)) => Q (.val o.toD) (env.set i (some (.val o.toD)))
    | _ => False
  | .ref _, _, _, _ => False
  | .con d, env, _, Q => Q (.val d) env
  | .glb _ d, env, _, Q => Q (.val d) env
  | .bin op a b, env, X, Q => opd a (wE Γ a) env X fun x env1 => opd b (wE Γ b) env1 X fun y env2 => binW op (res env2 x) (res env2 y) fun r => Q r env2
  | .neg a, env, X, Q => opd a (wE Γ a) env X fun x env1 => ∃ i, res env1 x = some (.int i) ∧ Q (.val (.int (-i))) env1
  | .cmp op a b, env, X, Q => opd a (wE Γ a) env X fun x env1 => opd b (wE Γ b) env1 X fun y env2 => cmpW op (res env2 x) (res env2 y) fun r => Q (.val (.bl r)) env2
  | .chn o1 o2 a b c, env, X, Q => opd a (wE Γ a) env X fun x env1 => opd b (wE Γ b) env1 X fun y env2 => cmpW o1 (res env2 x) (res env2 y) fun r =>
      if r = true then opd c (wE Γ c) env2 X fun z env3 => cmpW o2 (res env3 y) (res env3 z) fun r' => Q (.val (.bl r')) env3 else Q (.val (.bl false)) env2
  | .and a b, env, X, Q => wE Γ a env X fun r env1 => ∃ c, r = .val (.bl c) ∧ if c = true then wE Γ b env1 X Q else Q (.val (.bl false)) env1
  | .or a b, env, X, Q => wE Γ a env X fun r env1 => ∃ c, r = .val (.bl c) ∧ if c = true then Q (.val (.bl true)) env1 else wE Γ b env1 X Q
  | .not a, env, X, Q => wE Γ a env X fun r env1 => ∃ c, r = .val (.bl c) ∧ Q (.val (.bl (!c))) env1
  | .ite c a b, env, X, Q => wT Γ c env X fun k env1 => if k = true then wE Γ a env1 X Q else wE Γ b env1 X Q
  | .tup es, env, X, Q => wOs Γ es env X fun os env1 => ∃ ds, datas os = some ds ∧ Q (.val (.tup ds)) env1
  | .lst es, env, X, Q => wOs Γ es env X fun os env1 => ∃ ds, datas os = some ds ∧ Q (.fr (.lst ds)) env1
  | .sub a i, env, X, Q => opd a (wE Γ a) env X fun x env1 => opd i (wE Γ i) env1 X fun y env2 => ∃ dx dy r, res env2 x = some dx ∧ res env2 y = some dy ∧ atD dx dy = some r ∧ Q (.val r) env2
  | .slc _ _ _, _, _, _ => False
  | .call f as src, env, X, Q => wOs Γ as env X fun os env1 => ∃ vs, bindS (os.map (handed env1)) src = some vs ∧ (lent env1 os src).Nodup ∧
      Γ.f f vs (fun r outs => Q r (back env1 (lent env1 os src) outs)) (fun x outs => X x (back env1 (lent env1 os src) outs))
  | .make _ _ _, _, _, _ => False
  | .bi b as, env, X, Q => wOs Γ as env X fun os env1 => biW b (os.map (res env1)) fun r => Q r env1
  | .isi a t, env, X, Q => opd a (wE Γ a) env X fun x env1 => ∃ d, res env1 x = some d ∧ Q (.val (.bl (tyD t d))) env1
  | .fld a f, env, X, Q => opd a (wE Γ a) env X fun x env1 => ∃ c fs k d, res env1 x = some (.ins c fs) ∧ Γ.pos c f = some k ∧ fs[k]? = some d ∧ Q (.val d) env1
  | .lm _ _ _, _, _, _ => False
  | .lc elt t it cond own, env, X, Q => wI Γ it env X fun ds env1 => noOwn env1 own = true ∧
      lcW (fun d env2 R => asg t d env2 fun env3 => wT Γ cond env3 (fun _ _ => False) fun b env4 =>
          if b = true then wE Γ elt env4 (fun _ _ => False) fun r env5 => R (some r.toD) (wipeE env5 own) else R none (wipeE env4 own))
        (fun acc env6 => Q (.fr (.lst acc)) (unwipe env1 env6 own)) ds [] (wipeE env1 own)
def wT (Γ : Fns) : T → Env → XP → (Bool → Env → Prop) → Prop
  | .yes, env, _, Q => Q true env
  | .tv e, env, X, Q => opd e (wE Γ e) env X fun o env1 => tru env1 o Q
  | .and a b, env, X, Q => wT Γ a env X fun c env1 => if c = true then wT Γ b env1 X Q else Q false env1
  | .or a b, env, X, Q => wT Γ a env X fun c env1 => if c = true then Q true env1 else wT Γ b env1 X Q
  | .not a, env, X, Q => wT Γ a env X fun c env1 => Q (!c) env1
  | .cmp op a b, env, X, Q => opd a (wE Γ a) env X fun x env1 => opd b (wE Γ b) env1 X fun y env2 => cmpW op (res env2 x) (res env2 y) fun r => Q r env2
  | .chn o1 o2 a b c, env, X, Q => opd a (wE Γ a) env X fun x env1 => opd b (wE Γ b) env1 X fun y env2 => cmpW o1 (res env2 x) (res env2 y) fun r =>
      if r = true then opd c (wE Γ c) env2 X fun z env3 => cmpW o2 (res env3 y) (res env3 z) fun r' => Q r' env3 else Q false env2
def wI (Γ : Fns) : I → Env → XP → (List D → Env → Prop) → Prop
  | .it e, env, X, Q => wE Γ e env X fun r env1 => ∃ ds, itemsD r.toD = some ds ∧ Q ds env1
  | .rng es, env, X, Q => wOs Γ es env X fun os env1 => rngW (os.map (res env1)) fun ds => Q ds env1
  | .enm es, env, X, Q => wOs Γ es env X fun os env1 => enmW (datas os) fun ds => Q ds env1
  | .zip es, env, X, Q => wOs Γ es env X fun os env1 => zipW (datas os) fun ds => Q ds env1
  | .rvd es, env, X, Q => wOs Γ es env X fun os env1 => rvdW (datas os) fun ds => Q ds env1
def wOs (Γ : Fns) : List E → Env → XP → PostOs → Prop
  | [], env, _, Q => Q [] env
  | e :: es, env, X, Q => opd e (wE Γ e) env X fun o env1 => wOs Γ es env1 X fun os env2 => Q (o :: os) env2
end
/-- several answers, none of them frozen -/
def wRs (Γ : Fns) : List E → Env → XP → (List RV → Env → Prop) → Prop
  | [], env, _, Q => Q [] env
  | e :: es, env, X, Q => wE Γ e env X fun r env1 => wRs Γ es env1 X fun rs env2 => Q (r :: rs) env2
mutual
def wS (Γ : Fns) : S → Env → XP → K → Prop
  | .asg i e, env, X, k => wE Γ e env X fun r env1 => setS env1 i r.toEV k.nx
  | .asgT t e, env, X, k => wE Γ e env X fun r env1 => asg t r.toD env1 k.nx
  | .par is es, env, X, k => wRs Γ es env X fun rs env1 => setAll env1 is rs k.nx
  | .put i ix e, env, X, k => wE Γ e env X fun r env1 => match env1[i]? with
    | some (some _) => opd ix (wE Γ ix) env1 X fun x env2 => (match res env2 x with
      | some (.int n) => putW env2 i n r.toD k.nx
      | _ => False)
    | _ => False
  | .ex e, env, X, k => wE Γ e env X fun _ env1 => k.nx env1
  | .ret (.var i), env, _, k => match env[i]? with
    | some (some (.val d)) => k.rt (.val d) env
    | some (some (.own o)) => k.rt (.fr o) (env.set i none)
    | _ => False
  | .ret e, env, X, k => wE Γ e env X k.rt
  | .retN, env, _, k => k.rt (.val .non) env
  | .ite c a b, env, X, k => wT Γ c env X fun b' env1 => if b' = true then wSs Γ a env1 X k else wSs Γ b env1 X k
  | .for_ t it body, env, X, k => wI Γ it env X fun ds env1 =>
      forW (fun d env2 R => asg t d env2 fun env3 => wSs Γ body env3 X { k with nx := R, ct := R, bk := k.nx }) k.nx ds env1
  | .while_ c body, env, X, k => ∃ n, whileW (fun env2 R => wT Γ c env2 X fun b env3 => if b = true then wSs Γ body env3 X { k with nx := R, ct := R, bk := k.nx } else k.nx env3) n env
  | .brk, env, _, k => k.bk env
  | .cnt, env, _, k => k.ct env
  | .pass, env, _, k => k.nx env
def wSs (Γ : Fns) : List S → Env → XP → K → Prop
  | [], env, _, k => k.nx env
  | s :: ss, env, X, k => wS Γ s env X { k with nx := fun env1 => wSs Γ ss env1 X k }
end
/-- a def: its names by slot, parameters first, its body -/
structure FD where
  np : Nat
  ns : Nat
  body : List S
/-- what is lent, as it is now -/
def bors : Env → List OV
  | [] => []
  | some (.bor o) :: r => o :: bors r
  | _ :: r => bors r
structure Text where
  fds : List FD
  pos : Nat → Nat → Option Nat
  init : Nat → Nat
/-- THE MEANING of the text's defs, calls at most n deep -/
def W (t : Text) : Nat → Nat → Spec
  | 0, _, _, _, _ => False
  | n + 1, f, as, Q, X => match t.fds[f]? with
    | none => False
    | some fd => as.length = fd.np ∧ wSs ⟨W t n, t.pos, t.init⟩ fd.body (as.map some ++ List.replicate (fd.ns - fd.np) none) (fun x env => X x (bors env))
        { nx := fun env => Q (.val .non) (bors env), rt := fun r env => Q r (bors env) }
end G
/-! A1: how data lies in a heap; what an environment says of the slots and the heap. -/
namespace G
open PySem PySem.Spec L2

/-- where the text's things stand -/
structure Lay where
  K : PySem.W.Frag
  cls : Nat → Addr
  fn : Nat → Addr
  at_ : Nat → List Str
  xc : Nat → Addr

mutual
def Rep (L : Lay) (F : Hp) : D → V → Prop
  | .non, v => v = .non
  | .bl b, v => v = .bl b
  | .int i, v => v = .int i
  | .str s, v => v = .str s ∧ s.length ≤ line
  | .tup ds, v => ∃ a vs, v = .ref a ∧ SqT L.K F a vs ∧ Reps L F ds vs
  | .lst ds, v => ∃ a vs, v = .ref a ∧ F a = some (.lst vs) ∧ Reps L F ds vs
  | .dct _ _, _ => False
  | .ins c ds, v => ∃ a dx fvs vs, v = .ref a ∧ F a = some (.ins (L.cls c) dx fvs) ∧ fvs = (L.at_ c).zip vs ∧ vs.length ≤ (L.at_ c).length ∧ Reps L F ds vs
  | .fn f, v => v = .ref (L.fn f)
  | .scr ns, v => ∃ a, v = .ref a ∧ SqL L.K F a (ns.map V.int)
def Reps (L : Lay) (F : Hp) : List D → List V → Prop
  | [], vs => vs = []
  | d :: ds, vs => ∃ v r, vs = v :: r ∧ Rep L F d v ∧ Reps L F ds r
end
def LeH (F H : Hp) : Prop := ∀ a o, F a = some o → H a = some o
theorem LeH.refl (F : Hp) : LeH F F := fun _ _ h => h
theorem LeH.trans {F G H : Hp} (a : LeH F G) (b : LeH G H) : LeH F H := fun c o h => b c o (a c o h)
theorem LeH.upd {F : Hp} {p : Addr} {o : HO} (h : F p = none) : LeH F (upd F p o) := fun a u e => by rw [upd_ne (ne_of_none e h)]; exact e
theorem sqT_mono {K : PySem.W.Frag} {F H : Hp} (m : LeH F H) {a : Addr} {vs : List V} (h : SqT K F a vs) : SqT K H a vs := by
  rcases h with (h | ⟨o, h⟩) | h
  · exact .inl (.inl (m _ _ h))
  · exact .inl (.inr ⟨o, m _ _ h⟩)
  · exact .inr h
theorem sqL_mono {K : PySem.W.Frag} {F H : Hp} (m : LeH F H) {a : Addr} {vs : List V} (h : SqL K F a vs) : SqL K H a vs := by
  rcases h with (h | ⟨o, h⟩) | h
  · exact .inl (.inl (m _ _ h))
  · exact .inl (.inr ⟨o, m _ _ h⟩)
  · exact .inr h
mutual
theorem Rep.mono {L : Lay} {F H : Hp} (m : LeH F H) : ∀ (d : D) (v : V), Rep L F d v → Rep L H d v
  | .non, _, h => h
  | .bl _, _, h => h
  | .int _, _, h => h
  | .str _, _, h => h
  | .tup ds, v, ⟨a, vs, e, s, r⟩ => ⟨a, vs, e, sqT_mono m s, Reps.mono m ds vs r⟩
  | .lst ds, v, ⟨a, vs, e, s, r⟩ => ⟨a, vs, e, m _ _ s, Reps.mono m ds vs r⟩
  | .dct _ _, _, h => h
  | .ins c ds, v, ⟨a, dx, fvs, vs, e, s, z, l, r⟩ => ⟨a, dx, fvs, vs, e, m _ _ s, z, l, Reps.mono m ds vs r⟩
  | .fn _, _, h => h
  | .scr _, _, ⟨a, e, s⟩ => ⟨a, e, sqL_mono m s⟩
theorem Reps.mono {L : Lay} {F H : Hp} (m : LeH F H) : ∀ (ds : List D) (vs : List V), Reps L F ds vs → Reps L H ds vs
  | [], _, h => h
  | d :: ds, _, ⟨v, r, e, h1, h2⟩ => ⟨v, r, e, Rep.mono m d v h1, Reps.mono m ds r h2⟩
end
theorem Reps.length {L : Lay} {F : Hp} : ∀ {ds : List D} {vs : List V}, Reps L F ds vs → vs.length = ds.length
  | [], _, h => by rw [show _ = ([] : List V) from h]; rfl
  | _ :: _, _, ⟨_, _, e, _, h⟩ => by rw [e, List.length_cons, List.length_cons, Reps.length h]
theorem Reps.get {L : Lay} {F : Hp} : ∀ {ds : List D} {vs : List V} {i : Nat} {d : D}, Reps L F ds vs → ds[i]? = some d → ∃ v, vs[i]? = some v ∧ Rep L F d v
  | [], _, _, _, _, e => by simp at e
  | _ :: _, _, 0, _, ⟨v, r, e, h1, _⟩, q => by simp at q; subst q; subst e; exact ⟨v, rfl, h1⟩
  | _ :: ds, _, i + 1, _, ⟨v, r, e, _, h⟩, q => by
    subst e
    obtain ⟨w, h1, h2⟩ := Reps.get (i := i) h (by simpa using q)
    exact ⟨w, by simpa using h1, h2⟩
theorem Reps.append {L : Lay} {F : Hp} : ∀ {ds es : List D} {vs ws : List V}, Reps L F ds vs → Reps L F es ws → Reps L F (ds ++ es) (vs ++ ws)
  | [], _, _, _, h, k => by rw [show _ = ([] : List V) from h]; exact k
  | _ :: _, _, _, _, ⟨v, r, e, h1, h⟩, k => by subst e; exact ⟨v, r ++ _, rfl, h1, Reps.append h k⟩
theorem Reps.set {L : Lay} {F : Hp} {d : D} {v : V} (q : Rep L F d v) : ∀ {ds : List D} {vs : List V} (i : Nat), Reps L F ds vs → Reps L F (ds.set i d) (vs.set i v)
  | [], _, _, h => by rw [show _ = ([] : List V) from h]; rfl
  | _ :: _, _, 0, ⟨_, r, e, _, h⟩ => by subst e; exact ⟨v, r, rfl, q, h⟩
  | _ :: _, _, i + 1, ⟨w, r, e, h1, h⟩ => by subst e; exact ⟨w, r.set i v, rfl, h1, Reps.set q i h⟩

/-- an object of one's own at p: not in the part that never changes -/
def OwnAt (L : Lay) (F H : Hp) (p : Addr) : OV → Prop
  | .lst ds => F p = none ∧ ∃ vs, H p = some (.lst vs) ∧ Reps L F ds vs
  | .ins c ds => F p = none ∧ ∃ dx vs, H p = some (.ins (L.cls c) dx ((L.at_ c).zip vs)) ∧ vs.length ≤ (L.at_ c).length ∧ Reps L F ds vs
theorem OwnAt.none {L : Lay} {F H : Hp} {p : Addr} : ∀ {o : OV}, OwnAt L F H p o → F p = Option.none
  | .lst _, h => h.1
  | .ins _ _, h => h.1
theorem OwnAt.there {L : Lay} {F H : Hp} {p : Addr} : ∀ {o : OV}, OwnAt L F H p o → ∃ u, H p = some u
  | .lst _, ⟨_, _, h, _⟩ => ⟨_, h⟩
  | .ins _ _, ⟨_, _, _, h, _⟩ => ⟨_, h⟩
theorem OwnAt.step {L : Lay} {F F' H H' : Hp} {p : Addr} (m : LeH F F') (hp : F' p = Option.none) (hH : ∀ u, H p = some u → H' p = some u) : ∀ {o : OV}, OwnAt L F H p o → OwnAt L F' H' p o
  | .lst _, ⟨_, vs, h, r⟩ => ⟨hp, vs, hH _ h, Reps.mono m _ _ r⟩
  | .ins _ _, ⟨_, dx, vs, h, l, r⟩ => ⟨hp, dx, vs, hH _ h, l, Reps.mono m _ _ r⟩
/-- read as data, as it is now -/
theorem OwnAt.rep {L : Lay} {F H G : Hp} {p : Addr} (m : LeH F G) (hG : ∀ u, H p = some u → G p = some u) : ∀ {o : OV}, OwnAt L F H p o → Rep L G o.toD (.ref p)
  | .lst _, ⟨_, vs, h, r⟩ => ⟨p, vs, rfl, hG _ h, Reps.mono m _ _ r⟩
  | .ins _ _, ⟨_, dx, vs, h, l, r⟩ => ⟨p, dx, _, vs, rfl, hG _ h, rfl, l, Reps.mono m _ _ r⟩

/-- what stays the same through a def's body: where things stand, what others own, the slots that are lent and where these stand, the part that never changes, at the entry -/
structure PP where
  L : Lay
  O : Hp
  B : Nat → Addr
  isB : Nat → Bool
  F0 : Hp
def ownish : Option (Option EV) → Option OV
  | some (some (.own o)) => some o
  | some (some (.bor o)) => some o
  | _ => none
/-- A tells where each slot's own object stands -/
structure ER (P : PP) (A : Nat → Addr) (σ : St) (H : Hp) (env : Env) (F : Hp) : Prop where
  sub : LeH F H
  le0 : LeH P.F0 F
  fr : ∀ a o, P.O a = some o → H a = some o ∧ F a = none
  len : env.length = σ.length
  val : ∀ (i : Nat) (d : D), env[i]? = some (some (.val d)) → ∃ v, σ[i]? = some (some v) ∧ Rep P.L F d v
  own : ∀ (i : Nat) (o : OV), ownish env[i]? = some o → σ[i]? = some (some (.ref (A i))) ∧ OwnAt P.L F H (A i) o ∧ P.O (A i) = none
  ne : ∀ (i j : Nat) (o u : OV), ownish env[i]? = some o → ownish env[j]? = some u → i ≠ j → A i ≠ A j
  bor : ∀ (i : Nat) (o : OV), env[i]? = some (some (.bor o)) → A i = P.B i
  isb : ∀ (i : Nat), P.isB i = true ↔ ∃ o : OV, env[i]? = some (some (.bor o))
def EX (P : PP) (σ : St) (H : Hp) (env : Env) (F : Hp) : Prop := ∃ A, ER P A σ H env F
/-- .. and an answer -/
def RVr (P : PP) (A : Nat → Addr) (H : Hp) (env : Env) (F : Hp) (v : V) : RV → Prop
  | .val d => Rep P.L F d v
  | .fr o => ∃ p, v = .ref p ∧ OwnAt P.L F H p o ∧ P.O p = none ∧ ∀ (i : Nat) (u : OV), ownish env[i]? = some u → A i ≠ p
def EXv (P : PP) (σ : St) (H : Hp) (env : Env) (F : Hp) (v : V) (r : RV) : Prop := ∃ A, ER P A σ H env F ∧ RVr P A H env F v r

theorem ownish_val {d : D} : ownish (some (some (.val d))) = none := rfl
theorem ownish_some {x : Option (Option EV)} {o : OV} (h : ownish x = some o) : x = some (some (.own o)) ∨ x = some (some (.bor o)) := by
  cases x with
  | none => cases h
  | some y => cases y with
    | none => cases h
    | some z => cases z with
      | val d => cases h
      | own u => cases h; exact .inl rfl
      | bor u => cases h; exact .inr rfl
theorem get_set_self {env : Env} {i : Nat} {x y : Option EV} (h : env[i]? = some y) : (env.set i x)[i]? = some x := List.getElem?_set_self (List.getElem?_eq_some_iff.mp h).1
theorem get_set_ne {env : Env} {i j : Nat} {x : Option EV} (h : i ≠ j) : (env.set i x)[j]? = env[j]? := List.getElem?_set_ne h
section
variable {P : PP} {A : Nat → Addr} {σ : St} {H H' : Hp} {env : Env} {F F' : Hp}
/-- a slot's own object is frozen: from now on it never changes -/
theorem ER.freeze (e : ER P A σ H env F) {i : Nat} {o : OV} (h : env[i]? = some (some (.own o))) :
    ∃ F', LeH F F' ∧ Rep P.L F' o.toD (.ref (A i)) ∧ ER P A σ H (env.set i (some (.val o.toD))) F' := by
  have ho : ownish env[i]? = some o := by rw [h]; rfl
  obtain ⟨hs, hO, hPO⟩ := e.own i o ho
  obtain ⟨u, hu⟩ := hO.there
  have hF := hO.none
  have m : LeH F (upd F (A i) u) := LeH.upd hF
  have rp : Rep P.L (upd F (A i) u) o.toD (.ref (A i)) := hO.rep m fun w hw => by rw [hu] at hw; cases hw; exact upd_same
  have own' : ∀ (j : Nat) (w : OV), ownish (env.set i (some (.val o.toD)))[j]? = some w → i ≠ j ∧ ownish env[j]? = some w := fun j w q => by
    by_cases ij : i = j
    · subst ij
      rw [get_set_self h] at q
      cases q
    · rw [get_set_ne ij] at q
      exact ⟨ij, q⟩
  refine ⟨upd F (A i) u, m, rp, ⟨fun a w q => ?_, e.le0.trans m, fun a w q => ?_, by rw [List.length_set]; exact e.len, fun j d q => ?_, fun j w q => ?_, fun j k w z q1 q2 n => ?_, fun j w q => ?_, fun j => ?_⟩⟩
  · by_cases ha : a = A i
    · subst ha
      rw [upd_same] at q
      cases q
      exact hu
    · rw [upd_ne ha] at q
      exact e.sub a w q
  · have na : a ≠ A i := fun z => by rw [z, hPO] at q; cases q
    rw [upd_ne na]
    exact e.fr a w q
  · by_cases ij : i = j
    · subst ij
      rw [get_set_self h] at q
      cases q
      exact ⟨_, hs, rp⟩
    · rw [get_set_ne ij] at q
      obtain ⟨v, h1, h2⟩ := e.val j d q
      exact ⟨v, h1, Rep.mono m _ _ h2⟩
  · obtain ⟨ij, q⟩ := own' j w q
    obtain ⟨h1, h2, h3⟩ := e.own j w q
    refine ⟨h1, h2.step m ?_ fun _ z => z, h3⟩
    rw [upd_ne (e.ne j i w o q ho (Ne.symm ij))]
    exact h2.none
  · exact e.ne j k w z (own' j w q1).2 (own' k z q2).2 n
  · have ij : i ≠ j := fun z => by subst z; rw [get_set_self h] at q; cases q
    rw [get_set_ne ij] at q
    exact e.bor j w q
  · rw [e.isb j]
    by_cases ij : i = j
    · subst ij
      rw [get_set_self h, h]
      constructor
      · rintro ⟨w, q⟩; cases q
      · rintro ⟨w, q⟩; cases q
    · rw [get_set_ne ij]
/-- a new object of one's own is frozen -/
theorem EXv.freeze {v : V} {r : RV} (e : EXv P σ H env F v r) : ∃ F', LeH F F' ∧ Rep P.L F' r.toD v ∧ EX P σ H env F' := by
  obtain ⟨A, e, hr⟩ := e
  cases r with
  | val d => exact ⟨F, LeH.refl F, hr, A, e⟩
  | fr o =>
    obtain ⟨p, rfl, hO, hPO, hn⟩ := hr
    obtain ⟨u, hu⟩ := hO.there
    have hF := hO.none
    have m : LeH F (upd F p u) := LeH.upd hF
    have rp : Rep P.L (upd F p u) o.toD (.ref p) := hO.rep m fun w hw => by rw [hu] at hw; cases hw; exact upd_same
    refine ⟨upd F p u, m, rp, A, ⟨fun a w q => ?_, e.le0.trans m, fun a w q => ?_, e.len, fun j d q => ?_, fun j w q => ?_, e.ne, e.bor, e.isb⟩⟩
    · by_cases ha : a = p
      · subst ha
        rw [upd_same] at q
        cases q
        exact hu
      · rw [upd_ne ha] at q
        exact e.sub a w q
    · have na : a ≠ p := fun z => by rw [z, hPO] at q; cases q
      rw [upd_ne na]
      exact e.fr a w q
    · obtain ⟨v, h1, h2⟩ := e.val j d q
      exact ⟨v, h1, Rep.mono m _ _ h2⟩
    · obtain ⟨h1, h2, h3⟩ := e.own j w q
      refine ⟨h1, h2.step m ?_ fun _ z => z, h3⟩
      rw [upd_ne (hn j w q)]
      exact h2.none
/-- the heap grows by a new object -/
theorem ER.grow (e : ER P A σ H env F) (k : ∀ a o, H a = some o → H' a = some o) : ER P A σ H' env F :=
  ⟨fun a o q => k a o (e.sub a o q), e.le0, fun a o q => ⟨k a o (e.fr a o q).1, (e.fr a o q).2⟩, e.len, e.val, fun i o q => let ⟨h1, h2, h3⟩ := e.own i o q; ⟨h1, h2.step (LeH.refl F) h2.none (fun u z => k _ u z), h3⟩, e.ne, e.bor, e.isb⟩
theorem EX.grow (e : EX P σ H env F) (k : ∀ a o, H a = some o → H' a = some o) : EX P σ H' env F := let ⟨A, e⟩ := e; ⟨A, e.grow k⟩
theorem grows {p : Addr} {o : HO} (h : H p = none) : ∀ a u, H a = some u → upd H p o a = some u := fun a u e => by rw [upd_ne (ne_of_none e h)]; exact e
/-- .. that belongs to the unchanging part -/
theorem ER.froze (e : ER P A σ H env F) {p : Addr} {o : HO} (h : H p = none) : ER P A σ (upd H p o) env (upd F p o) := by
  have hF : F p = none := by
    cases q : F p with
    | none => rfl
    | some u => rw [e.sub p u q] at h; cases h
  have m : LeH F (upd F p o) := LeH.upd hF
  have e' := e.grow (grows (o := o) h)
  refine ⟨fun a w q => ?_, e.le0.trans m, fun a w q => ?_, e.len, fun j d q => ?_, fun j w q => ?_, e.ne, e.bor, e.isb⟩
  · by_cases ha : a = p
    · subst ha; rw [upd_same] at q ⊢; exact q
    · rw [upd_ne ha] at q ⊢; exact e.sub a w q
  · have na : a ≠ p := ne_of_none (e.fr a w q).1 h
    rw [upd_ne na, upd_ne na]
    exact e.fr a w q
  · obtain ⟨v, h1, h2⟩ := e.val j d q
    exact ⟨v, h1, Rep.mono m _ _ h2⟩
  · obtain ⟨h1, h2, h3⟩ := e'.own j w q
    obtain ⟨u, hu⟩ := (e.own j w q).2.1.there
    refine ⟨h1, h2.step m ?_ fun _ z => z, h3⟩
    rw [upd_ne (ne_of_none hu h)]
    exact h2.none
theorem EX.froze (e : EX P σ H env F) {p : Addr} {o : HO} (h : H p = none) : EX P σ (upd H p o) env (upd F p o) := let ⟨A, e⟩ := e; ⟨A, e.froze h⟩
theorem EX.nop (e : EX P σ H env F) {p : Addr} (h : H p = none) : F p = none := by
  obtain ⟨A, e⟩ := e
  cases q : F p with
  | none => rfl
  | some u => rw [e.sub p u q] at h; cases h
/-- a new list is one's own -/
theorem EX.fresh (e : EX P σ H env F) {p : Addr} {vs : List V} {ds : List D} (h : H p = none) (r : Reps P.L F ds vs) : EXv P σ (upd H p (.lst vs)) env F (.ref p) (.fr (.lst ds)) := by
  have hF := e.nop h
  obtain ⟨A, e⟩ := e
  refine ⟨A, e.grow (grows h), p, rfl, ⟨hF, vs, upd_same, r⟩, ?_, fun i u q => ?_⟩
  · cases q : P.O p with
    | none => rfl
    | some u => rw [(e.fr p u q).1] at h; cases h
  · obtain ⟨u, hu⟩ := (e.own i _ q).2.1.there
    exact ne_of_none hu h
/-- an operand's value -/
def OpR (P : PP) (F : Hp) (σ : St) (v : V) : Op → Prop
  | .d d => Rep P.L F d v
  | .slot i => σ[i]? = some (some v)
theorem OpR.mono {v : V} (m : LeH F F') : ∀ {o : Op}, OpR P F σ v o → OpR P F' σ v o
  | .d _, h => Rep.mono m _ _ h
  | .slot _, h => h
/-- an operand is read, now: its parts lie in the unchanging part -/
def Top (P : PP) (F H : Hp) (d : D) (v : V) : Prop := Rep P.L F d v ∨ ∃ p o, v = .ref p ∧ o.toD = d ∧ OwnAt P.L F H p o
theorem ER.res (e : ER P A σ H env F) {o : Op} {v : V} {d : D} (h : OpR P F σ v o) (q : res env o = some d) : Top P F H d v := by
  cases o with
  | d d' => cases q; exact .inl h
  | slot i =>
    unfold G.res at q
    have h : σ[i]? = some (some v) := h
    cases x : env[i]? with
    | none => simp only [x] at q; cases q
    | some y => cases y with
      | none => simp only [x] at q; cases q
      | some z =>
        simp only [x] at q
        cases z with
        | val d' =>
          cases q
          obtain ⟨w, h1, h2⟩ := e.val i d' x
          rw [h] at h1
          cases h1
          exact .inl h2
        | own u =>
          cases q
          obtain ⟨h1, h2, _⟩ := e.own i u (by rw [x]; rfl)
          rw [h] at h1
          cases h1
          exact .inr ⟨_, u, rfl, rfl, h2⟩
        | bor u =>
          cases q
          obtain ⟨h1, h2, _⟩ := e.own i u (by rw [x]; rfl)
          rw [h] at h1
          cases h1
          exact .inr ⟨_, u, rfl, rfl, h2⟩
theorem Top.now {d : D} {v : V} (t : Top P F H d v) (m : LeH F H) : Rep P.L H d v := by
  rcases t with t | ⟨p, o, rfl, rfl, t⟩
  · exact Rep.mono m _ _ t
  · exact t.rep m fun _ z => z
theorem Top.lst {ds : List D} {v : V} (t : Top P F H (.lst ds) v) (m : LeH F H) : ∃ a vs, v = .ref a ∧ H a = some (.lst vs) ∧ Reps P.L F ds vs := by
  rcases t with ⟨a, vs, e, s, r⟩ | ⟨p, o, rfl, q, t⟩
  · exact ⟨a, vs, e, m _ _ s, r⟩
  · cases o with
    | ins c fs => cases q
    | lst xs =>
      cases q
      obtain ⟨_, vs, h, r⟩ := t
      exact ⟨p, vs, rfl, h, r⟩
theorem Top.scr {ns : List Int} {v : V} (t : Top P F H (.scr ns) v) (m : LeH F H) : ∃ a, v = .ref a ∧ SqL P.L.K H a (ns.map V.int) := by
  rcases t with ⟨a, e, s⟩ | ⟨p, o, rfl, q, t⟩
  · exact ⟨a, e, sqL_mono m s⟩
  · cases o <;> cases q
theorem Top.tup {ds : List D} {v : V} (t : Top P F H (.tup ds) v) (m : LeH F H) : ∃ a vs, v = .ref a ∧ SqT P.L.K H a vs ∧ Reps P.L F ds vs := by
  rcases t with ⟨a, vs, e, s, r⟩ | ⟨p, o, rfl, q, t⟩
  · exact ⟨a, vs, e, sqT_mono m s, r⟩
  · cases o <;> cases q
theorem Top.int {i : Int} {v : V} (t : Top P F H (.int i) v) : v = .int i := by
  rcases t with e | ⟨p, o, rfl, q, t⟩
  · exact e
  · cases o <;> cases q
theorem Top.str {s : Str} {v : V} (t : Top P F H (.str s) v) : v = .str s ∧ s.length ≤ line := by
  rcases t with e | ⟨p, o, rfl, q, t⟩
  · exact e
  · cases o <;> cases q
theorem Top.bl {b : Bool} {v : V} (t : Top P F H (.bl b) v) : v = .bl b := by
  rcases t with e | ⟨p, o, rfl, q, t⟩
  · exact e
  · cases o <;> cases q
theorem Top.non {v : V} (t : Top P F H .non v) : v = .non := by
  rcases t with e | ⟨p, o, rfl, q, t⟩
  · exact e
  · cases o <;> cases q
end

/-! ### readings by wishes -/
def tO (P : PP) (Γ : Fns) (X : XP) (m : E) : TE := fun σ H Q => ∃ env F R, EX P σ H env F ∧ opd m (wE Γ m) env X R ∧ ∀ o env' v H' F', R o env' → LeH F F' → EX P σ H' env' F' → OpR P F' σ v o → Q v H'
def tE (P : PP) (Γ : Fns) (X : XP) (m : E) : TE := fun σ H Q => ∃ env F R, EX P σ H env F ∧ wE Γ m env X R ∧ ∀ r env' v H' F', R r env' → LeH F F' → EXv P σ H' env' F' v r → Q v H'
def tT (P : PP) (Γ : Fns) (X : XP) (m : T) : TT := fun σ H Q => ∃ env F R, EX P σ H env F ∧ wT Γ m env X R ∧ ∀ b env' H' F', R b env' → LeH F F' → EX P σ H' env' F' → Q b H'
def OpRs (P : PP) (F : Hp) (σ : St) : List V → List Op → Prop := Paired (OpR P F σ)
theorem OpRs.mono {P : PP} {F F' : Hp} {σ : St} (m : LeH F F') {vs : List V} {os : List Op} (h : OpRs P F σ vs os) : OpRs P F' σ vs os := Paired.mapP h fun _ _ q => OpR.mono m q
def tOs (P : PP) (Γ : Fns) (X : XP) (ms : List E) : TA := fun σ H Q => ∃ env F R, EX P σ H env F ∧ wOs Γ ms env X R ∧ ∀ os env' vs H' F', R os env' → LeH F F' → EX P σ H' env' F' → OpRs P F' σ vs os → vs.length = ms.length → Q vs H'
/-- an iterator over these data -/
def ItOk (L : Lay) (J : It) (F : Hp) (ds : List D) : Prop :=
  (∀ H, LeH F H → J.stop ds.length H) ∧ ∀ (i : Nat) (d : D), ds[i]? = some d → ∀ F1 H, LeH F F1 → LeH F1 H → J.go i H ∧ ∀ x H', J.yld i H x H' →
    ∃ F2, LeH F1 F2 ∧ LeH F2 H' ∧ (∀ a o, H a = some o → H' a = some o ∧ F2 a = F1 a) ∧ Rep L F2 d x
def tI (P : PP) (Γ : Fns) (X : XP) (m : I) : TI := fun σ H R => ∃ env F Rd, EX P σ H env F ∧ wI Γ m env X Rd ∧ ∀ ds env' H' F' J, Rd ds env' → LeH F F' → EX P σ H' env' F' → ds.length ≤ line → ItOk P.L J F' ds → R J H'

theorem pe_imp {X : Cx} {e : Expr} {t t' : TE} (h : PE X e t) (m : ∀ σ H Q, t' σ H Q → t σ H Q) : PE X e t' := ⟨fun pins s σ H Q I q => h.run pins s σ H Q I (m σ H Q q)⟩
theorem pt_imp {X : Cx} {e : Expr} {t t' : TT} (h : PT X e t) (m : ∀ σ H Q, t' σ H Q → t σ H Q) : PT X e t' := ⟨fun pins s σ H Q I q => h.run pins s σ H Q I (m σ H Q q)⟩
theorem pa_imp {X : Cx} {e : List Expr} {t t' : TA} (h : PA X e t) (m : ∀ σ H Q, t' σ H Q → t σ H Q) : PA X e t' := ⟨fun pos pins s σ H Q I q => h.run pos pins s σ H Q I (m σ H Q q)⟩
theorem ps_imp {X : Cx} {e : Stmt} {t t' : TS} (h : PS X e t) (m : ∀ Dn σ H, t' Dn σ H → t Dn σ H) : PS X e t' := ⟨fun pins s σ H Dn I q => h.run pins s σ H Dn I (m Dn σ H q)⟩
theorem pss_imp {X : Cx} {e : List Stmt} {t t' : TS} (h : PSs X e t) (m : ∀ Dn σ H, t' Dn σ H → t Dn σ H) : PSs X e t' := ⟨fun pins s σ H Dn I q => h.run pins s σ H Dn I (m Dn σ H q)⟩
theorem pi_imp {X : Cx} {tg e : Expr} {t t' : TI} (h : PI X tg e t) (m : ∀ σ H R, t' σ H R → t σ H R) : PI X tg e t' := ⟨fun pins s σ H R I q => h.run pins s σ H R I (m σ H R q)⟩
end G
/-! A2: each form of expression keeps its meaning. -/
namespace G
open PySem PySem.Spec L2

section
variable {X : Cx} {P : PP} {Γ : Fns} {Xp : XP} {pos : Pos} {x y z : Expr} {a b c : E}

theorem EX.pure {σ : L2.St} {H : Hp} {env : Env} {F : Hp} {v : V} {d : D} (e : EX P σ H env F) (r : Rep P.L F d v) : EXv P σ H env F v (.val d) := let ⟨A, e⟩ := e; ⟨A, e, r⟩
theorem EXv.ex {σ : L2.St} {H : Hp} {env : Env} {F : Hp} {v : V} {r : RV} (e : EXv P σ H env F v r) : EX P σ H env F := let ⟨A, e, _⟩ := e; ⟨A, e⟩
theorem EX.sub {σ : L2.St} {H : Hp} {env : Env} {F : Hp} (e : EX P σ H env F) : LeH F H := let ⟨_, e⟩ := e; e.sub
theorem EX.res {σ : L2.St} {H : Hp} {env : Env} {F : Hp} (e : EX P σ H env F) {o : Op} {v : V} {d : D} (h : OpR P F σ v o) (q : res env o = some d) : Top P F H d v := let ⟨_, e⟩ := e; e.res h q
theorem line_eq : line = sizeLine := by rw [sizeLine_eq]; rfl

/-- a name that is looked at -/
theorem o_ref {i : Nat} (h : PE X x (tVar i)) : PE X x (tO P Γ Xp (.ref i)) := pe_imp h fun σ H Q h => by
  obtain ⟨env, F, R, ex, w, k⟩ := h
  obtain ⟨A, e⟩ := id ex
  unfold opd at w
  dsimp only at w
  cases hx : env[i]? with
  | none => rw [hx] at w; exact w.elim
  | some y => cases y with
    | none => rw [hx] at w; exact w.elim
    | some z =>
      rw [hx] at w
      have : ∃ v, σ[i]? = some (some v) := by
        cases z with
        | val d => obtain ⟨v, h, _⟩ := e.val i d hx; exact ⟨v, h⟩
        | own o => exact ⟨_, (e.own i o (by rw [hx]; rfl)).1⟩
        | bor o => exact ⟨_, (e.own i o (by rw [hx]; rfl)).1⟩
      obtain ⟨v, hv⟩ := this
      exact ⟨v, hv, k _ env v H F w (LeH.refl F) ex hv⟩
theorem o_of (hr : ∀ i, a ≠ .ref i) (h : PE X x (tE P Γ Xp a)) : PE X x (tO P Γ Xp a) := pe_imp h fun σ H Q h => by
  obtain ⟨env, F, R, ex, w, k⟩ := h
  have w' : wE Γ a env Xp fun r env' => R (.d r.toD) env' := by
    cases a <;> first
      | exact w
      | exact absurd rfl (hr _)
  refine ⟨env, F, _, ex, w', fun r env' v H' F' q m e => ?_⟩
  obtain ⟨F2, m2, rp, e2⟩ := e.freeze
  exact k _ env' v H' F2 q (m.trans m2) e2 rp
theorem e_var {i : Nat} (h : PE X x (tVar i)) : PE X x (tE P Γ Xp (.var i)) := pe_imp h fun σ H Q h => by
  obtain ⟨env, F, R, ex, w, k⟩ := h
  obtain ⟨A, e⟩ := id ex
  simp only [wE] at w
  cases hx : env[i]? with
  | none => rw [hx] at w; exact w.elim
  | some y => cases y with
    | none => rw [hx] at w; exact w.elim
    | some z =>
      rw [hx] at w
      cases z with
      | val d =>
        obtain ⟨v, h1, h2⟩ := e.val i d hx
        exact ⟨v, h1, k _ env v H F w (LeH.refl F) (ex.pure h2)⟩
      | own o =>
        obtain ⟨F', m, rp, e'⟩ := e.freeze hx
        exact ⟨_, (e.own i o (by rw [hx]; rfl)).1, k _ _ _ H F' w m ⟨A, e', rp⟩⟩
      | bor o => exact w.elim
theorem e_con {d : D} {v : V} (h : PE X x (tC v)) (r : ∀ F, Rep P.L F d v) : PE X x (tE P Γ Xp (.con d)) := pe_imp h fun σ H Q h => by
  obtain ⟨env, F, R, ex, w, k⟩ := h
  exact k _ env v H F w (LeH.refl F) (ex.pure (r F))
theorem e_glb {d : D} {v : V} {g : Str} (h : PE X x (tC v)) (r : ∀ F, Rep P.L F d v) : PE X x (tE P Γ Xp (.glb g d)) := pe_imp h fun σ H Q h => by
  obtain ⟨env, F, R, ex, w, k⟩ := h
  exact k _ env v H F w (LeH.refl F) (ex.pure (r F))

/-- two operands, then an operation that asks r2 -/
theorem two {r2 : R2} {W2 : Option D → Option D → (RV → Prop) → Prop}
    (core : ∀ (σ : L2.St) (H : Hp) (env : Env) (F : Hp) (o1 o2 : Op) (v1 v2 : V) (R : RV → Prop) (Q : VK), EX P σ H env F → OpR P F σ v1 o1 → OpR P F σ v2 o2 → W2 (res env o1) (res env o2) R →
      (∀ r v H' F', R r → LeH F F' → EXv P σ H' env F' v r → Q v H') → r2 v1 v2 H Q)
    {σ : L2.St} {H : Hp} {Q : VK} {env : Env} {F : Hp} {R : PostE} (ex : EX P σ H env F)
    (w : opd a (wE Γ a) env Xp fun p env1 => opd b (wE Γ b) env1 Xp fun q env2 => W2 (res env2 p) (res env2 q) fun r => R r env2)
    (k : ∀ r env' v H' F', R r env' → LeH F F' → EXv P σ H' env' F' v r → Q v H') : tOp r2 (tO P Γ Xp a) (tO P Γ Xp b) σ H Q := by
  refine ⟨env, F, _, ex, w, fun o1 env1 v1 H1 F1 w1 m1 e1 p1 => ⟨env1, F1, _, e1, w1, fun o2 env2 v2 H2 F2 w2 m2 e2 p2 => ?_⟩⟩
  exact core σ H2 env2 F2 o1 o2 v1 v2 _ Q e2 (p1.mono m2) p2 w2 fun r v H' F' hr m e => k r env2 v H' F' hr ((m1.trans m2).trans m) e
theorem OpR2.or {f : Value → Value → Sem Value} {r r' : R2} (h : L2.OpR X f r) (h' : L2.OpR X f r') : L2.OpR X f (fun x y H Q => r x y H Q ∨ r' x y H Q) := by
  intro pins s σ H x y v u Q I rx ry q
  rcases q with q | q
  · exact h pins s σ H x y v u Q I rx ry q
  · exact h' pins s σ H x y v u Q I rx ry q
theorem OpR2.no {f : Value → Value → Sem Value} : L2.OpR X f (fun _ _ _ _ => False) := fun _ _ _ _ _ _ _ _ _ _ _ _ q => q.elim

/-- the rule of an operator -/
def rBin (K : PySem.W.Frag) : Operator → R2
  | .Add => fun x y H Q => rI0 (fun i j => .int (i + j)) x y H Q ∨ (∃ i j, x = .str i ∧ y = .str j ∧ i.length + j.length ≤ sizeLine ∧ Q (.str (i ++ j)) H) ∨ rCat x y H Q ∨ rCatA K x y H Q
  | .Sub => rI0 fun i j => .int (i - j)
  | .Mult => rI CMulW fun i j => .int (i * j)
  | .FloorDiv => rI CDivW fun i j => .int (i / j)
  | .Mod => rI (fun _ j => 0 < j) fun i j => .int (i % j)
  | .Pow => rI CPow fun i j => .int (i ^ j.toNat)
  | _ => fun _ _ _ _ => False
theorem op_bin (op : Operator) : L2.OpR X (binaryOp op) (rBin X.K op) := by
  cases op with
  | Add => exact OpR2.or op_add (OpR2.or op_add_str (OpR2.or op_cat op_catA))
  | Sub => exact op_sub
  | Mult => exact op_mulW
  | FloorDiv => exact op_fdivW
  | Mod => exact op_mod
  | Pow => exact op_pow
  | _ => exact OpR2.no
theorem int_post {σ : L2.St} {H : Hp} {env : Env} {F : Hp} {Q : VK} {R : RV → Prop} {i : Int} (ex : EX P σ H env F) (k : ∀ r v H' F', R r → LeH F F' → EXv P σ H' env F' v r → Q v H') (h : R (.val (.int i))) : Q (.int i) H :=
  k _ _ H F h (LeH.refl F) (ex.pure rfl)
theorem bl_post {σ : L2.St} {H : Hp} {env : Env} {F : Hp} {Q : VK} {R : RV → Prop} {i : Bool} (ex : EX P σ H env F) (k : ∀ r v H' F', R r → LeH F F' → EXv P σ H' env F' v r → Q v H') (h : R (.val (.bl i))) : Q (.bl i) H :=
  k _ _ H F h (LeH.refl F) (ex.pure rfl)
/-- a new tuple -/
theorem tup_post {σ : L2.St} {H : Hp} {env : Env} {F : Hp} {Q : VK} {R : RV → Prop} {vs : List V} {ds : List D} {p : Addr} (ex : EX P σ H env F) (k : ∀ r v H' F', R r → LeH F F' → EXv P σ H' env F' v r → Q v H')
    (h : R (.val (.tup ds))) (hp : H p = none) (r : Reps P.L F ds vs) : Q (.ref p) (upd H p (.tup vs)) := by
  have m : LeH F (upd F p (.tup vs)) := LeH.upd (ex.nop hp)
  exact k _ _ _ _ h m ((ex.froze hp).pure ⟨p, vs, rfl, .inl (.inl upd_same), Reps.mono m _ _ r⟩)
theorem lst_post {σ : L2.St} {H : Hp} {env : Env} {F : Hp} {Q : VK} {R : RV → Prop} {vs : List V} {ds : List D} {p : Addr} (ex : EX P σ H env F) (k : ∀ r v H' F', R r → LeH F F' → EXv P σ H' env F' v r → Q v H')
    (h : R (.fr (.lst ds))) (hp : H p = none) (r : Reps P.L F ds vs) : Q (.ref p) (upd H p (.lst vs)) := k _ _ _ _ h (LeH.refl F) (ex.fresh hp r)
theorem Reps.nil_iff {L : Lay} {F : Hp} {ds : List D} {vs : List V} (r : Reps L F ds vs) : vs = [] ↔ ds = [] := by
  cases ds with
  | nil => rw [show vs = [] from r]; simp
  | cons d ds => obtain ⟨v, r, e, _⟩ := r; rw [e]; simp
theorem Top.rtup {H F : Hp} {ds : List D} {v : V} (t : Top P F H (.tup ds) v) : Rep P.L F (.tup ds) v := by
  rcases t with t | ⟨p, o, rfl, q, t⟩
  · exact t
  · cases o <;> cases q
theorem bin_core (hK : X.K = P.L.K) {op : Operator} (σ : L2.St) (H : Hp) (env : Env) (F : Hp) (o1 o2 : Op) (v1 v2 : V) (R : RV → Prop) (Q : VK) (ex : EX P σ H env F) (p1 : OpR P F σ v1 o1) (p2 : OpR P F σ v2 o2) (w : binW op (res env o1) (res env o2) R)
    (k : ∀ r v H' F', R r → LeH F F' → EXv P σ H' env F' v r → Q v H') : rBin X.K op v1 v2 H Q := by
  generalize q1 : res env o1 = d1 at w
  generalize q2 : res env o2 = d2 at w
  unfold binW at w
  split at w
  · exact .inl ⟨_, _, (ex.res p1 q1).int, (ex.res p2 q2).int, int_post ex k w⟩
  · exact ⟨_, _, (ex.res p1 q1).int, (ex.res p2 q2).int, int_post ex k w⟩
  · exact ⟨_, _, (ex.res p1 q1).int, (ex.res p2 q2).int, w.1, int_post ex k w.2⟩
  · exact ⟨_, _, (ex.res p1 q1).int, (ex.res p2 q2).int, w.1, int_post ex k w.2⟩
  · exact ⟨_, _, (ex.res p1 q1).int, (ex.res p2 q2).int, w.1, int_post ex k w.2⟩
  · exact ⟨_, _, (ex.res p1 q1).int, (ex.res p2 q2).int, w.1, int_post ex k w.2⟩
  · refine .inr (.inl ⟨_, _, (ex.res p1 q1).str.1, (ex.res p2 q2).str.1, by rw [← line_eq]; exact w.1, ?_⟩)
    exact k _ _ H F w.2 (LeH.refl F) (ex.pure ⟨rfl, by rw [show ∀ s t : Str, (s ++ t).length = s.length + t.length from fun s t => Array.size_append]; exact w.1⟩)
  · obtain ⟨a1, vs1, rfl, h1, r1⟩ := (ex.res p1 q1).lst ex.sub
    obtain ⟨a2, vs2, rfl, h2, r2⟩ := (ex.res p2 q2).lst ex.sub
    refine .inr (.inr (.inl ⟨_, _, _, _, rfl, rfl, h1, h2, by rw [r1.length, r2.length, ← line_eq]; exact w.1, fun p hp => ?_⟩))
    exact lst_post ex k w.2 hp (r1.append r2)
  · have t1 := (ex.res p1 q1).rtup
    have t2 := (ex.res p2 q2).rtup
    obtain ⟨a1, vs1, rfl, h1, r1⟩ := id t1
    obtain ⟨a2, vs2, rfl, h2, r2⟩ := id t2
    refine .inr (.inr (.inr ⟨_, _, _, _, rfl, rfl, by rw [hK]; exact sqT_mono ex.sub h1, by rw [hK]; exact sqT_mono ex.sub h2, by rw [r1.length, r2.length, ← line_eq]; exact w.1, fun e => ?_, fun _ e => ?_, fun _ _ p hp => ?_⟩))
    · have e' := r1.nil_iff.mp e
      exact k _ _ H F w.2 (LeH.refl F) (ex.pure (by rw [e', List.nil_append]; exact t2))
    · have e' := r2.nil_iff.mp e
      exact k _ _ H F w.2 (LeH.refl F) (ex.pure (by rw [e', List.append_nil]; exact t1))
    · exact tup_post ex k w.2 hp (r1.append r2)
  · exact w.elim
theorem e_bin {op : Operator} (hK : X.K = P.L.K) (ha : PE X x (tO P Γ Xp a)) (hb : PE X y (tO P Γ Xp b)) : PE X (.BinOp x op y pos) (tE P Γ Xp (.bin op a b)) := pe_imp (pe_op (op_bin op) ha hb) fun σ H Q h => by
  obtain ⟨env, F, R, ex, w, k⟩ := h
  simp only [wE] at w
  exact two (W2 := binW op) (bin_core hK) ex w k
theorem e_neg (ha : PE X x (tO P Γ Xp a)) : PE X (.UnaryOp .USub x pos) (tE P Γ Xp (.neg a)) := pe_imp (pe_un un_neg ha) fun σ H Q h => by
  obtain ⟨env, F, R, ex, w, k⟩ := h
  simp only [wE] at w
  refine ⟨env, F, _, ex, w, fun o1 env1 v1 H1 F1 w1 m1 e1 p1 => ?_⟩
  obtain ⟨i, q, w1⟩ := w1
  exact ⟨i, (e1.res p1 q).int, k _ _ _ H1 F1 w1 m1 (e1.pure rfl)⟩

/-! ### comparisons -/
/-! plain data in a heap, as the layer says it -/
mutual
theorem rep_dp {H : Hp} : ∀ (d : D) (v : V), plain d = true → Rep P.L H d v → Dp P.L.K H v (toPy d)
  | .non, _, _, h => by rw [show _ = V.non from h]; exact .non
  | .bl _, _, _, h => by rw [show _ = V.bl _ from h]; exact .bl _
  | .int _, _, _, h => by rw [show _ = V.int _ from h]; exact .int _
  | .str _, _, _, h => by rw [show _ = V.str _ from h.1]; exact .str _
  | .tup ds, v, p, ⟨a, vs, e, s, r⟩ => by
    subst e
    exact .tup s (reps_dp ds vs (by simpa [plain] using p) r)
  | .lst ds, v, p, ⟨a, vs, e, s, r⟩ => by
    subst e
    exact .lst (.inl (.inl s)) (reps_dp ds vs (by simpa [plain] using p) r)
  | .dct _ _, _, p, _ => by simp [plain] at p
  | .ins _ _, _, p, _ => by simp [plain] at p
  | .fn _, _, p, _ => by simp [plain] at p
  | .scr _, _, p, _ => by simp [plain] at p
theorem reps_dp {H : Hp} : ∀ (ds : List D) (vs : List V), plains ds = true → Reps P.L H ds vs → DpAll P.L.K H vs (toPys ds)
  | [], _, _, h => by rw [show _ = ([] : List V) from h]; exact .nil
  | d :: ds, _, p, ⟨v, r, e, h1, h2⟩ => by
    subst e
    have p' : plain d = true ∧ plains ds = true := by simpa [plains] using p
    exact .cons (rep_dp d v p'.1 h1) (reps_dp ds r p'.2 h2)
end
def rCmp (K : PySem.W.Frag) : CmpOp → R2
  | .Lt => rI0 fun i j => .bl (decide (i < j))
  | .LtE => rI0 fun i j => .bl (decide (i ≤ j))
  | .Gt => rI0 fun i j => .bl (decide (j < i))
  | .GtE => rI0 fun i j => .bl (decide (j ≤ i))
  | .Eq => fun x y H Q => rEq x y H Q ∨ rEqD K x y H Q
  | .NotEq => fun x y H Q => rNe x y H Q ∨ rNeD K x y H Q
  | .Is => fun x y H Q => y = .non ∧ Q (.bl (decide (x = .non))) H
  | .IsNot => fun x y H Q => y = .non ∧ Q (.bl (!decide (x = .non))) H
  | _ => fun _ _ _ _ => False
theorem op_cmp (hu : X.A.units + 64 < cLine) (op : CmpOp) : L2.OpR X (compareOp op) (rCmp X.K op) := by
  cases op with
  | Lt => exact op_lt
  | LtE => exact op_le
  | Gt => exact op_gt
  | GtE => exact op_ge
  | Eq => exact OpR2.or op_eq (op_eqD hu)
  | NotEq => exact OpR2.or op_ne (op_neD hu)
  | Is => exact op_isN
  | IsNot => exact op_notN
  | _ => exact OpR2.no
theorem is_non {H F : Hp} {d : D} {v : V} (t : Top P F H d v) : decide (v = V.non) = isNon d := by
  rcases t with t | ⟨p, o, rfl, q, t⟩
  · cases d with
    | non => rw [show v = V.non from t]; rfl
    | bl b => rw [show v = V.bl b from t]; rfl
    | int i => rw [show v = V.int i from t]; rfl
    | str s => rw [show v = V.str s from t.1]; rfl
    | tup ds => obtain ⟨a, vs, rfl, _⟩ := t; rfl
    | lst ds => obtain ⟨a, vs, rfl, _⟩ := t; rfl
    | dct _ _ => exact t.elim
    | ins c ds => obtain ⟨a, _, _, _, rfl, _⟩ := t; rfl
    | fn f => rw [show v = V.ref (P.L.fn f) from t]; rfl
    | scr ns => obtain ⟨a, rfl, _⟩ := t; rfl
  · cases o with
    | lst xs => cases q; rfl
    | ins c fs => cases q; rfl
theorem cmp_core (hK : X.K = P.L.K) {op : CmpOp} {H : Hp} {env : Env} {σ : L2.St} {F : Hp} {o1 o2 : Op} {v1 v2 : V} {R : Bool → Prop} {Q : VK} (ex : EX P σ H env F) (p1 : OpR P F σ v1 o1) (p2 : OpR P F σ v2 o2) (w : cmpW op (res env o1) (res env o2) R)
    (k : ∀ b, R b → Q (.bl b) H) : rCmp X.K op v1 v2 H Q := by
  generalize q1 : res env o1 = d1 at w
  generalize q2 : res env o2 = d2 at w
  unfold cmpW at w
  split at w
  · exact ⟨_, _, (ex.res p1 q1).int, (ex.res p2 q2).int, k _ w⟩
  · exact ⟨_, _, (ex.res p1 q1).int, (ex.res p2 q2).int, k _ w⟩
  · exact ⟨_, _, (ex.res p1 q1).int, (ex.res p2 q2).int, k _ w⟩
  · exact ⟨_, _, (ex.res p1 q1).int, (ex.res p2 q2).int, k _ w⟩
  · rw [(ex.res p1 q1).int, (ex.res p2 q2).int]
    exact .inl ⟨rfl, by rw [dec_int, Bool.beq_eq_decide_eq]; exact k _ w⟩
  · rw [(ex.res p1 q1).int, (ex.res p2 q2).int]
    exact .inl ⟨rfl, by rw [dec_int, Bool.beq_eq_decide_eq]; exact k _ w⟩
  · rw [(ex.res p1 q1).str.1, (ex.res p2 q2).str.1]
    exact .inl ⟨rfl, by rw [dec_str, Bool.beq_eq_decide_eq]; exact k _ w⟩
  · rw [(ex.res p1 q1).str.1, (ex.res p2 q2).str.1]
    exact .inl ⟨rfl, by rw [dec_str, Bool.beq_eq_decide_eq]; exact k _ w⟩
  · exact ⟨(ex.res p2 q2).non, by rw [is_non (ex.res p1 q1)]; exact k _ w⟩
  · exact ⟨(ex.res p2 q2).non, by rw [is_non (ex.res p1 q1)]; exact k _ w⟩
  · obtain ⟨⟨a1, a2⟩, ⟨b1, b2⟩, w⟩ := w
    exact .inr ⟨_, _, by rw [hK]; exact rep_dp _ _ a1 ((ex.res p1 q1).now ex.sub), by rw [hK]; exact rep_dp _ _ b1 ((ex.res p2 q2).now ex.sub), a2, b2, k _ w⟩
  · obtain ⟨⟨a1, a2⟩, ⟨b1, b2⟩, w⟩ := w
    exact .inr ⟨_, _, by rw [hK]; exact rep_dp _ _ a1 ((ex.res p1 q1).now ex.sub), by rw [hK]; exact rep_dp _ _ b1 ((ex.res p2 q2).now ex.sub), a2, b2, k _ w⟩
  · exact w.elim
theorem e_cmp {op : CmpOp} (hK : X.K = P.L.K) (hu : X.A.units + 64 < cLine) (ha : PE X x (tO P Γ Xp a)) (hb : PE X y (tO P Γ Xp b)) (hm : behindInMarks op y = false) : PE X (.Compare x [op] [y] pos) (tE P Γ Xp (.cmp op a b)) :=
  pe_imp (pe_cmpR (op_cmp hu op) ha hb hm) fun σ H Q h => by
  obtain ⟨env, F, R, ex, w, k⟩ := h
  simp only [wE] at w
  refine ⟨env, F, _, ex, w, fun o1 env1 v1 H1 F1 w1 m1 e1 p1 => ⟨env1, F1, _, e1, w1, fun o2 env2 v2 H2 F2 w2 m2 e2 p2 => ?_⟩⟩
  exact cmp_core hK e2 (p1.mono m2) p2 w2 fun b hb => k _ _ _ H2 F2 hb (m1.trans m2) (e2.pure rfl)
theorem t_cmp {op : CmpOp} (hK : X.K = P.L.K) (hu : X.A.units + 64 < cLine) (ha : PE X x (tO P Γ Xp a)) (hb : PE X y (tO P Γ Xp b)) (hm : behindInMarks op y = false) : PT X (.Compare x [op] [y] pos) (tT P Γ Xp (.cmp op a b)) :=
  pt_imp (pt_cmpR (op_cmp hu op) ha hb hm) fun σ H Q h => by
  obtain ⟨env, F, R, ex, w, k⟩ := h
  simp only [wT] at w
  refine ⟨env, F, _, ex, w, fun o1 env1 v1 H1 F1 w1 m1 e1 p1 => ⟨env1, F1, _, e1, w1, fun o2 env2 v2 H2 F2 w2 m2 e2 p2 => ?_⟩⟩
  exact cmp_core hK e2 (p1.mono m2) p2 w2 fun b hb => ⟨b, rfl, k _ _ H2 F2 hb (m1.trans m2) e2⟩
theorem chn_core {o1 o2 : CmpOp} {R : Bool → Env → Prop} (hK : X.K = P.L.K) {σ : L2.St} {H : Hp} {Q : VK} {env : Env} {F : Hp} (ex : EX P σ H env F)
    (w : opd a (wE Γ a) env Xp fun x env1 => opd b (wE Γ b) env1 Xp fun y env2 => cmpW o1 (res env2 x) (res env2 y) fun r =>
      if r = true then opd c (wE Γ c) env2 Xp fun z env3 => cmpW o2 (res env3 y) (res env3 z) fun r' => R r' env3 else R false env2)
    (k : ∀ r env' H' F', R r env' → LeH F F' → EX P σ H' env' F' → Q (.bl r) H') : tChain (rCmp X.K o1) (rCmp X.K o2) (tO P Γ Xp a) (tO P Γ Xp b) (tO P Γ Xp c) σ H Q := by
  refine ⟨env, F, _, ex, w, fun o1 env1 v1 H1 F1 w1 m1 e1 p1 => ⟨env1, F1, _, e1, w1, fun o2 env2 v2 H2 F2 w2 m2 e2 p2 => ?_⟩⟩
  refine cmp_core hK e2 (p1.mono m2) p2 w2 fun b hb => ⟨b, rfl, ?_⟩
  cases b with
  | false =>
    rw [if_neg (by decide)] at hb ⊢
    exact k _ _ H2 F2 hb (m1.trans m2) e2
  | true =>
    rw [if_pos rfl] at hb ⊢
    refine ⟨env2, F2, _, e2, hb, fun o3 env3 v3 H3 F3 w3 m3 e3 p3 => ?_⟩
    exact cmp_core hK e3 (p2.mono m3) p3 w3 fun b hb => k _ _ H3 F3 hb ((m1.trans m2).trans m3) e3
theorem e_chn {o1 o2 : CmpOp} (hK : X.K = P.L.K) (hu : X.A.units + 64 < cLine) (ha : PE X x (tO P Γ Xp a)) (hb : PE X y (tO P Γ Xp b)) (hc : PE X z (tO P Γ Xp c)) (hm : lastMarks [o1, o2] [y, z] = false) :
    PE X (.Compare x [o1, o2] [y, z] pos) (tE P Γ Xp (.chn o1 o2 a b c)) := pe_imp (pe_chain (op_cmp hu o1) (op_cmp hu o2) ha hb hc hm) fun σ H Q h => by
  obtain ⟨env, F, R, ex, w, k⟩ := h
  simp only [wE] at w
  exact chn_core (R := fun b e => R (.val (.bl b)) e) hK ex w fun r env' H' F' q m e => k _ _ _ H' F' q m (e.pure rfl)
theorem t_chn {o1 o2 : CmpOp} (hK : X.K = P.L.K) (hu : X.A.units + 64 < cLine) (ha : PE X x (tO P Γ Xp a)) (hb : PE X y (tO P Γ Xp b)) (hc : PE X z (tO P Γ Xp c)) (hm : lastMarks [o1, o2] [y, z] = false) :
    PT X (.Compare x [o1, o2] [y, z] pos) (tT P Γ Xp (.chn o1 o2 a b c)) := pt_imp (pt_chain (op_cmp hu o1) (op_cmp hu o2) ha hb hc hm) fun σ H Q h => by
  obtain ⟨env, F, R, ex, w, k⟩ := h
  simp only [wT] at w
  exact chn_core (R := R) hK ex w fun r env' H' F' q m e => ⟨r, rfl, k _ _ H' F' q m e⟩

/-! ### and, or, not, if -/
variable {ta tb tc : T} {rest : List Expr}
theorem e_not (ha : PE X x (tE P Γ Xp a)) : PE X (.UnaryOp .Not x pos) (tE P Γ Xp (.not a)) := pe_imp (pe_not ha) fun σ H Q h => by
  obtain ⟨env, F, R, ex, w, k⟩ := h
  simp only [wE] at w
  refine ⟨env, F, _, ex, w, fun r env1 v1 H1 F1 w1 m1 e1 => ?_⟩
  obtain ⟨b, rfl, w1⟩ := w1
  obtain ⟨A, e1, q⟩ := e1
  exact ⟨b, q, k _ _ _ H1 F1 w1 m1 ⟨A, e1, rfl⟩⟩
theorem and_core {e : Expr} (h : PE X e (tAndV (tE P Γ Xp a) (tE P Γ Xp b))) : PE X e (tE P Γ Xp (.and a b)) := pe_imp h fun σ H Q h => by
  obtain ⟨env, F, R, ex, w, k⟩ := h
  simp only [wE] at w
  refine ⟨env, F, _, ex, w, fun r env1 v1 H1 F1 w1 m1 e1 => ?_⟩
  obtain ⟨c, rfl, w1⟩ := w1
  obtain ⟨A, e1, q⟩ := e1
  refine ⟨c, q, ?_⟩
  cases c with
  | true => exact ⟨env1, F1, _, ⟨A, e1⟩, w1, fun r env2 v2 H2 F2 w2 m2 e2 => k _ _ _ H2 F2 w2 (m1.trans m2) e2⟩
  | false => exact k _ _ _ H1 F1 w1 m1 ⟨A, e1, rfl⟩
theorem or_core {e : Expr} (h : PE X e (tOrV (tE P Γ Xp a) (tE P Γ Xp b))) : PE X e (tE P Γ Xp (.or a b)) := pe_imp h fun σ H Q h => by
  obtain ⟨env, F, R, ex, w, k⟩ := h
  simp only [wE] at w
  refine ⟨env, F, _, ex, w, fun r env1 v1 H1 F1 w1 m1 e1 => ?_⟩
  obtain ⟨c, rfl, w1⟩ := w1
  obtain ⟨A, e1, q⟩ := e1
  refine ⟨c, q, ?_⟩
  cases c with
  | false => exact ⟨env1, F1, _, ⟨A, e1⟩, w1, fun r env2 v2 H2 F2 w2 m2 e2 => k _ _ _ H2 F2 w2 (m1.trans m2) e2⟩
  | true => exact k _ _ _ H1 F1 w1 m1 ⟨A, e1, rfl⟩
theorem t_not (ha : PT X x (tT P Γ Xp ta)) : PT X (.UnaryOp .Not x pos) (tT P Γ Xp (.not ta)) := pt_imp (pt_not ha) fun σ H Q h => by
  obtain ⟨env, F, R, ex, w, k⟩ := h
  simp only [wT] at w
  exact ⟨env, F, _, ex, w, fun b env1 H1 F1 w1 m1 e1 => k _ _ H1 F1 w1 m1 e1⟩
theorem tand_core {σ : L2.St} {H : Hp} {Q : Bool → Hp → Prop} (h : tT P Γ Xp (.and ta tb) σ H Q) : tAnd (tT P Γ Xp ta) (tT P Γ Xp tb) σ H Q := by
  obtain ⟨env, F, R, ex, w, k⟩ := h
  simp only [wT] at w
  refine ⟨env, F, _, ex, w, fun c env1 H1 F1 w1 m1 e1 => ?_⟩
  cases c with
  | true => exact ⟨env1, F1, _, e1, w1, fun r env2 H2 F2 w2 m2 e2 => k _ _ H2 F2 w2 (m1.trans m2) e2⟩
  | false => exact k _ _ H1 F1 w1 m1 e1
theorem tor_core {σ : L2.St} {H : Hp} {Q : Bool → Hp → Prop} (h : tT P Γ Xp (.or ta tb) σ H Q) : tOr (tT P Γ Xp ta) (tT P Γ Xp tb) σ H Q := by
  obtain ⟨env, F, R, ex, w, k⟩ := h
  simp only [wT] at w
  refine ⟨env, F, _, ex, w, fun c env1 H1 F1 w1 m1 e1 => ?_⟩
  cases c with
  | false => exact ⟨env1, F1, _, e1, w1, fun r env2 H2 F2 w2 m2 e2 => k _ _ H2 F2 w2 (m1.trans m2) e2⟩
  | true => exact k _ _ H1 F1 w1 m1 e1
theorem e_ite (hc : PT X z (tT P Γ Xp tc)) (ha : PE X x (tE P Γ Xp a)) (hb : PE X y (tE P Γ Xp b)) : PE X (.IfExp z x y pos) (tE P Γ Xp (.ite tc a b)) := pe_imp (pe_ifExp hc ha hb) fun σ H Q h => by
  obtain ⟨env, F, R, ex, w, k⟩ := h
  simp only [wE] at w
  refine ⟨env, F, _, ex, w, fun c env1 H1 F1 w1 m1 e1 => ?_⟩
  cases c with
  | true => exact ⟨env1, F1, _, e1, w1, fun r env2 v H2 F2 w2 m2 e2 => k _ _ _ H2 F2 w2 (m1.trans m2) e2⟩
  | false => exact ⟨env1, F1, _, e1, w1, fun r env2 v H2 F2 w2 m2 e2 => k _ _ _ H2 F2 w2 (m1.trans m2) e2⟩
/-- a value as a test -/
theorem tru_top {H F : Hp} (hK : X.K = P.L.K) (m : LeH F H) {d : D} {v : V} {b : Bool} (t : Top P F H d v) (q : truth d = some b) : TruV X.K v H b := by
  have n := t.now m
  cases d with
  | non => cases q; rw [show v = V.non from n]; exact rfl
  | bl c => cases q; rw [show v = V.bl _ from n]; exact rfl
  | int i => cases q; rw [show v = V.int _ from n]; exact rfl
  | str s =>
    cases q
    rw [show v = V.str _ from n.1]
    refine ⟨by rw [← line_eq]; exact n.2, ?_⟩
    rw [Bool.eq_iff_iff]
    simp
  | tup ds =>
    cases q
    obtain ⟨a, vs, rfl, s, r⟩ := n
    refine .inr (.inl ⟨vs, by rw [hK]; exact s, ?_⟩)
    have := r.length
    cases ds <;> cases vs <;> first | rfl | (simp at this)
  | lst ds =>
    cases q
    obtain ⟨a, vs, rfl, s, r⟩ := n
    refine .inl ⟨vs, .inl (.inl s), ?_⟩
    have := r.length
    cases ds <;> cases vs <;> first | rfl | (simp at this)
  | dct _ _ => exact n.elim
  | ins _ _ => cases q
  | fn _ => cases q
  | scr _ => cases q
theorem t_tv (hK : X.K = P.L.K) (ha : PE X x (tO P Γ Xp a)) (he : ∀ whole, isTrue x X.env whole = (do let v ← whole; standAt x.pos; holding [v] (truthy v))) : PT X x (tT P Γ Xp (.tv a)) := pt_imp (pt_truth ha he) fun σ H Q h => by
  obtain ⟨env, F, R, ex, w, k⟩ := h
  simp only [wT] at w
  refine ⟨env, F, _, ex, w, fun o env1 v1 H1 F1 w1 m1 e1 p1 => ?_⟩
  obtain ⟨d, b, q1, q2, w1⟩ := w1
  exact ⟨b, tru_top hK e1.sub (e1.res p1 q1) q2, k _ _ H1 F1 w1 m1 e1⟩
/-! ### arguments, displays -/
theorem os_nil : PA X [] (tOs P Γ Xp []) := pa_imp pa_nil fun σ H Q h => by
  obtain ⟨env, F, R, ex, w, k⟩ := h
  simp only [wOs] at w
  exact k _ _ _ H F w (LeH.refl F) ex .nil rfl
theorem os_cons {es : List Expr} {ms : List E} (ha : PE X x (tO P Γ Xp a)) (hr : PA X es (tOs P Γ Xp ms)) (hs : starEach (x :: es) X.env = (false, eval x X.env) :: starEach es X.env) : PA X (x :: es) (tOs P Γ Xp (a :: ms)) := pa_imp (pa_cons ha hr hs) fun σ H Q h => by
  obtain ⟨env, F, R, ex, w, k⟩ := h
  simp only [wOs] at w
  refine ⟨env, F, _, ex, w, fun o env1 v1 H1 F1 w1 m1 e1 p1 => ⟨env1, F1, _, e1, w1, fun os env2 vs H2 F2 w2 m2 e2 p2 l2 => ?_⟩⟩
  exact k _ _ _ H2 F2 w2 (m1.trans m2) e2 (.cons (p1.mono m2) p2) (by rw [List.length_cons, List.length_cons, l2])
theorem datas_reps {F : Hp} {σ : L2.St} : ∀ {vs : List V} {os : List Op} {ds : List D}, OpRs P F σ vs os → datas os = some ds → Reps P.L F ds vs
  | _, _, ds, .nil, q => by
    cases q
    rfl
  | _, _, ds, .cons (b := o) (l₂ := os) h t, q => by
    cases o with
    | slot i => cases q
    | d d' =>
      cases e : datas os with
      | none => simp [datas, e] at q
      | some es =>
        simp only [datas, e, Option.map_some, Option.some.injEq] at q
        subst q
        exact ⟨_, _, rfl, h, datas_reps t e⟩
theorem datas_len : ∀ {os : List Op} {ds : List D}, datas os = some ds → ds.length = os.length
  | [], _, q => by cases q; rfl
  | .slot _ :: _, _, q => by cases q
  | .d d :: os, _, q => by
    cases e : datas os with
    | none => simp [datas, e] at q
    | some es =>
      simp only [datas, e, Option.map_some, Option.some.injEq] at q
      subst q
      rw [List.length_cons, List.length_cons, datas_len e]
theorem e_tup {es : List Expr} {ms : List E} {kk : Nat} (ha : PA X es (tOs P Γ Xp ms)) (hl : ms.length ≤ 1000) : PE X (.Tuple es kk pos) (tE P Γ Xp (.tup ms)) := pe_imp (pe_tup ha) fun σ H Q h => by
  obtain ⟨env, F, R, ex, w, k⟩ := h
  simp only [wE] at w
  refine ⟨env, F, _, ex, w, fun os env1 vs H1 F1 w1 m1 e1 p1 l1 => ?_⟩
  obtain ⟨ds, q, w1⟩ := w1
  exact ⟨by rw [l1, sizeLine_eq]; omega, fun p hp => tup_post e1 (fun r v H' F' hr m e => k r env1 v H' F' hr (m1.trans m) e) w1 hp (datas_reps p1 q)⟩
theorem e_lst {es : List Expr} {ms : List E} (ha : PA X es (tOs P Γ Xp ms)) (hl : ms.length ≤ 1000) : PE X (.List es pos) (tE P Γ Xp (.lst ms)) := pe_imp (pe_lst ha) fun σ H Q h => by
  obtain ⟨env, F, R, ex, w, k⟩ := h
  simp only [wE] at w
  refine ⟨env, F, _, ex, w, fun os env1 vs H1 F1 w1 m1 e1 p1 l1 => ?_⟩
  obtain ⟨ds, q, w1⟩ := w1
  exact ⟨by rw [l1, sizeLine_eq]; omega, fun p hp => lst_post e1 (fun r v H' F' hr m e => k r env1 v H' F' hr (m1.trans m) e) w1 hp (datas_reps p1 q)⟩

/-! ### items -/
theorem IxR2.or {r r' : R2} (h : IxR X r) (h' : IxR X r') : IxR X (fun x y H Q => r x y H Q ∨ r' x y H Q) := by
  intro value slice pins s σ H x y v u Q I rx ry q
  rcases q with q | q
  · exact h value slice pins s σ H x y v u Q I rx ry q
  · exact h' value slice pins s σ H x y v u Q I rx ry q
theorem atI_map {α β : Type} {f : α → β} {xs : List α} {i : Int} : atI (xs.map f) i = (atI xs i).map f := by
  unfold atI
  rw [List.length_map]
  cases ixN xs.length i with
  | none => rfl
  | some j => simp
theorem Reps.atI {L : Lay} {F : Hp} {ds : List D} {vs : List V} (r : Reps L F ds vs) {i : Int} {d : D} (h : atI ds i = some d) : ∃ v, L2.atI vs i = some v ∧ Rep L F d v := by
  unfold L2.atI at h ⊢
  rw [r.length]
  cases e : ixN ds.length i with
  | none => rw [e] at h; cases h
  | some j =>
    rw [e] at h
    exact r.get h
theorem sign_len : (1 : Nat) ≤ line := by decide
theorem e_sub (hK : X.K = P.L.K) (ha : PE X x (tO P Γ Xp a)) (hb : PE X y (tO P Γ Xp b)) (hs : PlainIx y) : PE X (.Subscript x y pos) (tE P Γ Xp (.sub a b)) :=
  pe_imp (pe_ix (IxR2.or ix_list (IxR2.or ix_tup ix_str)) ha hb hs) fun σ H Q h => by
  obtain ⟨env, F, R, ex, w, k⟩ := h
  simp only [wE] at w
  refine ⟨env, F, _, ex, w, fun o1 env1 v1 H1 F1 w1 m1 e1 p1 => ⟨env1, F1, _, e1, w1, fun o2 env2 v2 H2 F2 w2 m2 e2 p2 => ?_⟩⟩
  obtain ⟨dx, dy, r, q1, q2, q3, w2⟩ := w2
  have t1 := e2.res (p1.mono m2) q1
  have t2 := e2.res p2 q2
  unfold atD at q3
  split at q3
  · obtain ⟨a1, vs, rfl, h1, r1⟩ := t1.lst e2.sub
    obtain ⟨v, h2, h3⟩ := r1.atI q3
    exact .inl ⟨_, _, _, _, rfl, t2.int, .inl (.inl h1), h2, k _ _ _ H2 F2 w2 (m1.trans m2) (e2.pure h3)⟩
  · obtain ⟨a1, vs, rfl, h1, r1⟩ := t1.tup e2.sub
    obtain ⟨v, h2, h3⟩ := r1.atI q3
    exact .inr (.inl ⟨_, _, _, _, rfl, t2.int, by rw [hK]; exact h1, h2, k _ _ _ H2 F2 w2 (m1.trans m2) (e2.pure h3)⟩)
  · obtain ⟨a1, rfl, h1⟩ := t1.scr e2.sub
    obtain ⟨n, e, rfl⟩ := Option.map_eq_some_iff.mp q3
    · exact .inl ⟨_, _, _, _, rfl, t2.int, by rw [hK]; exact h1, by rw [atI_map, e]; rfl, k _ _ _ H2 F2 w2 (m1.trans m2) (e2.pure rfl)⟩
  · obtain ⟨n, e, rfl⟩ := Option.map_eq_some_iff.mp q3
    · exact .inr (.inr ⟨_, _, _, t1.str.1, t2.int, by rw [← line_eq]; exact t1.str.2, e, k _ _ _ H2 F2 w2 (m1.trans m2) (e2.pure ⟨rfl, sign_len⟩)⟩)
  · cases q3
end
end G
/-! A3: built-in functions. -/
namespace G
open PySem PySem.Spec L2
section
variable {X : Cx} {P : PP} {Γ : Fns} {Xp : XP} {pos : Pos} {x y z : Expr} {a b c : E}
theorem CallR2.or {f : Value} {r r' : List V → Hp → VK → Prop} (h : CallR X f r) (h' : CallR X f r') : CallR X f (fun xs H Q => r xs H Q ∨ r' xs H Q) := by
  intro pins s σ H xs us Q I rv q
  rcases q with q | q
  · exact h pins s σ H xs us Q I rv q
  · exact h' pins s σ H xs us Q I rv q
/-- repr of plain data -/
def rRepr (K : PySem.W.Frag) : List V → Hp → VK → Prop := fun xs H Q => ∃ x d, xs = [x] ∧ Dp K H x d ∧ d.hasDict = false ∧ d.showable = true ∧ d.depth ≤ 60 ∧ d.shown.length ≤ sizeLine ∧ Q (.str d.shown) H
theorem call_reprD (hg : X.A.guards = some []) (hu : X.A.units + 64 < cLine) : CallR X (.builtin "repr") (rRepr X.K) := by
  intro pins s σ H xs us Q I r h
  obtain ⟨x, d, rfl, hd, hdict, hs, hdep, hlen, q⟩ := h
  obtain ⟨u, rfl, ru⟩ := vals1 r
  obtain ⟨as, rd⟩ := Dp.reads I d x u hd ru
  cases hd with
  | non => cases ru; exact PySem.P.repr_of_none ⟨.str _, H, I.tok _, ⟨_, rfl⟩, q⟩
  | bl b => cases ru; exact PySem.P.repr_of_bool ⟨.str _, H, I.tok _, ⟨_, rfl⟩, q⟩
  | int i =>
    obtain ⟨t, rfl⟩ := ru
    exact PySem.P.repr_of_int (by simpa [PyData.showable] using hs) ⟨.str _, H, I.tok _, ⟨_, rfl⟩, q⟩
  | str s' =>
    obtain ⟨t, rfl⟩ := ru
    exact PySem.P.repr_of_str ⟨.str _, H, I.tok _, ⟨_, rfl⟩, q⟩ hlen
  | lst h1 h2 =>
    cases ru
    exact PySem.repr_of_reads' rd hs (PyData.noDict_hsm hdict) hg (by omega) (fun _ _ e => e) (fun h' u tk kp => ⟨.str _, H, I.kept kp, ⟨_, rfl⟩, q⟩) hlen
  | tup h1 h2 =>
    cases ru
    exact PySem.repr_of_reads' rd hs (PyData.noDict_hsm hdict) hg (by omega) (fun _ _ e => e) (fun h' u tk kp => ⟨.str _, H, I.kept kp, ⟨_, rfl⟩, q⟩) hlen
mutual
theorem plain_noDict : ∀ d : D, plain d = true → (toPy d).hasDict = false
  | .non, _ => by simp [toPy, PyData.hasDict]
  | .bl _, _ => by simp [toPy, PyData.hasDict]
  | .int _, _ => by simp [toPy, PyData.hasDict]
  | .str _, _ => by simp [toPy, PyData.hasDict]
  | .tup ds, p => by
    simp only [toPy, PyData.hasDict]
    exact plains_noDict ds (by simpa [plain] using p)
  | .lst ds, p => by
    simp only [toPy, PyData.hasDict]
    exact plains_noDict ds (by simpa [plain] using p)
  | .dct _ _, p => by simp [plain] at p
  | .ins _ _, p => by simp [plain] at p
  | .fn _, p => by simp [plain] at p
  | .scr _, p => by simp [plain] at p
theorem plains_noDict : ∀ ds : List D, plains ds = true → PyData.hasDictAll (toPys ds) = false
  | [], _ => by simp [toPys, PyData.hasDictAll]
  | d :: ds, p => by
    have p' : plain d = true ∧ plains ds = true := by simpa [plains] using p
    simp only [toPys, PyData.hasDictAll, plain_noDict d p'.1, plains_noDict ds p'.2, Bool.or_self]
end
theorem reps_ints {L : Lay} {F : Hp} : ∀ {ns : List Int} {vs : List V}, Reps L F (ns.map .int) vs → vs = ns.map V.int
  | [], _, h => h
  | n :: ns, _, ⟨v, r, e, h1, h2⟩ => by rw [e, show v = V.int n from h1, reps_ints h2]; rfl
theorem reps_bls {L : Lay} {F : Hp} : ∀ {ns : List Bool} {vs : List V}, Reps L F (ns.map .bl) vs → vs = ns.map V.bl
  | [], _, h => h
  | n :: ns, _, ⟨v, r, e, h1, h2⟩ => by rw [e, show v = V.bl n from h1, reps_bls h2]; rfl
/-- what a built-in function asks -/
def rBI (K : PySem.W.Frag) : BI → List V → Hp → VK → Prop
  | .len => fun xs H Q => ∃ x n, xs = [x] ∧ LenV K x H n ∧ Q (.int n) H
  | .max2 => fun xs H Q => ∃ i j, xs = [.int i, .int j] ∧ Q (.int (if j > i then j else i)) H
  | .min2 => fun xs H Q => ∃ i j, xs = [.int i, .int j] ∧ Q (.int (if j < i then j else i)) H
  | .repr => rRepr K
  | .max1 => rMax K
  | .min1 => rMin K
  | .sum => rSum K
  | .all => rAll K
  | .any => rAny K
  | .lst => fun xs H Q => ∃ p ys, xs = [.ref p] ∧ (SqL K H p ys ∨ SqT K H p ys) ∧ ∀ l, H l = none → Q (.ref l) (upd H l (.lst ys))
  | .tup => fun xs H Q => ∃ p ys, xs = [.ref p] ∧ ((SqL K H p ys ∧ ∀ l, H l = none → Q (.ref l) (upd H l (.tup ys))) ∨ (SqT K H p ys ∧ Q (.ref p) H))
  | .str => fun xs H Q => ∃ i, xs = [.int i] ∧ i.natAbs.log2 < 1920 ∧ Q (.str (toString i)) H
  | .int => fun xs H Q => (∃ i, xs = [.int i] ∧ Q (.int i) H) ∨ ∃ k, xs = [.bl k] ∧ Q (.int (if k then 1 else 0)) H
  | _ => fun _ _ _ => False
/-- the value that a built-in name has -/
def biV : BI → Option Value
  | .len => some (.builtin "len")
  | .max2 => some (.builtin "max")
  | .min2 => some (.builtin "min")
  | .max1 => some (.builtin "max")
  | .min1 => some (.builtin "min")
  | .sum => some (.builtin "sum")
  | .all => some (.builtin "all")
  | .any => some (.builtin "any")
  | .repr => some (.builtin "repr")
  | .lst => some (.type "list")
  | .tup => some (.type "tuple")
  | .str => some (.type "str")
  | .int => some (.type "int")
  | _ => none
theorem call_bi (hc : X.calm = true) (hg : X.A.guards = some []) (hu : X.A.units + 64 < cLine) : ∀ (b : BI) (u : Value), biV b = some u → CallR X u (rBI X.K b) := by
  intro b u e
  cases b <;> first
    | (cases e; first
      | exact call_len
      | exact call_max2 hc
      | exact call_min2 hc
      | exact cr_max hc
      | exact cr_min hc
      | exact cr_sum hc
      | exact cr_all hc
      | exact cr_any hc
      | exact call_reprD hg hu
      | exact call_list_of
      | exact call_tuple_of
      | exact call_str_int
      | exact call_int1)
    | cases e
theorem opRs_one {σ : L2.St} {F : Hp} {vs : List V} {os : List Op} {env : Env} {o : Option D} (p : OpRs P F σ vs os) (q : os.map (res env) = [o]) : ∃ v p', vs = [v] ∧ os = [p'] ∧ OpR P F σ v p' ∧ res env p' = o := by
  cases p with
  | nil => cases q
  | cons h t => cases t with
    | nil => simp at q; exact ⟨_, _, rfl, rfl, h, q⟩
    | cons _ _ => simp at q
theorem opRs_two {σ : L2.St} {F : Hp} {vs : List V} {os : List Op} {env : Env} {o o' : Option D} (p : OpRs P F σ vs os) (q : os.map (res env) = [o, o']) : ∃ v v' p' p'', vs = [v, v'] ∧ OpR P F σ v p' ∧ res env p' = o ∧ OpR P F σ v' p'' ∧ res env p'' = o' := by
  cases p with
  | nil => cases q
  | cons h t => cases t with
    | nil => simp at q
    | cons h' t => cases t with
      | nil => simp at q; exact ⟨_, _, _, _, rfl, h, q.1, h', q.2⟩
      | cons _ _ => simp at q
theorem bi_core (hK : X.K = P.L.K) {b : BI} {σ : L2.St} {H : Hp} {env : Env} {F : Hp} {os : List Op} {vs : List V} {R : RV → Prop} {Q : VK} (ex : EX P σ H env F) (p : OpRs P F σ vs os) (w : biW b (os.map (res env)) R)
    (k : ∀ r v H' F', R r → LeH F F' → EXv P σ H' env F' v r → Q v H') : rBI X.K b vs H Q := by
  generalize q : os.map (res env) = ds at w
  unfold biW at w
  split at w
  case h_1 =>
    obtain ⟨v, o, rfl, rfl, h, e⟩ := opRs_one p q
    obtain ⟨a, vs, rfl, h1, r1⟩ := (ex.res h e).lst ex.sub
    exact ⟨_, _, rfl, .inl ⟨vs, .inl (.inl h1), rfl⟩, by rw [r1.length]; exact int_post ex k w⟩
  case h_2 =>
    obtain ⟨v, o, rfl, rfl, h, e⟩ := opRs_one p q
    obtain ⟨a, vs, rfl, h1, r1⟩ := (ex.res h e).tup ex.sub
    exact ⟨_, _, rfl, .inr ⟨vs, by rw [hK]; exact h1, rfl⟩, by rw [r1.length]; exact int_post ex k w⟩
  case h_3 =>
    obtain ⟨v, o, rfl, rfl, h, e⟩ := opRs_one p q
    obtain ⟨rfl, h1⟩ := (ex.res h e).str
    exact ⟨_, _, rfl, ⟨by rw [← line_eq]; exact h1, rfl⟩, int_post ex k w⟩
  case h_4 =>
    obtain ⟨v, o, rfl, rfl, h, e⟩ := opRs_one p q
    obtain ⟨a, rfl, h1⟩ := (ex.res h e).scr ex.sub
    exact ⟨_, _, rfl, .inl ⟨_, by rw [hK]; exact h1, rfl⟩, by rw [List.length_map]; exact int_post ex k w⟩
  case h_5 =>
    obtain ⟨v, v', o, o', rfl, h, e, h', e'⟩ := opRs_two p q
    exact ⟨_, _, by rw [(ex.res h e).int, (ex.res h' e').int], int_post ex k w⟩
  case h_6 =>
    obtain ⟨v, v', o, o', rfl, h, e, h', e'⟩ := opRs_two p q
    exact ⟨_, _, by rw [(ex.res h e).int, (ex.res h' e').int], int_post ex k w⟩
  case h_7 =>
    obtain ⟨v, o, rfl, rfl, h, e⟩ := opRs_one p q
    obtain ⟨w1, w2, w3, w4, w5⟩ := w
    exact ⟨_, _, rfl, by rw [hK]; exact rep_dp _ _ w1 ((ex.res h e).now ex.sub), plain_noDict _ w1, w2, w3, by rw [← line_eq]; exact w4, k _ _ H F w5 (LeH.refl F) (ex.pure ⟨rfl, w4⟩)⟩
  case h_8 =>
    obtain ⟨v, o, rfl, rfl, h, e⟩ := opRs_one p q
    obtain ⟨ns, rfl, hne, w⟩ := w
    obtain ⟨a, vs, rfl, h1, r1⟩ := (ex.res h e).lst ex.sub
    rw [reps_ints r1] at h1
    exact ⟨_, ns, rfl, .inl (.inl h1), by cases ns <;> simp at hne ⊢, fun m h1 h2 => int_post ex k (w m h1 h2)⟩
  case h_9 =>
    obtain ⟨v, o, rfl, rfl, h, e⟩ := opRs_one p q
    obtain ⟨ns, rfl, hne, w⟩ := w
    obtain ⟨a, vs, rfl, h1, r1⟩ := (ex.res h e).lst ex.sub
    rw [reps_ints r1] at h1
    exact ⟨_, ns, rfl, .inl (.inl h1), by cases ns <;> simp at hne ⊢, fun m h1 h2 => int_post ex k (w m h1 h2)⟩
  case h_10 =>
    obtain ⟨v, o, rfl, rfl, h, e⟩ := opRs_one p q
    obtain ⟨ns, rfl, w⟩ := w
    obtain ⟨a, vs, rfl, h1, r1⟩ := (ex.res h e).lst ex.sub
    rw [reps_ints r1] at h1
    exact ⟨_, ns, rfl, .inl (.inl h1), int_post ex k w⟩
  case h_11 =>
    obtain ⟨v, o, rfl, rfl, h, e⟩ := opRs_one p q
    obtain ⟨ns, rfl, w⟩ := w
    obtain ⟨a, vs, rfl, h1, r1⟩ := (ex.res h e).lst ex.sub
    rw [reps_bls r1] at h1
    exact ⟨_, ns, rfl, .inl (.inl h1), bl_post ex k w⟩
  case h_12 =>
    obtain ⟨v, o, rfl, rfl, h, e⟩ := opRs_one p q
    obtain ⟨ns, rfl, w⟩ := w
    obtain ⟨a, vs, rfl, h1, r1⟩ := (ex.res h e).lst ex.sub
    rw [reps_bls r1] at h1
    exact ⟨_, ns, rfl, .inl (.inl h1), bl_post ex k w⟩
  case h_13 =>
    obtain ⟨v, o, rfl, rfl, h, e⟩ := opRs_one p q
    obtain ⟨a, vs, rfl, h1, r1⟩ := (ex.res h e).lst ex.sub
    exact ⟨_, vs, rfl, .inl (.inl (.inl h1)), fun l hl => lst_post ex k w hl r1⟩
  case h_14 =>
    obtain ⟨v, o, rfl, rfl, h, e⟩ := opRs_one p q
    obtain ⟨a, vs, rfl, h1, r1⟩ := (ex.res h e).tup ex.sub
    exact ⟨_, vs, rfl, .inr (by rw [hK]; exact h1), fun l hl => lst_post ex k w hl r1⟩
  case h_15 =>
    obtain ⟨v, o, rfl, rfl, h, e⟩ := opRs_one p q
    obtain ⟨a, vs, rfl, h1, r1⟩ := (ex.res h e).lst ex.sub
    exact ⟨_, vs, rfl, .inl ⟨.inl (.inl h1), fun l hl => tup_post ex k w hl r1⟩⟩
  case h_16 =>
    obtain ⟨v, o, rfl, rfl, h, e⟩ := opRs_one p q
    have t := (ex.res h e).rtup
    obtain ⟨a, vs, rfl, h1, r1⟩ := id t
    exact ⟨_, vs, rfl, .inr ⟨by rw [hK]; exact sqT_mono ex.sub h1, k _ _ H F w (LeH.refl F) (ex.pure t)⟩⟩
  case h_17 =>
    obtain ⟨v, o, rfl, rfl, h, e⟩ := opRs_one p q
    obtain ⟨w1, w2, w3⟩ := w
    exact ⟨_, by rw [(ex.res h e).int], w1, k _ _ H F w3 (LeH.refl F) (ex.pure ⟨rfl, w2⟩)⟩
  case h_18 =>
    obtain ⟨v, o, rfl, rfl, h, e⟩ := opRs_one p q
    exact .inl ⟨_, by rw [(ex.res h e).int], int_post ex k w⟩
  case h_19 =>
    obtain ⟨v, o, rfl, rfl, h, e⟩ := opRs_one p q
    exact .inr ⟨_, by rw [(ex.res h e).bl], int_post ex k w⟩
  case h_20 => exact w.elim
/-- f(..), f a built-in function or type -/
theorem e_bi {b : BI} {u : Value} {n : Str} {es : List Expr} {ms : List E} {p : Pos} (hK : X.K = P.L.K) (hc : X.calm = true) (hgd : X.A.guards = some []) (hu : X.A.units + 64 < cLine) (hb : biV b = some u) (hv : bootBuiltins n = some u) (hg : Gl X n) (hm : X.mg n = none)
    (ha : PA X (x :: es) (tOs P Γ Xp ms)) (hn : n ≠ "__name__") (hdb : (n == ("__debug__" : Str)) = false) (he : starEach (x :: es) X.env = (false, eval x X.env) :: starEach es X.env) (hpl : (backTo pos (starEach es X.env)).any (·.1) = false) :
    PE X (.Call (.Name n p) (x :: es) [] pos) (tE P Γ Xp (.bi b ms)) := by
  have cr := call_bi hc hgd hu b u hb
  have imp : ∀ σ H Q, tE P Γ Xp (.bi b ms) σ H Q → tCB (rBI X.K b) (tOs P Γ Xp ms) σ H Q := fun σ H Q h => by
    obtain ⟨env, F, R, ex, w, k⟩ := h
    simp only [wE] at w
    refine ⟨env, F, _, ex, w, fun os env1 vs H1 F1 w1 m1 e1 p1 l1 => ?_⟩
    exact bi_core hK e1 p1 w1 fun r v H' F' hr m e => k r env1 v H' F' hr (m1.trans m) e
  cases b <;> first
    | (cases hb; exact pe_imp (pe_callB cr hg hm hv ha hn hdb he hpl) imp)
    | (cases hb; exact pe_imp (pe_callTy cr hg hm hv ha hn hdb he hpl) imp)
    | cases hb
end
end G
/-! A4: what a def keeps, and its call. -/
namespace G
open PySem PySem.Spec L2

/-- how an exception lies (classes without fields; with fields in a dict of its own) -/
def ExR (L : Lay) (F H : Hp) (cls : Value) (d : Option Addr) (x : Exn) : Prop :=
  cls = .ref (L.xc x.c) ∧ ((x.fs = [] ∧ d = none) ∨ ∃ dx fvs vs, d = some dx ∧ H dx = some (.xd fvs) ∧ F dx = none ∧ fvs = (L.at_ (1000 + x.c)).zip vs ∧ vs.length = (L.at_ (1000 + x.c)).length ∧ Reps L F x.fs vs)
def ArgR (L : Lay) (F H : Hp) (v : V) : EV → Prop
  | .val d => Rep L F d v
  | .bor o => ∃ p, v = .ref p ∧ OwnAt L F H p o
  | .own _ => False
def ArgsR (L : Lay) (F H : Hp) : List V → List EV → Prop := Paired (ArgR L F H)
def adr : V → Addr
  | .ref p => p
  | _ => 0
def borA : List V → List EV → List Addr
  | v :: vs, .bor _ :: as => adr v :: borA vs as
  | _ :: vs, _ :: as => borA vs as
  | _, _ => []
def Outs (L : Lay) (F H : Hp) : List Addr → List OV → Prop := Paired (OwnAt L F H)
def RetR (L : Lay) (H F' H' : Hp) (v : V) : RV → Prop
  | .val d => Rep L F' d v
  | .fr o => ∃ p, v = .ref p ∧ OwnAt L F' H' p o ∧ H p = none
def Kept (F H F' H' : Hp) (bs : List Addr) : Prop := ∀ a o, H a = some o → F a = none → a ∉ bs → H' a = some o ∧ F' a = none
/-- a def's promise, from its meaning -/
def lift (L : Lay) (m : Spec) : Sp := fun vs H Q E => ∃ (F : Hp) (as : List EV) (R : RV → List OV → Prop) (Rx : Exn → List OV → Prop), LeH F H ∧ ArgsR L F H vs as ∧ (borA vs as).Nodup ∧ m as R Rx ∧
  (∀ r outs v F' H', R r outs → LeH F F' → LeH F' H' → Kept F H F' H' (borA vs as) → Outs L F' H' (borA vs as) outs → RetR L H F' H' v r → Q v H') ∧
  ∀ x outs cls d F' H', Rx x outs → LeH F F' → LeH F' H' → Kept F H F' H' (borA vs as) → Outs L F' H' (borA vs as) outs → ExR L F' H' cls d x → E cls d H'
structure DefOk (p : Program) (w : World) (K : PySem.W.Frag) (mg : Str → Option Value) (base : Heap) (n : Nat) (f : Addr) (fd : FuncData) (ps : List Str) (sp : Sp) : Prop where
  len : ∀ vs H Q E, sp vs H Q E → vs.length = ps.length
  run : ∀ (A : Around) (outer : List PySem.Env) (s : Shared) (H : Hp) (args : Args) (us : List Value) (vs : List V) (Q : VK) (E : XK), A.guards = some [] → Room n A → Env0 p w K mg base A outer s H → BindsTo s fd args (ps.zip us) → Vals vs us → sp vs H Q E →
    codeAny (model p w) A (.call (.ref f) args) (CR (L2.CX p w) outer p w H s Q E) s
/-- where the parameters' values come from: a handed one, a default -/
def SrcR (args : List Value) : List (Sum Nat D) → List Value → Prop := Paired fun s z => match s with
  | .inl k => args[k]? = some z
  | .inr d => ∃ v, RelV v z ∧ ∀ L F, Rep L F d v
def BindOk (K : PySem.W.Frag) (fd : FuncData) (ps : List Str) (np : Nat) (kws : List Str) (src : List (Sum Nat D)) : Prop :=
  ∀ (s : Shared) (us ws : List Value), K.In s.heap → us.length = np → ws.length = kws.length → ∃ zs, BindsTo s fd ⟨us, kws.zip ws⟩ (ps.zip zs) ∧ SrcR (us ++ ws) src zs ∧ zs.length = ps.length

/-- a wish for exceptions, as the layer has it -/
def WXo (P : PP) (Xp : XP) : WX := fun cls d σ H => ∃ env F x, EX P σ H env F ∧ ExR P.L F H cls d x ∧ Xp x env

section
variable {X : Cx} {P : PP} {Γ : Fns} {Xp : XP} {pos : Pos} {x y z : Expr} {a b c : E}
/-- the callee runs -/
theorem run_def {pins : List (Addr × Obj)} {σ : L2.St} {H : Hp} {s : Shared} {n : Nat} {f : Addr} {fd : FuncData} {ps : List Str} {sp : Sp} {args : Args} {us : List Value} {vs : List V} {Q : VK} {E : XK} (Dk : DefOk X.prog X.w X.K X.mg X.base n f fd ps sp) (hg : X.A.guards = some []) (hr : Room n X.A)
    (hx : PassesAt (L2.CX X.prog X.w) X σ E) (I : Inv X pins σ H s) (bt : BindsTo s fd args (ps.zip us)) (r : Vals vs us) (h : sp vs H Q E) : wpAny (model X.prog X.w) X.A (call (.ref f) args.pos args.kw) (EP X pins σ Q) X.xe s := by
  apply wpAny_call
  refine codeAny_mono (Dk.run X.A X.stack s H args us vs Q E hg hr I.env0 bt r h) ?_
  intro res st hq
  match res, hq with
  | .error e, hq => exact hx pins H s e st I hq
  | .ok (.ret u), hq => exact I.after hq
  | .ok .next, hq => exact hq.elim
  | .ok .brk, hq => exact hq.elim
  | .ok .cont, hq => exact hq.elim

/-! ### the arguments, bound -/
theorem OpRs.get {F : Hp} {σ : L2.St} : ∀ {vs : List V} {os : List Op} {k : Nat} {o : Op}, OpRs P F σ vs os → os[k]? = some o → ∃ v, vs[k]? = some v ∧ OpR P F σ v o
  | _, _, _, _, .nil, h => by simp at h
  | _, _, 0, _, .cons h t, e => by simp at e; subst e; exact ⟨_, rfl, h⟩
  | _, _, k + 1, _, .cons h t, e => by
    obtain ⟨v, h1, h2⟩ := OpRs.get (k := k) t (by simpa using e)
    exact ⟨v, by simpa using h1, h2⟩
theorem bind_args {A : Nat → Addr} {σ : L2.St} {H : Hp} {env : Env} {F : Hp} (e : ER P A σ H env F) {vs : List V} {os : List Op} {args : List Value} (p : OpRs P F σ vs os) (rv : Vals vs args) : ∀ {src : List (Sum Nat D)} {zs : List Value} {evs : List EV},
    SrcR args src zs → bindS (os.map (handed env)) src = some evs → ∃ ys, Vals ys zs ∧ ArgsR P.L F H ys evs ∧ borA ys evs = (lent env os src).map A
  | _, _, evs, .nil, h => by
    simp [bindS] at h
    subst h
    exact ⟨[], .nil, .nil, rfl⟩
  | _, _, evs, .cons (a := sc) (b := z) (l₁ := src) (l₂ := zs) q t, h => by
    cases sc with
    | inr d =>
      simp only [bindS, Option.map_eq_some_iff] at h
      obtain ⟨es, h, rfl⟩ := h
      obtain ⟨ys, h1, h2, h3⟩ := bind_args e p rv t h
      obtain ⟨v, q1, q2⟩ := q
      exact ⟨v :: ys, .cons q1 h1, .cons (q2 _ _) h2, h3⟩
    | inl k =>
      simp only [bindS] at h
      cases ek : (os.map (handed env))[k]? with
      | none => rw [ek] at h; cases h
      | some ev' =>
        rw [ek] at h
        cases ev' with
        | none => cases h
        | some ev =>
          simp only [Option.map_eq_some_iff] at h
          obtain ⟨es, h, rfl⟩ := h
          obtain ⟨ys, h1, h2, h3⟩ := bind_args e p rv t h
          rw [List.getElem?_map, Option.map_eq_some_iff] at ek
          obtain ⟨o, ho, hev⟩ := ek
          obtain ⟨v, hv, hp⟩ := p.get ho
          obtain ⟨u, hu, ru⟩ := rv.get hv
          have q : args[k]? = some z := q
          rw [hu] at q
          cases q
          cases o with
          | d d' =>
            cases hev
            refine ⟨v :: ys, .cons ru h1, .cons hp h2, ?_⟩
            simp only [lent, ho, borA]
            exact h3
          | slot i =>
            have hp : σ[i]? = some (some v) := hp
            unfold handed at hev
            cases hx : env[i]? with
            | none => simp only [hx] at hev; cases hev
            | some yy => cases yy with
              | none => simp only [hx] at hev; cases hev
              | some zz =>
                simp only [hx] at hev
                cases zz with
                | val d' =>
                  cases hev
                  obtain ⟨v', e1, e2⟩ := e.val i d' hx
                  rw [hp] at e1
                  cases e1
                  refine ⟨v :: ys, .cons ru h1, .cons e2 h2, ?_⟩
                  simp only [lent, ho, hx, borA]
                  exact h3
                | own o' =>
                  cases hev
                  obtain ⟨e1, e2, _⟩ := e.own i o' (by rw [hx]; rfl)
                  rw [hp] at e1
                  cases e1
                  refine ⟨.ref (A i) :: ys, .cons ru h1, .cons ⟨_, rfl, e2⟩ h2, ?_⟩
                  simp only [lent, ho, hx, borA, adr, List.map_cons]
                  rw [h3]
                | bor o' =>
                  cases hev
                  obtain ⟨e1, e2, _⟩ := e.own i o' (by rw [hx]; rfl)
                  rw [hp] at e1
                  cases e1
                  refine ⟨.ref (A i) :: ys, .cons ru h1, .cons ⟨_, rfl, e2⟩ h2, ?_⟩
                  simp only [lent, ho, hx, borA, adr, List.map_cons]
                  rw [h3]
theorem lent_own {env : Env} {os : List Op} : ∀ {src : List (Sum Nat D)} {i : Nat}, i ∈ lent env os src → ∃ o, ownish env[i]? = some o
  | [], _, h => by simp [lent] at h
  | .inr _ :: src, i, h => by
    simp only [lent] at h
    exact lent_own h
  | .inl k :: src, i, h => by
    simp only [lent] at h
    split at h
    · split at h
      · rcases List.mem_cons.mp h with rfl | h
        · rename_i q
          exact ⟨_, by rw [q]; rfl⟩
        · exact lent_own h
      · rcases List.mem_cons.mp h with rfl | h
        · rename_i q
          exact ⟨_, by rw [q]; rfl⟩
        · exact lent_own h
      · exact lent_own h
    · exact lent_own h

/-! ### the lent objects are back -/
theorem back_len : ∀ (is : List Nat) (env : Env) (os : List OV), (back env is os).length = env.length
  | [], _, _ => by simp [back]
  | _ :: _, _, [] => by simp [back]
  | i :: is, env, o :: os => by
    simp only [back]
    rw [back_len is _ os, List.length_set]
theorem back_out : ∀ (is : List Nat) (env : Env) (os : List OV) (j : Nat), j ∉ is → (back env is os)[j]? = env[j]?
  | [], _, _, _, _ => by simp [back]
  | _ :: _, _, [], _, _ => by simp [back]
  | i :: is, env, o :: os, j, h => by
    simp only [back]
    have ne : i ≠ j := fun z => h (by rw [z]; exact List.mem_cons_self)
    rw [back_out is _ os j (fun z => h (List.mem_cons_of_mem _ z)), get_set_ne ne]
theorem back_in : ∀ (is : List Nat) (env : Env) (os : List OV) (j : Nat) (u : OV), is.Nodup → is.length = os.length → j ∈ is → ownish env[j]? = some u → ∃ o, (j, o) ∈ is.zip os ∧ (back env is os)[j]? = (env[j]?).map fun v => v.map fun w => w.put o
  | [], _, _, _, _, _, _, h, _ => by simp at h
  | _ :: _, _, [], _, _, _, l, _, _ => by simp at l
  | i :: is, env, o :: os, j, u, nd, l, h, q => by
    simp only [back]
    by_cases ij : j = i
    · subst ij
      have nj : j ∉ is := (List.nodup_cons.mp nd).1
      refine ⟨o, List.mem_cons_self, ?_⟩
      rw [back_out is _ os j nj]
      rcases ownish_some q with q | q
      · rw [get_set_self q, q]; rfl
      · rw [get_set_self q, q]; rfl
    · have hj : j ∈ is := by
        rcases List.mem_cons.mp h with e | e
        · exact absurd e ij
        · exact e
      obtain ⟨o', h1, h2⟩ := back_in is (env.set i ((env[i]?.getD none).map fun v => v.put o)) os j u (List.nodup_cons.mp nd).2 (by simpa using l) hj (by rw [get_set_ne (Ne.symm ij)]; exact q)
      refine ⟨o', List.mem_cons_of_mem _ h1, ?_⟩
      rw [h2, get_set_ne (Ne.symm ij)]
theorem outs_mem {L : Lay} {F H : Hp} {A : Nat → Addr} : ∀ {is : List Nat} {os : List OV} {j : Nat} {o : OV}, Outs L F H (is.map A) os → (j, o) ∈ is.zip os → OwnAt L F H (A j) o
  | [], _, _, _, _, h => by simp at h
  | _ :: _, [], _, _, _, h => by simp at h
  | i :: is, o :: os, j, o', .cons h t, m => by
    rcases List.mem_cons.mp m with e | m
    · cases e; exact h
    · exact outs_mem t m
theorem ownish_put {x : Option (Option EV)} {u o w : OV} (h : ownish x = some u) (q : ownish (x.map fun v => v.map fun z => z.put o) = some w) : w = o := by
  rcases ownish_some h with rfl | rfl
  · cases q; rfl
  · cases q; rfl
theorem paired_len {α β : Type} {R : α → β → Prop} : ∀ {xs : List α} {ys : List β}, Paired R xs ys → xs.length = ys.length
  | _, _, .nil => rfl
  | _, _, .cons _ t => by rw [List.length_cons, List.length_cons, paired_len t]
theorem ER.back {A : Nat → Addr} {σ : L2.St} {H : Hp} {env : Env} {F : Hp} (e : ER P A σ H env F) {is : List Nat} {outs : List OV} {F' H' : Hp} (nd : is.Nodup) (hi : ∀ i ∈ is, ∃ o, ownish env[i]? = some o)
    (m : LeH F F') (s : LeH F' H') (kp : Kept F H F' H' (is.map A)) (os : Outs P.L F' H' (is.map A) outs) : ER P A σ H' (G.back env is outs) F' := by
  have hl : is.length = outs.length := by
    have := paired_len os
    rwa [List.length_map] at this
  have val : ∀ (i : Nat) (d : D), (G.back env is outs)[i]? = some (some (.val d)) → env[i]? = some (some (.val d)) := fun i d q => by
    by_cases hm : i ∈ is
    · obtain ⟨u, hu⟩ := hi i hm
      obtain ⟨o, _, h2⟩ := back_in is env outs i u nd hl hm hu
      rw [h2] at q
      rcases ownish_some hu with z | z
      · rw [z] at q; cases q
      · rw [z] at q; cases q
    · rw [back_out is env outs i hm] at q
      exact q
  have own : ∀ (i : Nat) (o : OV), ownish (G.back env is outs)[i]? = some o → (∃ u, ownish env[i]? = some u) ∧ σ[i]? = some (some (.ref (A i))) ∧ OwnAt P.L F' H' (A i) o ∧ P.O (A i) = none := fun i o q => by
    by_cases hm : i ∈ is
    · obtain ⟨u, hu⟩ := hi i hm
      obtain ⟨o', h1, h2⟩ := back_in is env outs i u nd hl hm hu
      rw [h2] at q
      obtain ⟨e1, _, e3⟩ := e.own i u hu
      rw [ownish_put hu q]
      exact ⟨⟨u, hu⟩, e1, outs_mem os h1, e3⟩
    · rw [back_out is env outs i hm] at q
      obtain ⟨e1, e2, e3⟩ := e.own i o q
      refine ⟨⟨o, q⟩, e1, ?_, e3⟩
      have na : A i ∉ is.map A := fun z => by
        obtain ⟨j, hj, ej⟩ := List.mem_map.mp z
        obtain ⟨u, hu⟩ := hi j hj
        exact e.ne j i u o hu q (fun z => hm (z ▸ hj)) ej
      obtain ⟨w, hw⟩ := e2.there
      have k := kp (A i) w hw e2.none na
      exact e2.step m k.2 fun u z => by rw [hw] at z; cases z; exact k.1
  refine ⟨s, e.le0.trans m, fun a o q => ?_, by rw [back_len]; exact e.len, fun i d q => ?_, fun i o q => (own i o q).2, fun i j o u q1 q2 n => ?_, fun i o q => ?_, fun i => ?_⟩
  · obtain ⟨h1, h2⟩ := e.fr a o q
    refine kp a o h1 h2 fun z => ?_
    obtain ⟨j, hj, ej⟩ := List.mem_map.mp z
    obtain ⟨u, hu⟩ := hi j hj
    have := (e.own j u hu).2.2
    rw [ej, q] at this
    cases this
  · obtain ⟨v, h1, h2⟩ := e.val i d (val i d q)
    exact ⟨v, h1, Rep.mono m _ _ h2⟩
  · obtain ⟨⟨o', h1⟩, _⟩ := own i o q1
    obtain ⟨⟨u', h2⟩, _⟩ := own j u q2
    exact e.ne i j o' u' h1 h2 n
  · by_cases hm : i ∈ is
    · obtain ⟨u, hu⟩ := hi i hm
      obtain ⟨o', _, h2⟩ := back_in is env outs i u nd hl hm hu
      rw [h2] at q
      rcases ownish_some hu with z | z
      · rw [z] at q; cases q
      · exact e.bor i u z
    · rw [back_out is env outs i hm] at q
      exact e.bor i o q
  · rw [e.isb i]
    by_cases hm : i ∈ is
    · obtain ⟨u, hu⟩ := hi i hm
      obtain ⟨o', _, h2⟩ := back_in is env outs i u nd hl hm hu
      rw [h2]
      rcases ownish_some hu with z | z
      · rw [z]
        constructor
        · rintro ⟨w, q⟩; cases q
        · rintro ⟨w, q⟩; cases q
      · rw [z]
        constructor
        · rintro ⟨w, q⟩; exact ⟨o', rfl⟩
        · rintro ⟨w, q⟩; exact ⟨u, rfl⟩
    · rw [back_out is env outs i hm]
theorem ownish_back {env : Env} {is : List Nat} {outs : List OV} (hi : ∀ i ∈ is, ∃ o, ownish env[i]? = some o) {i : Nat} {u : OV} (h : ownish (G.back env is outs)[i]? = some u) : ∃ o, ownish env[i]? = some o := by
  by_cases hm : i ∈ is
  · exact hi i hm
  · rw [back_out is env outs i hm] at h
    exact ⟨u, h⟩
theorem nodup_mapA {A : Nat → Addr} : ∀ {is : List Nat}, is.Nodup → (∀ i ∈ is, ∀ j ∈ is, i ≠ j → A i ≠ A j) → (is.map A).Nodup
  | [], _, _ => by simp
  | i :: is, nd, h => by
    rw [List.map_cons, List.nodup_cons]
    refine ⟨fun z => ?_, nodup_mapA (List.nodup_cons.mp nd).2 fun a ha b hb => h a (List.mem_cons_of_mem _ ha) b (List.mem_cons_of_mem _ hb)⟩
    obtain ⟨j, hj, e⟩ := List.mem_map.mp z
    exact h j (List.mem_cons_of_mem _ hj) i List.mem_cons_self (fun q => (List.nodup_cons.mp nd).1 (q ▸ hj)) e
/-- the meaning of a call, behind its arguments -/
def callW (Γ : Fns) (f : Nat) (src : List (Sum Nat D)) (Xp : XP) (R : PostE) (os : List Op) (env1 : Env) : Prop :=
  ∃ vs, bindS (os.map (handed env1)) src = some vs ∧ (lent env1 os src).Nodup ∧ Γ.f f vs (fun r outs => R r (G.back env1 (lent env1 os src) outs)) (fun x outs => Xp x (G.back env1 (lent env1 os src) outs))
theorem call_core {pins : List (Addr × Obj)} {σ : L2.St} {H : Hp} {s : Shared} {n f : Nat} {fd : FuncData} {ps : List Str} {np : Nat} {kws : List Str} {src : List (Sum Nat D)} {env : Env} {F : Hp} {us ws : List Value} {vs : List V} {os : List Op} {R : PostE} {Q : VK}
    (Dk : DefOk X.prog X.w X.K X.mg X.base n (P.L.fn f) fd ps (lift P.L (Γ.f f))) (hg : X.A.guards = some []) (hr : Room n X.A) (tk : Takes X (WXo P Xp)) (hb : BindOk X.K fd ps np kws src) (I : Inv X pins σ H s) (ex : EX P σ H env F) (rv : Vals vs (us ++ ws)) (hu : us.length = np) (hw : ws.length = kws.length)
    (p : OpRs P F σ vs os) (w : callW Γ f src Xp R os env) (k : ∀ r env' v H' F', R r env' → LeH F F' → EXv P σ H' env' F' v r → Q v H') : wpAny (model X.prog X.w) X.A (call (.ref (P.L.fn f)) us (kws.zip ws)) (EP X pins σ Q) X.xe s := by
  obtain ⟨A, e⟩ := ex
  obtain ⟨evs, w1, w2, w3⟩ := w
  obtain ⟨zs, bt, sr, hl⟩ := hb s us ws I.kIn hu hw
  obtain ⟨ys, r1, r2, r3⟩ := bind_args e p rv sr w1
  have hi : ∀ i ∈ lent env os src, ∃ o, ownish env[i]? = some o := fun i h => lent_own h
  refine run_def (args := ⟨us, kws.zip ws⟩) Dk hg hr (passAt tk σ) I bt r1 ⟨F, evs, _, _, e.sub, r2, ?_, w3, fun r outs v F' H' q m s kp os' rr => ?_, fun x outs cls d F' H' q m s kp os' rr => ?_⟩
  · rw [r3]
    refine nodup_mapA w2 fun i h1 j h2 n => ?_
    obtain ⟨u, hu⟩ := hi i h1
    obtain ⟨w, hw⟩ := hi j h2
    exact e.ne i j u w hu hw n
  · rw [r3] at kp os'
    refine k r _ v H' F' q m ⟨A, e.back w2 hi m s kp os', ?_⟩
    cases r with
    | val d => exact rr
    | fr o =>
      obtain ⟨q1, rfl, q2, q3⟩ := rr
      refine ⟨q1, rfl, q2, ?_, fun i u hu => ?_⟩
      · cases z : P.O q1 with
        | none => rfl
        | some w => rw [(e.fr q1 w z).1] at q3; cases q3
      · obtain ⟨o', ho'⟩ := ownish_back hi hu
        obtain ⟨w, hw⟩ := (e.own i o' ho').2.1.there
        exact ne_of_none hw q3
  · rw [r3] at kp os'
    exact ⟨_, F', x, ⟨A, e.back w2 hi m s kp os'⟩, rr, q⟩
theorem wOs_app : ∀ (ms ns : List E) (env : Env) (R : PostOs), wOs Γ (ms ++ ns) env Xp R = wOs Γ ms env Xp fun os env1 => wOs Γ ns env1 Xp fun os' env2 => R (os ++ os') env2
  | [], _, _, _ => by simp only [List.nil_append, wOs]
  | m :: ms, ns, env, R => by
    simp only [List.cons_append, wOs]
    congr 1
    funext o env1
    exact wOs_app ms ns env1 _
theorem paired_app {α β : Type} {R : α → β → Prop} : ∀ {xs xs' : List α} {ys ys' : List β}, Paired R xs ys → Paired R xs' ys' → Paired R (xs ++ xs') (ys ++ ys')
  | _, _, _, _, .nil, h => h
  | _, _, _, _, .cons q t, h => .cons q (paired_app t h)
/-- the keywords' values -/
theorem k_nil : PK X [] (tOs P Γ Xp []) := ⟨fun pos pins s σ H Q I h => pk_nil.run pos pins s σ H Q I (by
  obtain ⟨env, F, R, ex, w, k⟩ := h
  simp only [wOs] at w
  exact k _ _ _ H F w (LeH.refl F) ex .nil rfl)⟩
theorem k_cons {nm : Option Str} {kpos : Pos} {kws : List Keyword} {ms : List E} (ha : PE X x (tO P Γ Xp a)) (hr : PK X kws (tOs P Γ Xp ms)) : PK X (⟨nm, x, kpos⟩ :: kws) (tOs P Γ Xp (a :: ms)) := ⟨fun pos pins s σ H Q I h => (pk_cons ha hr).run pos pins s σ H Q I (by
  obtain ⟨env, F, R, ex, w, k⟩ := h
  simp only [wOs] at w
  refine ⟨env, F, _, ex, w, fun o env1 v1 H1 F1 w1 m1 e1 p1 => ⟨env1, F1, _, e1, w1, fun os env2 vs H2 F2 w2 m2 e2 p2 l2 => ?_⟩⟩
  exact k _ _ _ H2 F2 w2 (m1.trans m2) e2 (.cons (p1.mono m2) p2) (by rw [List.length_cons, List.length_cons, l2]))⟩
variable {n f : Nat} {fd : FuncData} {ps : List Str} {np : Nat} {kws : List Keyword} {ks : List Str} {src : List (Sum Nat D)} {g : Str} {p : Pos} {es : List Expr} {ms ns : List E}
theorem vals_len {xs : List V} {us : List Value} (r : Vals xs us) : us.length = xs.length := r.length.symm
/-- f(e, ..) -/
theorem e_call (Dk : DefOk X.prog X.w X.K X.mg X.base n (P.L.fn f) fd ps (lift P.L (Γ.f f))) (hg : X.A.guards = some []) (hr : Room n X.A) (tk : Takes X (WXo P Xp)) (hb : BindOk X.K fd ps ms.length [] src) (hgl : Gl X g) (hm : X.mg g = some (.ref (P.L.fn f)))
    (hk : PySem.W.keepIn X.K (.ref (P.L.fn f)) = true) (ha : PA X (x :: es) (tOs P Γ Xp ms)) (hdb : (g == ("__debug__" : Str)) = false) (he : starEach (x :: es) X.env = (false, eval x X.env) :: starEach es X.env) (hpl : (backTo pos (starEach es X.env)).any (·.1) = false) :
    PE X (.Call (.Name g p) (x :: es) [] pos) (tE P Γ Xp (.call f ms src)) := ⟨fun pins s σ H Q I h => by
  obtain ⟨env, F, R, ex, w, k⟩ := h
  simp only [wE] at w
  refine wpAny_Call_Name_kw (ld_glob I hgl hm ?_ hdb)
  refine PySem.W.callWith_K (h₀ := X.base) I.ok.mod.kin hk (thn (ha.run pos pins s σ H (fun vs H1 => ∀ us s1, Inv X pins σ H1 s1 → Vals vs us → wpAny (model X.prog X.w) X.A (call (.ref (P.L.fn f)) us) (EP X pins σ Q) X.xe s1) I
    ⟨env, F, _, ex, w, fun os env' vs H' F' q m e p l us s1 I1 rv => ?_⟩) fun us s1 ⟨vs, H1, I1, rv, q⟩ => ⟨I1.kIn, q us s1 I1 rv⟩) he hpl
  exact call_core (ws := []) (kws := []) Dk hg hr tk hb I1 e (by rw [List.append_nil]; exact rv) (by rw [vals_len rv, l]) rfl p q fun r env2 v H2 F2 hr m2 e2 => k r env2 v H2 F2 hr (m.trans m2) e2⟩
/-- f() -/
theorem e_call0 (Dk : DefOk X.prog X.w X.K X.mg X.base n (P.L.fn f) fd ps (lift P.L (Γ.f f))) (hg : X.A.guards = some []) (hr : Room n X.A) (tk : Takes X (WXo P Xp)) (hb : BindOk X.K fd ps 0 [] src) (hgl : Gl X g) (hm : X.mg g = some (.ref (P.L.fn f)))
    (hk : PySem.W.keepIn X.K (.ref (P.L.fn f)) = true) (hdb : (g == ("__debug__" : Str)) = false) : PE X (.Call (.Name g p) [] [] pos) (tE P Γ Xp (.call f [] src)) := ⟨fun pins s σ H Q I h => by
  obtain ⟨env, F, R, ex, w, k⟩ := h
  simp only [wE, wOs] at w
  refine wpAny_Call_Name_kw (ld_glob I hgl hm ?_ hdb)
  refine PySem.W.callWith_K0 I.kIn hk ?_
  exact call_core (us := []) (ws := []) (kws := []) Dk hg hr tk hb I ex .nil rfl rfl .nil w k⟩
/-- f(e, .., k = v, ..) -/
theorem e_callk (Dk : DefOk X.prog X.w X.K X.mg X.base n (P.L.fn f) fd ps (lift P.L (Γ.f f))) (hg : X.A.guards = some []) (hr : Room n X.A) (tk : Takes X (WXo P Xp)) (hb : BindOk X.K fd ps ms.length ks src) (hgl : Gl X g) (hm : X.mg g = some (.ref (P.L.fn f)))
    (hk : PySem.W.keepIn X.K (.ref (P.L.fn f)) = true) (ha : PA X (x :: es) (tOs P Γ Xp ms)) (hkw : PK X kws (tOs P Γ Xp ns)) (hkl : ns.length = ks.length) (hdb : (g == ("__debug__" : Str)) = false) (he : starEach (x :: es) X.env = (false, eval x X.env) :: starEach es X.env)
    (hall : (backToKw pos (keywordEach kws X.env)).all (·.1.isSome) = true) (hks : (backToKw pos (keywordEach kws X.env)).filterMap (·.1) = ks)
    (hpl : ((backTo pos (starEach (x :: es) X.env)).any (·.1) || (backToKw pos (keywordEach kws X.env)).any (·.1.isNone)) = false) :
    PE X (.Call (.Name g p) (x :: es) kws pos) (tE P Γ Xp (.call f (ms ++ ns) src)) := ⟨fun pins s σ H Q I h => by
  obtain ⟨env, F, R, ex, w, k⟩ := h
  simp only [wE] at w
  rw [wOs_app] at w
  refine wpAny_Call_Name_kw (ld_glob I hgl hm ?_ hdb)
  rw [← hks] at hb hkl
  refine PySem.W.callWith_KW (h₀ := X.base) I.ok.mod.kin hk hall (thn (ha.run pos pins s σ H (fun vs H1 => ∀ us s1, Inv X pins σ H1 s1 → Vals vs us → wpAny (model X.prog X.w) X.A (evalAll ((backToKw pos (keywordEach kws X.env)).map (·.2)))
    (fun ws s2 => X.K.In s2.heap ∧ wpAny (model X.prog X.w) X.A (call (.ref (P.L.fn f)) us (((backToKw pos (keywordEach kws X.env)).filterMap (·.1)).zip ws)) (EP X pins σ Q) X.xe s2) X.xe s1) I ⟨env, F, _, ex, w, fun os env1 vs H1 F1 q1 m1 e1 p1 l1 us s1 I1 rv => ?_⟩) fun us s1 ⟨vs, H1, I1, rv, q⟩ => q us s1 I1 rv) hpl he
  refine thn (hkw.run pos pins s1 σ H1 (fun zs H2 => ∀ ws s2, Inv X pins σ H2 s2 → Vals zs ws → wpAny (model X.prog X.w) X.A (call (.ref (P.L.fn f)) us (((backToKw pos (keywordEach kws X.env)).filterMap (·.1)).zip ws)) (EP X pins σ Q) X.xe s2) I1
    ⟨env1, F1, _, e1, q1, fun os2 env2 zs H2 F2 q2 m2 e2 p2 l2 ws s2 I2 rz => ?_⟩) fun ws s2 ⟨zs, H2, I2, rz, q⟩ => ⟨I2.kIn, q ws s2 I2 rz⟩
  exact call_core Dk hg hr tk hb I2 e2 (rv.append rz) (by rw [vals_len rv, l1]) (by rw [vals_len rz, l2, hkl]) (paired_app (OpRs.mono m2 p1) p2) q2 fun r env3 v H3 F3 hr m3 e3 => k r env3 v H3 F3 hr ((m1.trans m2).trans m3) e3⟩
/-- f(k = v, ..) -/
theorem e_callk0 (Dk : DefOk X.prog X.w X.K X.mg X.base n (P.L.fn f) fd ps (lift P.L (Γ.f f))) (hg : X.A.guards = some []) (hr : Room n X.A) (tk : Takes X (WXo P Xp)) (hb : BindOk X.K fd ps 0 ks src) (hgl : Gl X g) (hm : X.mg g = some (.ref (P.L.fn f)))
    (hk : PySem.W.keepIn X.K (.ref (P.L.fn f)) = true) (hkw : PK X kws (tOs P Γ Xp ns)) (hkl : ns.length = ks.length) (hdb : (g == ("__debug__" : Str)) = false)
    (hall : (backToKw pos (keywordEach kws X.env)).all (·.1.isSome) = true) (hks : (backToKw pos (keywordEach kws X.env)).filterMap (·.1) = ks)
    (hpl : ((backTo pos (starEach [] X.env)).any (·.1) || (backToKw pos (keywordEach kws X.env)).any (·.1.isNone)) = false) :
    PE X (.Call (.Name g p) [] kws pos) (tE P Γ Xp (.call f ns src)) := ⟨fun pins s σ H Q I h => by
  obtain ⟨env, F, R, ex, w, k⟩ := h
  simp only [wE] at w
  refine wpAny_Call_Name_kw (ld_glob I hgl hm ?_ hdb)
  rw [← hks] at hb hkl
  refine PySem.W.callWith_KW0 (h₀ := X.base) I.ok.mod.kin hk hall (thn (hkw.run pos pins s σ H (fun zs H2 => ∀ ws s2, Inv X pins σ H2 s2 → Vals zs ws → wpAny (model X.prog X.w) X.A (call (.ref (P.L.fn f)) ([] ++ []) (((backToKw pos (keywordEach kws X.env)).filterMap (·.1)).zip ws)) (EP X pins σ Q) X.xe s2) I
    ⟨env, F, _, ex, w, fun os2 env2 zs H2 F2 q2 m2 e2 p2 l2 ws s2 I2 rz => ?_⟩) fun ws s2 ⟨zs, H2, I2, rz, q⟩ => ⟨I2.kIn, q ws s2 I2 rz⟩) hpl
  exact call_core (us := []) Dk hg hr tk hb I2 e2 (by rw [List.nil_append]; exact rz) rfl (by rw [vals_len rz, l2, hkl]) p2 q2 fun r env3 v H3 F3 hr m3 e3 => k r env3 v H3 F3 hr (m2.trans m3) e3⟩
end
end G
/-! A5: what is walked, comprehensions, isinstance. -/
namespace G
open PySem PySem.Spec L2

theorem line_pos : 0 < line := by decide
section
variable {X : Cx} {P : PP} {Γ : Fns} {Xp : XP} {pos : Pos} {x y z tg : Expr} {a b c : E}
theorem itOk_list {L : Lay} {F : Hp} {p : Addr} {vs : List V} {ds : List D} (h : F p = some (.lst vs)) (r : Reps L F ds vs) : ItOk L (Itl L.K p) F ds := by
  refine ⟨fun H m => ⟨vs, .inl (.inl (m _ _ h)), by rw [r.length]; exact Nat.le_refl _⟩, fun i d q F1 H m1 m2 => ?_⟩
  obtain ⟨v, h1, h2⟩ := r.get q
  have s : SqL L.K H p vs := .inl (.inl (m2 _ _ (m1 _ _ h)))
  refine ⟨⟨vs, v, s, h1⟩, fun x H' y => ?_⟩
  obtain ⟨e, y⟩ := y
  subst e
  have e := y vs s
  rw [h1] at e
  cases e
  exact ⟨F1, LeH.refl _, m2, fun a o q => ⟨q, rfl⟩, Rep.mono m1 _ _ h2⟩
theorem itOk_tup {L : Lay} {F : Hp} {p : Addr} {vs : List V} {ds : List D} (h : SqT L.K F p vs) (r : Reps L F ds vs) : ItOk L (Itt L.K p) F ds := by
  refine ⟨fun H m => ⟨vs, sqT_mono m h, by rw [r.length]; exact Nat.le_refl _⟩, fun i d q F1 H m1 m2 => ?_⟩
  obtain ⟨v, h1, h2⟩ := r.get q
  have s : SqT L.K H p vs := sqT_mono m2 (sqT_mono m1 h)
  refine ⟨⟨vs, v, s, h1⟩, fun x H' y => ?_⟩
  obtain ⟨e, y⟩ := y
  subst e
  have e := y vs s
  rw [h1] at e
  cases e
  exact ⟨F1, LeH.refl _, m2, fun a o q => ⟨q, rfl⟩, Rep.mono m1 _ _ h2⟩
theorem itOk_str {L : Lay} {F : Hp} {s : Str} : ItOk L (Its s) F (s.cps.toList.map fun c => .str ⟨#[c]⟩) := by
  refine ⟨fun H m => by show s.cps.size ≤ _; simp, fun i d q F1 H m1 m2 => ?_⟩
  have hi : i < s.cps.size := by
    have := (List.getElem?_eq_some_iff.mp q).1
    simpa using this
  refine ⟨hi, fun x H' y => ?_⟩
  obtain ⟨e, c, hc, e'⟩ := y
  subst e
  subst e'
  refine ⟨F1, LeH.refl _, m2, fun a o q => ⟨q, rfl⟩, ?_⟩
  rw [List.getElem?_map, Array.getElem?_toList, hc] at q
  cases q
  exact ⟨rfl, sign_len⟩
theorem itOk_rng {L : Lay} {F : Hp} {lo hi : Int} : ItOk L (Itr lo (hi - lo).toNat) F (rngD lo hi) := by
  have hl : (rngD lo hi).length = (hi - lo).toNat := by simp [rngD]
  refine ⟨fun H m => by rw [hl]; exact Nat.le_refl _, fun i d q F1 H m1 m2 => ?_⟩
  have h1 := (List.getElem?_eq_some_iff.mp q).1
  rw [hl] at h1
  refine ⟨h1, fun x H' y => ?_⟩
  obtain ⟨e, e'⟩ := y
  subst e
  subst e'
  refine ⟨F1, LeH.refl _, m2, fun a o q => ⟨q, rfl⟩, ?_⟩
  unfold rngD at q
  rw [List.getElem?_map, List.getElem?_range h1] at q
  cases q
  exact rfl
/-- any list, tuple, text -/
def iAny (K : PySem.W.Frag) (t : TE) : TI := fun σ H R => t σ H fun x H1 => (∃ a xs, x = .ref a ∧ SqL K H1 a xs ∧ (xs.length ≤ sizeLine → R (Itl K a) H1)) ∨ (∃ a xs, x = .ref a ∧ SqT K H1 a xs ∧ (xs.length ≤ sizeLine → R (Itt K a) H1)) ∨ ∃ s, x = .str s ∧ R (Its s) H1
theorem i_any {t : TE} (h : PE X x t) : PI X tg x (iAny X.K t) := by
  refine ⟨fun pins s σ H R I q => ?_⟩
  refine thn (h.run pins s σ H _ I q) fun v s1 ⟨u, H1, I1, r1, q1⟩ => ?_
  rcases q1 with ⟨a, xs, e, hq, q⟩ | ⟨a, xs, e, hq, q⟩ | ⟨t', e, q⟩
  · subst e
    cases r1
    obtain ⟨its, rv, p, hz⟩ := I1.list hq
    refine wpAny_pyIter_list p.isList ?_
    refine ⟨s1.heap.objs.size, [s1.heap.objs.size], _, _, H1, rfl, I1.kept (t' := s1.toks) fun b o e => Heap.get?_push_of_some _ e, turn_list a _, ⟨_, Heap.get?_push_size _ rfl, rfl, rfl⟩, fun b hb => ?_, q hz⟩
    obtain rfl := List.mem_singleton.mp hb
    exact I1.fpOk (Nat.le_refl _) (I1.hok.fresh (Nat.le_refl _))
  · subst e
    cases r1
    obtain ⟨its, rv, p, hz⟩ := I1.tuple hq
    refine wpAny_pyIter_tuple (show s1.heap.IsTuple a its.toArray from p) ?_
    refine ⟨s1.heap.objs.size, [s1.heap.objs.size], _, _, H1, rfl, I1.kept (t' := s1.toks) fun b o e => Heap.get?_push_of_some _ e, turn_tuple a _, ⟨_, Heap.get?_push_size _ rfl, rfl, rfl⟩, fun b hb => ?_, q hz⟩
    obtain rfl := List.mem_singleton.mp hb
    exact I1.fpOk (Nat.le_refl _) (I1.hok.fresh (Nat.le_refl _))
  · subst e
    obtain ⟨t, rfl⟩ := r1
    cases ha : t'.cps.all (· < 128)
    · exact wpAny_pyIter_wide ha (pi_one (tk := s1.toks) I1 _ (turn_str _ t' t "str_iterator" (.inr rfl)) ⟨_, Heap.get?_push_size _ rfl, rfl, rfl⟩ q)
    · exact wpAny_pyIter_ascii ha (pi_one (tk := s1.toks) I1 _ (turn_str _ t' t "str_ascii_iterator" (.inl rfl)) ⟨_, Heap.get?_push_size _ rfl, rfl, rfl⟩ q)
theorem i_it (hK : X.K = P.L.K) (h : PE X x (tE P Γ Xp a)) : PI X tg x (tI P Γ Xp (.it a)) := pi_imp (i_any h) fun σ H R h => by
  obtain ⟨env, F, Rd, ex, w, k⟩ := h
  simp only [wI] at w
  refine ⟨env, F, _, ex, w, fun r env1 v H1 F1 q m e => ?_⟩
  obtain ⟨ds, hd, q⟩ := q
  obtain ⟨F2, m2, rp, e2⟩ := e.freeze
  cases hr : r.toD with
  | lst xs =>
    rw [hr] at hd rp
    cases hd
    obtain ⟨p, vs, rfl, h1, h2⟩ := rp
    have s : H1 p = some (.lst vs) := e2.sub _ _ h1
    exact .inl ⟨_, _, rfl, .inl (.inl s), fun hz => by rw [hK]; exact k ds env1 H1 F2 _ q (m.trans m2) e2 (by rw [line_eq, ← h2.length]; exact hz) (itOk_list h1 h2)⟩
  | tup xs =>
    rw [hr] at hd rp
    cases hd
    obtain ⟨p, vs, rfl, h1, h2⟩ := rp
    exact .inr (.inl ⟨_, _, rfl, by rw [hK]; exact sqT_mono e2.sub h1, fun hz => by rw [hK]; exact k ds env1 H1 F2 _ q (m.trans m2) e2 (by rw [line_eq, ← h2.length]; exact hz) (itOk_tup h1 h2)⟩)
  | str s =>
    rw [hr] at hd rp
    cases hd
    exact .inr (.inr ⟨s, rp.1, k _ env1 H1 F2 _ q (m.trans m2) e2 (by rw [List.length_map, Array.length_toList]; exact rp.2) itOk_str⟩)
  | non => rw [hr] at hd; cases hd
  | bl _ => rw [hr] at hd; cases hd
  | int _ => rw [hr] at hd; cases hd
  | dct _ _ => rw [hr] at hd; cases hd
  | ins _ _ => rw [hr] at hd; cases hd
  | fn _ => rw [hr] at hd; cases hd
  | scr _ => rw [hr] at hd; cases hd
theorem rng_len {i j : Int} (h : -1000000 ≤ i ∧ i ≤ 1000000 ∧ -1000000 ≤ j ∧ j ≤ 1000000) : (rngD i j).length ≤ line := by
  simp only [rngD, List.length_map, List.length_range, line]
  omega
/-- range(b), range(a, b) -/
theorem i_rng1 {p : Pos} (hg : Gl X "range") (hm : X.mg "range" = none) (ha : PA X [x] (tOs P Γ Xp [a])) (hs : starEach [x] X.env = [(false, eval x X.env)]) :
    PI X tg (.Call (.Name "range" p) [x] [] pos) (tI P Γ Xp (.rng [a])) := pi_imp (pi_range1 hg hm ha hs) fun σ H R h => by
  obtain ⟨env, F, Rd, ex, w, k⟩ := h
  simp only [wI] at w
  refine ⟨env, F, _, ex, w, fun os env1 vs H1 F1 q m e p l => ?_⟩
  generalize hq : os.map (res env1) = qs at q
  unfold rngW at q
  split at q
  · obtain ⟨v, o, rfl, rfl, h1, h2⟩ := opRs_one p hq
    refine ⟨_, by rw [(e.res h1 h2).int], by omega, by omega, k _ _ H1 F1 _ q.2 m e (rng_len (by omega)) ?_⟩
    have := @itOk_rng P.L F1 0 (by assumption)
    simpa using this
  · have := congrArg List.length hq
    rw [List.length_map, ← paired_len p, l] at this
    simp at this
  · exact q.elim
theorem i_rng2 {p : Pos} (hg : Gl X "range") (hm : X.mg "range" = none) (ha : PA X [x, y] (tOs P Γ Xp [a, b])) (hs : starEach [x, y] X.env = [(false, eval x X.env), (false, eval y X.env)]) (hs2 : starEach [y] X.env = [(false, eval y X.env)]) :
    PI X tg (.Call (.Name "range" p) [x, y] [] pos) (tI P Γ Xp (.rng [a, b])) := pi_imp (pi_range2 hg hm ha hs hs2) fun σ H R h => by
  obtain ⟨env, F, Rd, ex, w, k⟩ := h
  simp only [wI] at w
  refine ⟨env, F, _, ex, w, fun os env1 vs H1 F1 q m e p l => ?_⟩
  generalize hq : os.map (res env1) = qs at q
  unfold rngW at q
  split at q
  · have := congrArg List.length hq
    rw [List.length_map, ← paired_len p, l] at this
    simp at this
  · obtain ⟨v, v', o, o', rfl, h1, h2, h3, h4⟩ := opRs_two p hq
    exact ⟨_, _, by rw [(e.res h1 h2).int, (e.res h3 h4).int], by omega, k _ _ H1 F1 _ q.2 m e (rng_len q.1) itOk_rng⟩
  · exact q.elim

/-! ### targets -/
mutual
def slots : Tg → List Nat
  | .nm i => [i]
  | .tp ts => slotss ts
def slotss : List Tg → List Nat
  | [] => []
  | t :: ts => slots t ++ slotss ts
end
def SameOut (vs : List Nat) (σ σ' : L2.St) : Prop := σ'.length = σ.length ∧ ∀ i : Nat, i ∉ vs → σ'[i]? = σ[i]?
theorem SameOut.refl {vs : List Nat} (σ : L2.St) : SameOut vs σ σ := ⟨rfl, fun _ _ => rfl⟩
theorem SameOut.trans {vs ws : List Nat} {σ σ1 σ2 : L2.St} (a : SameOut vs σ σ1) (b : SameOut ws σ1 σ2) : SameOut (vs ++ ws) σ σ2 :=
  ⟨b.1.trans a.1, fun i h => (b.2 i fun z => h (List.mem_append_right _ z)).trans (a.2 i fun z => h (List.mem_append_left _ z))⟩
def gT (P : PP) (t : Tg) : TG := fun v σ H Q => ∃ env F d R, EX P σ H env F ∧ Rep P.L F d v ∧ asg t d env R ∧ ∀ σ' env', R env' → EX P σ' H env' F → SameOut (slots t) σ σ' → Q σ' H
def gTs (P : PP) (ts : List Tg) : TGs := fun vs σ H Q => ∃ env F ds R, EX P σ H env F ∧ Reps P.L F ds vs ∧ asgs ts ds env R ∧ ∀ σ' env', R env' → EX P σ' H env' F → SameOut (slotss ts) σ σ' → Q σ' H
theorem pg_imp {e : Expr} {t t' : TG} (h : PG X e t) (m : ∀ v σ H Q, t' v σ H Q → t v σ H Q) : PG X e t' := ⟨fun pins s σ H v u Q I r q => h.run pins s σ H v u Q I r (m v σ H Q q)⟩
theorem pgs_imp {e : List Expr} {t t' : TGs} (h : PGs X e t) (m : ∀ v σ H Q, t' v σ H Q → t v σ H Q) : PGs X e t' := ⟨fun pins s σ H v u Q I r q => h.run pins s σ H v u Q I r (m v σ H Q q)⟩
theorem set_self {σ : L2.St} {i : Nat} {v : Option V} (h : i < σ.length) : (σ.set i v)[i]? = some v := List.getElem?_set_self h
/-- a slot is given data -/
theorem ER.setVal {A : Nat → Addr} {σ : L2.St} {H : Hp} {env : Env} {F : Hp} (e : ER P A σ H env F) {i : Nat} {y : Option EV} (hy : env[i]? = some y) (nb : ∀ o, y ≠ some (.bor o)) {d : D} {v : V} (r : Rep P.L F d v) :
    ER P A (σ.set i (some v)) H (env.set i (some (.val d))) F := by
  have hi : i < env.length := (List.getElem?_eq_some_iff.mp hy).1
  have hs : i < σ.length := by rw [← e.len]; exact hi
  have own : ∀ (j : Nat) (o : OV), ownish (env.set i (some (.val d)))[j]? = some o → i ≠ j ∧ ownish env[j]? = some o := fun j o q => by
    by_cases ij : i = j
    · subst ij; rw [get_set_self hy] at q; cases q
    · rw [get_set_ne ij] at q; exact ⟨ij, q⟩
  refine ⟨e.sub, e.le0, e.fr, by rw [List.length_set, List.length_set]; exact e.len, fun j d' q => ?_, fun j o q => ?_, fun j k o u q1 q2 => e.ne j k o u (own j o q1).2 (own k u q2).2, fun j o q => ?_, fun j => ?_⟩
  · by_cases ij : i = j
    · subst ij
      rw [get_set_self hy] at q
      cases q
      exact ⟨v, set_self hs, r⟩
    · rw [get_set_ne ij] at q
      obtain ⟨w, h1, h2⟩ := e.val j d' q
      exact ⟨w, by rw [List.getElem?_set_ne ij]; exact h1, h2⟩
  · obtain ⟨ij, q⟩ := own j o q
    obtain ⟨h1, h2⟩ := e.own j o q
    exact ⟨by rw [List.getElem?_set_ne ij]; exact h1, h2⟩
  · have ij : i ≠ j := fun z => by subst z; rw [get_set_self hy] at q; cases q
    rw [get_set_ne ij] at q
    exact e.bor j o q
  · rw [e.isb j]
    by_cases ij : i = j
    · subst ij
      rw [get_set_self hy, hy]
      constructor
      · rintro ⟨o, q⟩; exact absurd (Option.some.inj q) (nb o)
      · rintro ⟨o, q⟩; cases q
    · rw [get_set_ne ij]
theorem setS_cases {env : Env} {i : Nat} {v : EV} {R : Env → Prop} (h : setS env i v R) : ∃ y, env[i]? = some y ∧ (∀ o, y ≠ some (.bor o)) ∧ R (env.set i (some v)) := by
  unfold setS at h
  cases e : env[i]? with
  | none => rw [e] at h; exact h.elim
  | some y =>
    rw [e] at h
    cases y with
    | none => exact ⟨_, rfl, (fun o z => by cases z), h⟩
    | some z =>
      cases z with
      | val d => exact ⟨_, rfl, (fun o z => by cases z), h⟩
      | own o => exact ⟨_, rfl, (fun o z => by cases z), h⟩
      | bor o => exact h.elim
theorem g_nm {g : Str} {i : Nat} (h : PG X (.Name g pos) (gName i)) : PG X (.Name g pos) (gT P (.nm i)) := pg_imp h fun v σ H Q h => by
  obtain ⟨env, F, d, R, ⟨A, e⟩, r, w, k⟩ := h
  obtain ⟨y, hy, nb, w⟩ := setS_cases (by simpa only [asg] using w)
  refine k _ _ w ⟨A, e.setVal hy nb r⟩ ⟨by rw [List.length_set], fun j hj => ?_⟩
  exact List.getElem?_set_ne fun z => hj (by rw [z]; simp [slots])
theorem gs_nil : PGs X [] (gTs P []) := pgs_imp pgs_nil fun vs σ H Q h => by
  obtain ⟨env, F, ds, R, e, r, w, k⟩ := h
  cases ds with
  | nil =>
    simp only [asgs] at w
    exact ⟨r, k σ env w e (SameOut.refl σ)⟩
  | cons d ds => simp only [asgs] at w
theorem gs_cons {es : List Expr} {t : Tg} {ts : List Tg} (h1 : PG X x (gT P t)) (h2 : PGs X es (gTs P ts)) (hs : (assignEach (x :: es) X.env).map (·.2) = assign x X.env :: (assignEach es X.env).map (·.2)) : PGs X (x :: es) (gTs P (t :: ts)) := pgs_imp (pgs_cons h1 h2 hs) fun vs σ H Q h => by
  obtain ⟨env, F, ds, R, e, r, w, k⟩ := h
  cases ds with
  | nil => simp only [asgs] at w
  | cons d ds =>
    simp only [asgs] at w
    obtain ⟨v, vr, rfl, r1, r2⟩ := r
    exact ⟨v, vr, rfl, env, F, d, _, e, r1, w, fun σ1 env1 q1 e1 s1 => ⟨env1, F, ds, R, e1, r2, q1, fun σ2 env2 q2 e2 s2 => k σ2 env2 q2 e2 (s1.trans s2)⟩⟩
theorem g_tp {es : List Expr} {ts : List Tg} {kk : Nat} (hK : X.K = P.L.K) (hc : X.calm = true) (h : PGs X es (gTs P ts)) (hl : es.length = ts.length) (hn : (assignEach es X.env).length = es.length) (hst : (assignEach es X.env).findIdx? (·.1) = none) : PG X (.Tuple es kk pos) (gT P (.tp ts)) :=
  pg_imp (pg_tup (n := es.length) hc h hn hst) fun v σ H Q h => by
  obtain ⟨env, F, d, R, e, r, w, k⟩ := h
  cases d with
  | tup ds =>
    simp only [asg] at w
    obtain ⟨a, vs, rfl, h1, h2⟩ := r
    exact ⟨a, vs, rfl, by rw [hK]; exact sqT_mono e.sub h1, by rw [h2.length, w.1, hl], env, F, ds, R, e, h2, w.2, k⟩
  | _ => simp only [asg] at w

/-! ### a comprehension -/
theorem wipe_at {σ : L2.St} {i : Nat} : ∀ {vs : List Nat}, (wipe σ vs)[i]? = if i ∈ vs ∧ i < σ.length then some none else σ[i]?
  | [] => by simp [wipe]
  | v :: vs => by
    show ((wipe σ vs).set v none)[i]? = _
    by_cases iv : v = i
    · subst iv
      by_cases hl : v < σ.length
      · rw [List.getElem?_set_self (by rw [wipe_length]; exact hl), if_pos ⟨List.mem_cons_self, hl⟩]
      · rw [if_neg fun z => hl z.2, List.getElem?_eq_none (by rw [List.length_set, wipe_length]; omega), List.getElem?_eq_none (by omega)]
    · rw [List.getElem?_set_ne iv, wipe_at]
      simp only [List.mem_cons, show (i = v) = False from eq_false fun z => iv z.symm, false_or]
theorem wipeE_len {env : Env} : ∀ {vs : List Nat}, (wipeE env vs).length = env.length
  | [] => rfl
  | v :: vs => by simp only [wipeE, List.length_set]; exact wipeE_len
theorem wipeE_at {env : Env} {i : Nat} : ∀ {vs : List Nat}, (wipeE env vs)[i]? = if i ∈ vs ∧ i < env.length then some none else env[i]?
  | [] => by simp [wipeE]
  | v :: vs => by
    simp only [wipeE]
    by_cases iv : v = i
    · subst iv
      by_cases hl : v < env.length
      · rw [List.getElem?_set_self (by rw [wipeE_len]; exact hl), if_pos ⟨List.mem_cons_self, hl⟩]
      · rw [if_neg fun z => hl z.2, List.getElem?_eq_none (by rw [List.length_set, wipeE_len]; omega), List.getElem?_eq_none (by omega)]
    · rw [List.getElem?_set_ne iv, wipeE_at]
      simp only [List.mem_cons, show (i = v) = False from eq_false fun z => iv z.symm, false_or]
theorem unwipe_len {env0 env : Env} : ∀ {vs : List Nat}, (unwipe env0 env vs).length = env.length
  | [] => rfl
  | v :: vs => by simp only [unwipe, List.length_set]; exact unwipe_len
theorem unwipe_at {env0 env : Env} {i : Nat} : ∀ {vs : List Nat}, (unwipe env0 env vs)[i]? = if i ∈ vs ∧ i < env.length then some (env0[i]?.getD none) else env[i]?
  | [] => by simp [unwipe]
  | v :: vs => by
    simp only [unwipe]
    by_cases iv : v = i
    · subst iv
      by_cases hl : v < env.length
      · rw [List.getElem?_set_self (by rw [unwipe_len]; exact hl), if_pos ⟨List.mem_cons_self, hl⟩]
      · rw [if_neg fun z => hl z.2, List.getElem?_eq_none (by rw [List.length_set, unwipe_len]; omega), List.getElem?_eq_none (by omega)]
    · rw [List.getElem?_set_ne iv, unwipe_at]
      simp only [List.mem_cons, show (i = v) = False from eq_false fun z => iv z.symm, false_or]
theorem wipe_same {σ σ' : L2.St} {vs ws : List Nat} (h : SameOut ws (wipe σ vs) σ') (s : ∀ i ∈ ws, i ∈ vs) : wipe σ' vs = wipe σ vs := by
  refine List.ext_getElem? fun i => ?_
  have hl : σ'.length = σ.length := h.1.trans (wipe_length σ vs)
  rw [wipe_at, wipe_at, hl]
  by_cases c : i ∈ vs ∧ i < σ.length
  · rw [if_pos c, if_pos c]
  · rw [if_neg c, if_neg c]
    by_cases hi : i ∈ vs
    · have : σ.length ≤ i := Nat.le_of_not_lt fun z => c ⟨hi, z⟩
      rw [List.getElem?_eq_none (by omega), List.getElem?_eq_none this]
    · rw [h.2 i fun z => hi (s i z), wipe_at, if_neg c]
theorem noOwn_at {env : Env} : ∀ {vs : List Nat} {i : Nat}, noOwn env vs = true → i ∈ vs → ownish env[i]? = none
  | v :: vs, i, h, hi => by
    simp only [noOwn, Bool.and_eq_true] at h
    rcases List.mem_cons.mp hi with rfl | hi
    · cases e : env[i]? with
      | none => rfl
      | some y => cases y with
        | none => rfl
        | some z => cases z with
          | val d => rfl
          | own o => rw [e] at h; exact absurd h.1 (by simp)
          | bor o => rw [e] at h; exact absurd h.1 (by simp)
    · exact noOwn_at h.2 hi
/-- no lent slot among these -/
def NoB (P : PP) (vs : List Nat) : Prop := ∀ i ∈ vs, P.isB i = false
theorem ER.noB {A : Nat → Addr} {σ : L2.St} {H : Hp} {env : Env} {F : Hp} (e : ER P A σ H env F) {vs : List Nat} (h : noOwn env vs = true) : NoB P vs := fun i hi => by
  cases q : P.isB i with
  | false => rfl
  | true =>
    obtain ⟨o, ho⟩ := (e.isb i).mp q
    have := noOwn_at h hi
    rw [ho] at this
    cases this
theorem ER.wipe {A : Nat → Addr} {σ : L2.St} {H : Hp} {env : Env} {F : Hp} (e : ER P A σ H env F) {vs : List Nat} (h : NoB P vs) : ER P A (L2.wipe σ vs) H (wipeE env vs) F := by
  have get : ∀ (i : Nat) (z : EV), (wipeE env vs)[i]? = some (some z) → env[i]? = some (some z) ∧ (L2.wipe σ vs)[i]? = σ[i]? := fun i z q => by
    rw [wipeE_at] at q
    by_cases c : i ∈ vs ∧ i < env.length
    · rw [if_pos c] at q; cases q
    · rw [if_neg c] at q
      exact ⟨q, by rw [wipe_at, if_neg (by rw [← e.len]; exact c)]⟩
  have own : ∀ (i : Nat) (o : OV), ownish (wipeE env vs)[i]? = some o → ownish env[i]? = some o ∧ (L2.wipe σ vs)[i]? = σ[i]? := fun i o q => by
    rcases ownish_some q with z | z
    · obtain ⟨h1, h2⟩ := get i _ z; exact ⟨by rw [h1]; rfl, h2⟩
    · obtain ⟨h1, h2⟩ := get i _ z; exact ⟨by rw [h1]; rfl, h2⟩
  refine ⟨e.sub, e.le0, e.fr, by rw [wipeE_len, wipe_length]; exact e.len, fun i d q => ?_, fun i o q => ?_, fun i j o u q1 q2 => e.ne i j o u (own i o q1).1 (own j u q2).1, fun i o q => e.bor i o (get i _ q).1, fun i => ?_⟩
  · obtain ⟨h1, h2⟩ := get i _ q
    rw [h2]
    exact e.val i d h1
  · obtain ⟨h1, h2⟩ := own i o q
    rw [h2]
    exact e.own i o h1
  · constructor
    · intro q
      have ni : i ∉ vs := fun z => by rw [h i z] at q; cases q
      obtain ⟨o, ho⟩ := (e.isb i).mp q
      exact ⟨o, by rw [wipeE_at, if_neg fun z => ni z.1]; exact ho⟩
    · rintro ⟨o, q⟩
      exact (e.isb i).mpr ⟨o, (get i _ q).1⟩
theorem ER.unwipe {A0 A : Nat → Addr} {σ : L2.St} {H0 H : Hp} {env0 env : Env} {F0 F : Hp} (e0 : ER P A0 σ H0 env0 F0) (m : LeH F0 F) {vs : List Nat} (h : noOwn env0 vs = true) (e : ER P A (L2.wipe σ vs) H env F) : ER P A σ H (G.unwipe env0 env vs) F := by
  have hl : env.length = σ.length := e.len.trans (wipe_length σ vs)
  have out : ∀ i : Nat, i ∉ vs → (G.unwipe env0 env vs)[i]? = env[i]? ∧ (L2.wipe σ vs)[i]? = σ[i]? := fun i hi => ⟨by rw [unwipe_at, if_neg fun z => hi z.1], by rw [wipe_at, if_neg fun z => hi z.1]⟩
  have inn : ∀ (i : Nat) (z : EV), i ∈ vs → (G.unwipe env0 env vs)[i]? = some (some z) → env0[i]? = some (some z) := fun i z hi q => by
    rw [unwipe_at] at q
    by_cases c : i ∈ vs ∧ i < env.length
    · rw [if_pos c] at q
      cases w : env0[i]? with
      | none => rw [w] at q; cases q
      | some y => rw [w] at q; cases q; rfl
    · rw [if_neg c] at q
      have hb := (List.getElem?_eq_some_iff.mp q).1
      exact absurd ⟨hi, hb⟩ c
  have own : ∀ (i : Nat) (o : OV), ownish (G.unwipe env0 env vs)[i]? = some o → i ∉ vs ∧ ownish env[i]? = some o := fun i o q => by
    by_cases hi : i ∈ vs
    · have n := noOwn_at h hi
      rcases ownish_some q with z | z
      · rw [inn i _ hi z] at n; cases n
      · rw [inn i _ hi z] at n; cases n
    · rw [(out i hi).1] at q; exact ⟨hi, q⟩
  refine ⟨e.sub, e.le0, e.fr, by rw [unwipe_len]; exact hl, fun i d q => ?_, fun i o q => ?_, fun i j o u q1 q2 => e.ne i j o u (own i o q1).2 (own j u q2).2, fun i o q => ?_, fun i => ?_⟩
  · by_cases hi : i ∈ vs
    · obtain ⟨v, h1, h2⟩ := e0.val i d (inn i _ hi q)
      exact ⟨v, h1, Rep.mono m _ _ h2⟩
    · rw [(out i hi).1] at q
      rw [← (out i hi).2]
      exact e.val i d q
  · obtain ⟨hi, q⟩ := own i o q
    rw [← (out i hi).2]
    exact e.own i o q
  · by_cases hi : i ∈ vs
    · have n := noOwn_at h hi
      rw [inn i _ hi q] at n; cases n
    · rw [(out i hi).1] at q; exact e.bor i o q
  · by_cases hi : i ∈ vs
    · rw [e0.noB h i hi]
      constructor
      · intro z; cases z
      · rintro ⟨o, q⟩
        have n := noOwn_at h hi
        rw [inn i _ hi q] at n; cases n
    · rw [(out i hi).1]
      exact e.isb i
end
end G
/-! A6: comprehensions. -/
namespace G
open PySem PySem.Spec L2
theorem pe_ex {X : Cx} {e : Expr} {C : PP → Prop} {t : PP → TE} (h : ∀ P, C P → PE X e (t P)) : PE X e (fun σ H Q => ∃ P, C P ∧ t P σ H Q) := ⟨fun pins s σ H Q I ⟨P, c, q⟩ => (h P c).run pins s σ H Q I q⟩
theorem pts_ex {X : Cx} {e : List Expr} {C : PP → Prop} {t : PP → TT} (h : ∀ P, C P → PTs X e (t P)) : PTs X e (fun σ H Q => ∃ P, C P ∧ t P σ H Q) := ⟨fun pins s σ H Q I ⟨P, c, q⟩ => (h P c).run pins s σ H Q I q⟩
theorem pg_ex {X : Cx} {e : Expr} {C : PP → Prop} {t : PP → TG} (h : ∀ P, C P → PG X e (t P)) : PG X e (fun v σ H Q => ∃ P, C P ∧ t P v σ H Q) := ⟨fun pins s σ H v u Q I r ⟨P, c, q⟩ => (h P c).run pins s σ H v u Q I r q⟩
/-- one more object is someone else's -/
def PP.plus (P : PP) (D : Addr) (o : HO) : PP := { P with O := upd P.O D o }
section
variable {P : PP} {σ : L2.St} {H H' : Hp} {env : Env} {F F' : Hp}
theorem lent_out {p : Addr} {ds : List D} (e : EXv P σ H env F (.ref p) (.fr (.lst ds))) : ∃ vs, H p = some (.lst vs) ∧ Reps P.L F ds vs ∧ P.O p = none ∧ EX (P.plus p (.lst vs)) σ H env F := by
  obtain ⟨A, e, q, hq, ⟨hF, vs, hH, r⟩, hO, hn⟩ := e
  cases hq
  refine ⟨vs, hH, r, hO, A, ⟨e.sub, e.le0, fun a o z => ?_, e.len, e.val, fun i o z => ?_, e.ne, e.bor, e.isb⟩⟩
  · have z : upd P.O p (.lst vs) a = some o := z
    by_cases ha : a = p
    · subst ha
      rw [upd_same] at z
      cases z
      exact ⟨hH, hF⟩
    · rw [upd_ne ha] at z
      exact e.fr a o z
  · obtain ⟨h1, h2, h3⟩ := e.own i o z
    exact ⟨h1, h2, by show upd P.O p (.lst vs) (A i) = none; rw [upd_ne (hn i o z)]; exact h3⟩
theorem lent_in {p : Addr} {ds : List D} {vs ws : List V} (hO : P.O p = none) (e : EX (P.plus p (.lst vs)) σ H env F) (r : Reps P.L F ds ws) : H p = some (.lst vs) ∧ EXv P σ (upd H p (.lst ws)) env F (.ref p) (.fr (.lst ds)) := by
  obtain ⟨A, e⟩ := e
  obtain ⟨hH, hF⟩ := e.fr p (.lst vs) upd_same
  have na : ∀ (i : Nat) (o : OV), ownish env[i]? = some o → A i ≠ p := fun i o q z => by
    have := (e.own i o q).2.2
    rw [z] at this
    rw [show (P.plus p (.lst vs)).O p = some (.lst vs) from upd_same] at this
    cases this
  have nO : ∀ a o, P.O a = some o → a ≠ p := fun a o q z => by rw [z, hO] at q; cases q
  refine ⟨hH, A, ⟨fun a o q => ?_, e.le0, fun a o q => ?_, e.len, e.val, fun i o q => ?_, e.ne, e.bor, e.isb⟩, p, rfl, ⟨hF, ws, upd_same, r⟩, hO, na⟩
  · rw [upd_ne (fun z => by rw [z, hF] at q; cases q)]
    exact e.sub a o q
  · rw [upd_ne (nO a o q)]
    exact e.fr a o (by show upd P.O p (.lst vs) a = some o; rw [upd_ne (nO a o q)]; exact q)
  · obtain ⟨h1, h2, h3⟩ := e.own i o q
    refine ⟨h1, h2.step (LeH.refl F) h2.none (fun u z => by rw [upd_ne (na i o q)]; exact z), ?_⟩
    have h3 : upd P.O p (.lst vs) (A i) = none := h3
    rw [upd_ne (na i o q)] at h3
    exact h3
theorem EXv.wipe {v : V} {r : RV} {vs : List Nat} (e : EXv P σ H env F v r) (h : NoB P vs) : EXv P (L2.wipe σ vs) H (wipeE env vs) F v r := by
  obtain ⟨A, e, q⟩ := e
  refine ⟨A, e.wipe h, ?_⟩
  cases r with
  | val d => exact q
  | fr o =>
    obtain ⟨p, rfl, h1, h2, h3⟩ := q
    refine ⟨p, rfl, h1, h2, fun i u hu => ?_⟩
    have : ownish env[i]? = some u := by
      rw [wipeE_at] at hu
      by_cases c : i ∈ vs ∧ i < env.length
      · rw [if_pos c] at hu; cases hu
      · rw [if_neg c] at hu; exact hu
    exact h3 i u this
theorem EXv.unwipe {v : V} {r : RV} {vs : List Nat} {env0 : Env} {H0 F0 : Hp} (e0 : EX P σ H0 env0 F0) (m : LeH F0 F) (h : noOwn env0 vs = true) (e : EXv P (L2.wipe σ vs) H env F v r) : EXv P σ H (G.unwipe env0 env vs) F v r := by
  obtain ⟨A, e, q⟩ := e
  obtain ⟨A0, e0⟩ := e0
  refine ⟨A, e0.unwipe m h e, ?_⟩
  cases r with
  | val d => exact q
  | fr o =>
    obtain ⟨p, rfl, h1, h2, h3⟩ := q
    refine ⟨p, rfl, h1, h2, fun i u hu => ?_⟩
    by_cases hi : i ∈ vs
    · have n := noOwn_at h hi
      rw [unwipe_at] at hu
      by_cases c : i ∈ vs ∧ i < env.length
      · rw [if_pos c] at hu
        cases w : env0[i]? with
        | none => rw [w] at hu; cases hu
        | some y => rw [w] at hu n; rw [show ownish (some y) = some u from hu] at n; cases n
      · rw [if_neg c] at hu
        exact h3 i u hu
    · rw [unwipe_at, if_neg fun z => hi z.1] at hu
      exact h3 i u hu
end
section
variable {X : Cx} {P : PP} {Γ : Fns} {Xp : XP} {pos : Pos}
def XF : XP := fun _ _ => False
def tEx (Γ : Fns) (L : Lay) (m : E) : TE := fun σ H Q => ∃ P, P.L = L ∧ tE P Γ XF m σ H Q
def tTx (Γ : Fns) (L : Lay) (m : T) : TT := fun σ H Q => ∃ P, P.L = L ∧ tT P Γ XF m σ H Q
def gTx (L : Lay) (t : Tg) : TG := fun v σ H Q => ∃ P, P.L = L ∧ gT P t v σ H Q
theorem lc_imp {elt : E} {t : Tg} {it : I} {cond : T} {own : List Nat} (hs : ∀ i ∈ slots t, i ∈ own) {σ : L2.St} {H : Hp} {Q : VK} (h : tE P Γ Xp (.lc elt t it cond own) σ H Q) :
    tLc (tI P Γ Xp it) (gTx P.L t) (tTx Γ P.L cond) (tEx Γ P.L elt) own σ H Q := by
  obtain ⟨env, F, R, ex, w, k⟩ := h
  simp only [wE] at w
  refine ⟨env, F, _, ex, w, fun ds env1 H1 F1 J q m e hl hJ => ?_⟩
  obtain ⟨hno, q⟩ := q
  have nb : NoB P own := by obtain ⟨A, e⟩ := e; exact e.noB hno
  intro da hD
  generalize ht : (fun (d : D) (env2 : Env) (R : Option D → Env → Prop) => asg t d env2 fun env3 => wT Γ cond env3 (fun _ _ => False) fun b env4 =>
          if b = true then wE Γ elt env4 (fun _ _ => False) fun r env5 => R (some r.toD) (wipeE env5 own) else R none (wipeE env4 own)) = turn at q
  refine ⟨fun i m H => ∃ env' F' acc, m = ds.length - i ∧ i ≤ ds.length ∧ acc.length ≤ i ∧ LeH F1 F' ∧ EXv P (wipe σ own) H env' F' (.ref da) (.fr (.lst acc)) ∧
    lcW turn (fun acc env6 => R (.fr (.lst acc)) (unwipe env1 env6 own)) (ds.drop i) acc env', ⟨ds.length, _, F1, [], rfl, Nat.zero_le _, Nat.le_refl _, LeH.refl F1, (e.fresh (vs := []) (ds := []) hD rfl).wipe nb, q⟩, ?_⟩
  rintro i mm H2 ⟨env2, F2, acc, rfl, hi, hacc, m2, e2, q2⟩
  by_cases hlt : i < ds.length
  · refine .inr ?_
    have hd : ds[i]? = some ds[i] := List.getElem?_eq_getElem hlt
    rw [List.drop_eq_getElem_cons hlt] at q2
    simp only [lcW] at q2
    obtain ⟨vs, hH, rp, hO, e2'⟩ := lent_out e2
    obtain ⟨hgo, hy⟩ := hJ.2 i ds[i] hd F2 H2 m2 e2'.sub
    refine ⟨hgo, fun H' => ∃ env' F' acc, i + 1 ≤ ds.length ∧ acc.length ≤ i + 1 ∧ LeH F1 F' ∧ EXv P (wipe σ own) H' env' F' (.ref da) (.fr (.lst acc)) ∧ lcW turn (fun acc env6 => R (.fr (.lst acc)) (unwipe env1 env6 own)) (ds.drop (i + 1)) acc env',
      fun H' ⟨env', F', acc', a1, a2, a3, a4, a5⟩ => ⟨ds.length - (i + 1), by omega, env', F', acc', rfl, a1, a2, a3, a4, a5⟩, fun x H3 y => ?_⟩
    obtain ⟨F3, m3, s3, kp, rx⟩ := hy x H3 y
    have e3 : EX (P.plus da (.lst vs)) (wipe σ own) H3 env2 F3 := by
      obtain ⟨A, e⟩ := e2'
      refine ⟨A, s3, e.le0.trans m3, fun a o z => ?_, e.len, fun j d z => ?_, fun j o z => ?_, e.ne, e.bor, e.isb⟩
      · obtain ⟨h1, h2⟩ := e.fr a o z
        obtain ⟨h3, h4⟩ := kp a o h1
        exact ⟨h3, by rw [h4]; exact h2⟩
      · obtain ⟨v, h1, h2⟩ := e.val j d z
        exact ⟨v, h1, Rep.mono m3 _ _ h2⟩
      · obtain ⟨h1, h2, h3⟩ := e.own j o z
        obtain ⟨u, hu⟩ := h2.there
        obtain ⟨h4, h5⟩ := kp _ u hu
        exact ⟨h1, h2.step m3 (by rw [h5]; exact h2.none) (fun w z => by rw [hu] at z; cases z; exact h4), h3⟩
    rw [← ht] at q2
    refine ⟨P.plus da (.lst vs), rfl, env2, F3, ds[i], _, e3, rx, q2, fun σ4 env4 q4 e4 so => ?_⟩
    refine ⟨wipe_same so hs, P.plus da (.lst vs), rfl, env4, F3, _, e4, q4, fun b env5 H5 F5 q5 m5 e5 => ?_⟩
    have wp : wipe σ4 own = wipe σ own := wipe_same so hs
    cases b with
    | true =>
      dsimp only at q5
      rw [if_pos rfl] at q5
      refine iteT ?_
      refine ⟨P.plus da (.lst vs), rfl, env5, F5, _, e5, q5, fun r env6 y6 H6 F6 q6 m6 e6 => ?_⟩
      obtain ⟨F7, m7, r7, e7⟩ := e6.freeze
      obtain ⟨h1, h2⟩ := lent_in (ds := acc ++ [r.toD]) (ws := vs ++ [y6]) hO e7 (Reps.append (Reps.mono (((m3.trans m5).trans m6).trans m7) _ _ rp) ⟨y6, [], rfl, r7, rfl⟩)
      have hv : vs.length ≤ i := by rw [rp.length]; exact hacc
      refine ⟨vs, h1, by rw [← line_eq]; omega, wipeE env6 own, F7, acc ++ [r.toD], hlt, by rw [List.length_append, List.length_singleton]; omega, ((((m2.trans m3).trans m5).trans m6).trans m7), ?_, ?_⟩
      · rw [← wp]
        exact h2.wipe nb
      · rw [← ht]; exact q6
    | false =>
      dsimp only at q5
      rw [if_neg (by decide)] at q5
      refine iteF ?_
      obtain ⟨h1, h2⟩ := lent_in (ds := acc) (ws := vs) hO e5 (Reps.mono (m3.trans m5) _ _ rp)
      have hh : upd H5 da (.lst vs) = H5 := by
        funext b
        by_cases hb : b = da
        · rw [hb, upd_same, h1]
        · rw [upd_ne hb]
      rw [hh] at h2
      refine ⟨wipeE env5 own, F5, acc, hlt, by omega, (m2.trans m3).trans m5, ?_, ?_⟩
      · rw [← wp]
        exact h2.wipe nb
      · rw [← ht]; exact q5
  · have hi' : i = ds.length := by omega
    subst hi'
    rw [List.drop_length] at q2
    simp only [lcW] at q2
    refine .inl ⟨?_, ?_⟩
    · obtain ⟨vs, hH, rp, hO, e2'⟩ := lent_out e2
      obtain ⟨A, e⟩ := e2'
      exact hJ.1 H2 (m2.trans e.sub)
    · exact k _ _ _ H2 F2 q2 (m.trans m2) (EXv.unwipe e m2 hno e2)
end
end G
/-! A7: statements. -/
namespace G
open PySem PySem.Spec L2
structure KR (P : PP) (Dn : Ends) (k : K) : Prop where
  nx : ∀ σ' H' env' F', k.nx env' → EX P σ' H' env' F' → Dn.nx σ' H'
  rt : ∀ σ' r env' v H' F', k.rt r env' → EXv P σ' H' env' F' v r → Dn.rt v H'
  bk : ∀ σ' H' env' F', k.bk env' → EX P σ' H' env' F' → Dn.bk σ' H'
  ct : ∀ σ' H' env' F', k.ct env' → EX P σ' H' env' F' → Dn.ct σ' H'
def tS (P : PP) (Γ : Fns) (Xp : XP) (m : S) : TS := fun Dn σ H => ∃ env F k, EX P σ H env F ∧ wS Γ m env Xp k ∧ KR P Dn k
def tSs (P : PP) (Γ : Fns) (Xp : XP) (ms : List S) : TS := fun Dn σ H => ∃ env F k, EX P σ H env F ∧ wSs Γ ms env Xp k ∧ KR P Dn k
/-- P' says more than P -/
structure PLe (P' P : PP) : Prop where
  L : P'.L = P.L
  ex : ∀ A σ H env F, ER P' A σ H env F → ER P A σ H env F
theorem PLe.refl (P : PP) : PLe P P := ⟨rfl, fun _ _ _ _ _ h => h⟩
theorem PLe.trans {P Q R : PP} (a : PLe P Q) (b : PLe Q R) : PLe P R := ⟨a.L.trans b.L, fun A σ H env F h => b.ex A σ H env F (a.ex A σ H env F h)⟩
theorem PLe.F0 {P : PP} {F : Hp} (m : LeH P.F0 F) : PLe { P with F0 := F } P := ⟨rfl, fun A σ H env F' e => ⟨e.sub, m.trans e.le0, e.fr, e.len, e.val, e.own, e.ne, e.bor, e.isb⟩⟩
theorem PLe.plus {P : PP} {p : Addr} {o : HO} (h : P.O p = none) : PLe (P.plus p o) P := ⟨rfl, fun A σ H env F' e => ⟨e.sub, e.le0, fun a u q => e.fr a u (by
  show upd P.O p o a = some u
  rw [upd_ne (ne_of_none q h)]
  exact q), e.len, e.val, fun i u q => by
    obtain ⟨h1, h2, h3⟩ := e.own i u q
    refine ⟨h1, h2, ?_⟩
    have h3 : upd P.O p o (A i) = none := h3
    by_cases z : A i = p
    · rw [z]; exact h
    · rw [upd_ne z] at h3; exact h3, e.ne, e.bor, e.isb⟩⟩
theorem PLe.wx {P' P : PP} (h : PLe P' P) {Xp : XP} : ∀ c d σ H, WXo P' Xp c d σ H → WXo P Xp c d σ H := fun c d σ H ⟨env, F, x, ⟨A, e⟩, r, q⟩ => ⟨env, F, x, ⟨A, h.ex _ _ _ _ _ e⟩, by rw [← h.L]; exact r, q⟩

section
variable {X : Cx} {P : PP} {Γ : Fns} {Xp : XP} {pos : Pos} {x y z tg : Expr} {a b c : E}
/-- a slot is given a new object -/
theorem ER.setOwn {A : Nat → Addr} {σ : L2.St} {H : Hp} {env : Env} {F : Hp} (e : ER P A σ H env F) {i : Nat} {y : Option EV} (hy : env[i]? = some y) (nb : ∀ o, y ≠ some (.bor o)) {p : Addr} {o : OV} (hO : OwnAt P.L F H p o) (hP : P.O p = none)
    (hn : ∀ (j : Nat) (u : OV), ownish env[j]? = some u → A j ≠ p) : ER P (fun j => if j = i then p else A j) (σ.set i (some (.ref p))) H (env.set i (some (.own o))) F := by
  have hi : i < env.length := (List.getElem?_eq_some_iff.mp hy).1
  have hs : i < σ.length := by rw [← e.len]; exact hi
  have own : ∀ (j : Nat) (u : OV), i ≠ j → ownish (env.set i (some (.own o)))[j]? = some u → ownish env[j]? = some u := fun j u ij q => by rw [get_set_ne ij] at q; exact q
  refine ⟨e.sub, e.le0, e.fr, by rw [List.length_set, List.length_set]; exact e.len, fun j d' q => ?_, fun j u q => ?_, fun j k u w q1 q2 n => ?_, fun j u q => ?_, fun j => ?_⟩
  · have ij : i ≠ j := fun z => by subst z; rw [get_set_self hy] at q; cases q
    rw [get_set_ne ij] at q
    obtain ⟨w, h1, h2⟩ := e.val j d' q
    exact ⟨w, by rw [List.getElem?_set_ne ij]; exact h1, h2⟩
  · by_cases ij : i = j
    · subst ij
      rw [get_set_self hy] at q
      cases q
      rw [if_pos rfl]
      exact ⟨set_self hs, hO, hP⟩
    · rw [if_neg (Ne.symm ij), List.getElem?_set_ne ij]
      exact e.own j u (own j u ij q)
  · by_cases ij : j = i
    · by_cases ik : k = i
      · exact absurd (ij.trans ik.symm) n
      · rw [if_pos ij, if_neg ik]
        exact fun z => hn k w (own k w (Ne.symm ik) q2) z.symm
    · by_cases ik : k = i
      · rw [if_neg ij, if_pos ik]
        exact hn j u (own j u (Ne.symm ij) q1)
      · rw [if_neg ij, if_neg ik]
        exact e.ne j k u w (own j u (Ne.symm ij) q1) (own k w (Ne.symm ik) q2) n
  · have ij : i ≠ j := fun z => by subst z; rw [get_set_self hy] at q; cases q
    rw [get_set_ne ij] at q
    rw [if_neg (Ne.symm ij)]
    exact e.bor j u q
  · rw [e.isb j]
    by_cases ij : i = j
    · subst ij
      rw [get_set_self hy, hy]
      constructor
      · rintro ⟨u, q⟩; exact absurd (Option.some.inj q) (nb u)
      · rintro ⟨u, q⟩; cases q
    · rw [get_set_ne ij]
theorem EXv.set {σ : L2.St} {H : Hp} {env : Env} {F : Hp} {v : V} {r : RV} {i : Nat} {R : Env → Prop} (e : EXv P σ H env F v r) (h : setS env i r.toEV R) : ∃ env', R env' ∧ EX P (σ.set i (some v)) H env' F := by
  obtain ⟨y, hy, nb, h⟩ := setS_cases h
  obtain ⟨A, e, q⟩ := e
  cases r with
  | val d => exact ⟨_, h, A, e.setVal hy nb q⟩
  | fr o =>
    obtain ⟨p, rfl, h1, h2, h3⟩ := q
    exact ⟨_, h, _, e.setOwn hy nb h1 h2 h3⟩
theorem asg_imp {e : E} {i : Nat} {Dn : Ends} {σ : L2.St} {H : Hp} (h : tS P Γ Xp (.asg i e) Dn σ H) : tAsg (tE P Γ Xp e) (gName i) Dn σ H := by
  obtain ⟨env, F, k, ex, w, kr⟩ := h
  simp only [wS] at w
  refine ⟨env, F, _, ex, w, fun r env1 v H1 F1 q m e1 => ?_⟩
  obtain ⟨env2, q2, e2⟩ := e1.set q
  exact kr.nx _ H1 env2 F1 q2 e2
theorem s_asgT {t : Tg} (he : PE X x (tE P Γ Xp a)) (hg : PG X tg (gT P t)) (hs : swapsWithSole [tg] x pos.line X.env = pure false) (hw : swappedStores [tg] x X.env = pure none) (h1 : (assignEach [tg] X.env).map (·.2) = [assign tg X.env]) :
    PS X (.Assign [tg] x pos) (tS P Γ Xp (.asgT t a)) := ps_imp (ps_asg he hg hs hw h1) fun Dn σ H h => by
  obtain ⟨env, F, k, ex, w, kr⟩ := h
  simp only [wS] at w
  refine ⟨env, F, _, ex, w, fun r env1 v H1 F1 q m e1 => ?_⟩
  obtain ⟨F2, m2, rp, e2⟩ := e1.freeze
  exact ⟨env1, F2, _, _, e2, rp, q, fun σ' env' q' e' _ => kr.nx σ' H1 env' F2 q' e'⟩
theorem s_ex (he : PE X x (tE P Γ Xp a)) (hs : swapsWith x none pos.line X.env = pure false) : PS X (.Expr x pos) (tS P Γ Xp (.ex a)) := ps_imp (ps_expr he hs) fun Dn σ H h => by
  obtain ⟨env, F, k, ex, w, kr⟩ := h
  simp only [wS] at w
  exact ⟨env, F, _, ex, w, fun r env1 v H1 F1 q m e1 => kr.nx σ H1 env1 F1 q e1.ex⟩
theorem s_retV {i : Nat} (h : PE X x (tVar i)) : PS X (.Return (some x) pos) (tS P Γ Xp (.ret (.var i))) := ps_imp (ps_ret h) fun Dn σ H h => by
  obtain ⟨env, F, k, ⟨A, e⟩, w, kr⟩ := h
  simp only [wS] at w
  cases hx : env[i]? with
  | none => rw [hx] at w; exact w.elim
  | some y => cases y with
    | none => rw [hx] at w; exact w.elim
    | some z =>
      rw [hx] at w
      cases z with
      | val d =>
        obtain ⟨v, h1, h2⟩ := e.val i d hx
        exact ⟨v, h1, kr.rt σ _ _ v H F w ⟨A, e, h2⟩⟩
      | own o =>
        obtain ⟨h1, h2, h3⟩ := e.own i o (by rw [hx]; rfl)
        have own : ∀ (j : Nat) (u : OV), ownish (env.set i none)[j]? = some u → i ≠ j ∧ ownish env[j]? = some u := fun j u q => by
          by_cases ij : i = j
          · subst ij; rw [get_set_self hx] at q; cases q
          · rw [get_set_ne ij] at q; exact ⟨ij, q⟩
        have ni : ∀ (j : Nat) (z : EV), (env.set i none)[j]? = some (some z) → env[j]? = some (some z) := fun j z q => by
          by_cases ij : i = j
          · subst ij; rw [get_set_self hx] at q; cases q
          · rw [get_set_ne ij] at q; exact q
        refine ⟨_, h1, kr.rt σ _ _ _ H F w ⟨A, ⟨e.sub, e.le0, e.fr, by rw [List.length_set]; exact e.len, fun j d q => e.val j d (ni j _ q), fun j u q => e.own j u (own j u q).2, fun j k u z q1 q2 => e.ne j k u z (own j u q1).2 (own k z q2).2, fun j u q => e.bor j u (ni j _ q), fun j => ?_⟩, _, rfl, h2, h3, fun j u q => ?_⟩⟩
        · rw [e.isb j]
          by_cases ij : i = j
          · subst ij
            rw [get_set_self hx, hx]
            constructor
            · rintro ⟨u, q⟩; cases q
            · rintro ⟨u, q⟩; cases q
          · rw [get_set_ne ij]
        · obtain ⟨ij, q⟩ := own j u q
          exact e.ne j i u o q (by rw [hx]; rfl) (Ne.symm ij)
      | bor o => exact w.elim
theorem s_ret (hv : ∀ i, a ≠ .var i) (he : PE X x (tE P Γ Xp a)) : PS X (.Return (some x) pos) (tS P Γ Xp (.ret a)) := ps_imp (ps_ret he) fun Dn σ H h => by
  obtain ⟨env, F, k, ex, w, kr⟩ := h
  have w : wE Γ a env Xp k.rt := by
    cases a <;> first
      | exact absurd rfl (hv _)
      | exact w
  exact ⟨env, F, _, ex, w, fun r env1 v H1 F1 q m e1 => kr.rt σ r env1 v H1 F1 q e1⟩
theorem s_retN : PS X (.Return none pos) (tS P Γ Xp .retN) := ps_imp ps_retN fun Dn σ H h => by
  obtain ⟨env, F, k, ex, w, kr⟩ := h
  simp only [wS] at w
  exact kr.rt σ _ env .non H F w (ex.pure rfl)
theorem s_brk : PS X (.Break pos) (tS P Γ Xp .brk) := ps_imp ps_break fun Dn σ H h => by
  obtain ⟨env, F, k, ex, w, kr⟩ := h
  simp only [wS] at w
  exact kr.bk σ H env F w ex
theorem s_cnt : PS X (.Continue pos) (tS P Γ Xp .cnt) := ps_imp ps_continue fun Dn σ H h => by
  obtain ⟨env, F, k, ex, w, kr⟩ := h
  simp only [wS] at w
  exact kr.ct σ H env F w ex
theorem s_pass : PS X (.Pass pos) (tS P Γ Xp .pass) := ps_imp ps_pass fun Dn σ H h => by
  obtain ⟨env, F, k, ex, w, kr⟩ := h
  simp only [wS] at w
  exact kr.nx σ H env F w ex
theorem s_doc {s : Str} {j : Nat} {pos' : Pos} : PS X (.Expr (.Constant (.str s) j pos) pos') (tS P Γ Xp .pass) := ps_imp ps_doc fun Dn σ H h => by
  obtain ⟨env, F, k, ex, w, kr⟩ := h
  simp only [wS] at w
  exact kr.nx σ H env F w ex
theorem s_ite {t : T} {as bs : List S} {xs ys : List Stmt} (hc : PT X x (tT P Γ Xp t)) (ha : PSs X xs (tSs P Γ Xp as)) (hb : PSs X ys (tSs P Γ Xp bs)) : PS X (.If x xs ys pos) (tS P Γ Xp (.ite t as bs)) := ps_imp (ps_if hc ha hb) fun Dn σ H h => by
  obtain ⟨env, F, k, ex, w, kr⟩ := h
  simp only [wS] at w
  refine ⟨env, F, _, ex, w, fun b env1 H1 F1 q m e1 => ?_⟩
  cases b with
  | true => exact ⟨env1, F1, k, e1, q, kr⟩
  | false => exact ⟨env1, F1, k, e1, q, kr⟩
theorem ss_nil : PSs X [] (tSs P Γ Xp []) := pss_imp pss_nil fun Dn σ H h => by
  obtain ⟨env, F, k, ex, w, kr⟩ := h
  simp only [wSs] at w
  exact kr.nx σ H env F w ex
theorem ss_cons {s : Stmt} {ss : List Stmt} {m : S} {ms : List S} (h1 : PS X s (tS P Γ Xp m)) (h2 : PSs X ss (tSs P Γ Xp ms)) : PSs X (s :: ss) (tSs P Γ Xp (m :: ms)) := pss_imp (pss_cons h1 h2) fun Dn σ H h => by
  obtain ⟨env, F, k, ex, w, kr⟩ := h
  simp only [wSs] at w
  exact ⟨env, F, _, ex, w, ⟨fun σ' H' env' F' q e => ⟨env', F', k, e, q, kr⟩, kr.rt, kr.bk, kr.ct⟩⟩
theorem pss_ex {e : List Stmt} {C : PP → Prop} {t : PP → TS} (h : ∀ P, C P → PSs X e (t P)) : PSs X e (fun Dn σ H => ∃ P, C P ∧ t P Dn σ H) := ⟨fun pins s σ H Dn I ⟨P, c, q⟩ => (h P c).run pins s σ H Dn I q⟩
theorem s_for {t : Tg} {it : I} {body : List S} {xs : List Stmt} (hp : PassesOwn (model X.prog X.w) X.A X.env X.xe) (hc : X.calm = true) (hi : PI X tg x (tI P Γ Xp it)) (hg : ∀ P', PLe P' P → PG X tg (gT P' t)) (hb : ∀ P', PLe P' P → PSs X xs (tSs P' Γ Xp body))
    (hs : ∀ u, foldedSetIterable x X.env u = pure u) : PS X (.For tg x xs [] pos) (tS P Γ Xp (.for_ t it body)) :=
  ps_imp (ps_for hp hc hi (pg_ex (C := fun P' => PLe P' P) (t := fun P' => gT P' t) hg) (pss_ex (C := fun P' => PLe P' P) (t := fun P' => tSs P' Γ Xp body) hb) hs) fun Dn σ H h => by
  obtain ⟨env, F, k, ex, w, kr⟩ := h
  simp only [wS] at w
  refine ⟨env, F, _, ex, w, fun ds env1 H1 F1 J q m e1 hl hJ => ?_⟩
  have pl : PLe { P with F0 := F1 } P := by obtain ⟨A, e⟩ := e1; exact PLe.F0 e.le0
  have e1' : EX { P with F0 := F1 } σ H1 env1 F1 := by
    obtain ⟨A, e⟩ := e1
    exact ⟨A, e.sub, LeH.refl F1, e.fr, e.len, e.val, e.own, e.ne, e.bor, e.isb⟩
  generalize ht : (fun (d : D) (env2 : Env) (R : Env → Prop) => asg t d env2 fun env3 => wSs Γ body env3 Xp { k with nx := R, ct := R, bk := k.nx }) = turn at q
  refine ⟨fun i m σ H => ∃ env' F', m = ds.length - i ∧ i ≤ ds.length ∧ EX { P with F0 := F1 } σ H env' F' ∧ forW turn k.nx (ds.drop i) env', ⟨ds.length, env1, F1, rfl, Nat.zero_le _, e1', q⟩, ?_⟩
  rintro i mm σ2 H2 ⟨env2, F2, rfl, hi2, e2, q2⟩
  have m2 : LeH F1 F2 := by obtain ⟨A, e⟩ := e2; exact e.le0
  by_cases hlt : i < ds.length
  · refine .inr ?_
    have hd : ds[i]? = some ds[i] := List.getElem?_eq_getElem hlt
    rw [List.drop_eq_getElem_cons hlt] at q2
    simp only [forW] at q2
    obtain ⟨hgo, hy⟩ := hJ.2 i ds[i] hd F2 H2 m2 e2.sub
    refine ⟨hgo, fun σ' H' => ∃ env' F', i + 1 ≤ ds.length ∧ EX { P with F0 := F1 } σ' H' env' F' ∧ forW turn k.nx (ds.drop (i + 1)) env', fun σ' H' ⟨env', F', a1, a2, a3⟩ => ⟨ds.length - (i + 1), by omega, env', F', rfl, a1, a2, a3⟩, fun v H3 y => ?_⟩
    obtain ⟨F3, m3, s3, kp, rx⟩ := hy v H3 y
    have e3 : EX { P with F0 := F1 } σ2 H3 env2 F3 := by
      obtain ⟨A, e⟩ := e2
      refine ⟨A, s3, e.le0.trans m3, fun a o z => ?_, e.len, fun j d z => ?_, fun j o z => ?_, e.ne, e.bor, e.isb⟩
      · obtain ⟨h1, h2⟩ := e.fr a o z
        obtain ⟨h3, h4⟩ := kp a o h1
        exact ⟨h3, by rw [h4]; exact h2⟩
      · obtain ⟨v, h1, h2⟩ := e.val j d z
        exact ⟨v, h1, Rep.mono m3 _ _ h2⟩
      · obtain ⟨h1, h2, h3⟩ := e.own j o z
        obtain ⟨u, hu⟩ := h2.there
        obtain ⟨h4, h5⟩ := kp _ u hu
        exact ⟨h1, h2.step m3 (by rw [h5]; exact h2.none) (fun w z => by rw [hu] at z; cases z; exact h4), h3⟩
    rw [← ht] at q2
    refine ⟨{ P with F0 := F1 }, pl, env2, F3, ds[i], _, e3, rx, q2, fun σ4 env4 q4 e4 so => ?_⟩
    refine ⟨{ P with F0 := F1 }, pl, env4, F3, _, e4, q4, ⟨fun σ' H' env' F' q e => ?_, fun σ' r env' v H' F' q e => ?_, fun σ' H' env' F' q e => ?_, fun σ' H' env' F' q e => ?_⟩⟩
    · exact ⟨env', F', hlt, e, by rw [← ht]; exact q⟩
    · obtain ⟨A, e, rv⟩ := e
      refine kr.rt σ' r env' v H' F' q ⟨A, pl.ex _ _ _ _ _ e, ?_⟩
      cases r with
      | val d => exact rv
      | fr o => exact rv
    · obtain ⟨A, e⟩ := e
      exact kr.nx σ' H' env' F' q ⟨A, pl.ex _ _ _ _ _ e⟩
    · exact ⟨env', F', hlt, e, by rw [← ht]; exact q⟩
  · have hi' : i = ds.length := by omega
    subst hi'
    rw [List.drop_length] at q2
    simp only [forW] at q2
    obtain ⟨A, e⟩ := e2
    exact .inl ⟨hJ.1 H2 (m2.trans e.sub), kr.nx σ2 H2 env2 F2 q2 ⟨A, pl.ex _ _ _ _ _ e⟩⟩
theorem s_while {t : T} {body : List S} {xs : List Stmt} (hp : PassesOwn (model X.prog X.w) X.A X.env X.xe) (hc : PT X x (tT P Γ Xp t)) (hb : PSs X xs (tSs P Γ Xp body)) : PS X (.While x xs [] pos) (tS P Γ Xp (.while_ t body)) := ps_imp (ps_while hp hc hb) fun Dn σ H h => by
  obtain ⟨env, F, k, ex, w, kr⟩ := h
  simp only [wS] at w
  obtain ⟨n, w⟩ := w
  generalize ht : (fun (env2 : Env) (R : Env → Prop) => wT Γ t env2 Xp fun b env3 => if b = true then wSs Γ body env3 Xp { k with nx := R, ct := R, bk := k.nx } else k.nx env3) = turn at w
  refine ⟨fun n σ H => ∃ env F, EX P σ H env F ∧ whileW turn n env, ⟨n, env, F, ex, w⟩, ?_⟩
  rintro m σ2 H2 ⟨env2, F2, e2, w2⟩
  cases m with
  | zero => exact w2.elim
  | succ m =>
    simp only [whileW] at w2
    have w3 : wT Γ t env2 Xp fun b env3 => if b = true then wSs Γ body env3 Xp { k with nx := whileW turn m, ct := whileW turn m, bk := k.nx } else k.nx env3 := by
      rw [← ht] at w2 ⊢
      exact w2
    refine ⟨env2, F2, _, e2, w3, fun b env3 H3 F3 q3 m3 e3 => ?_⟩
    cases b with
    | true =>
      exact iteT ⟨fun σ' H' => ∃ env F, EX P σ' H' env F ∧ whileW turn m env, fun σ' H' ⟨env, F, e, w⟩ => ⟨m, Nat.lt_succ_self m, env, F, e, w⟩, env3, F3, { k with nx := whileW turn m, ct := whileW turn m, bk := k.nx }, e3, by simpa using q3,
        ⟨fun σ' H' env' F' q e => ⟨env', F', e, q⟩, kr.rt, kr.nx, fun σ' H' env' F' q e => ⟨env', F', e, q⟩⟩⟩
    | false => exact iteF (kr.nx _ H3 env3 F3 (by simpa using q3) e3)
end
end G
/-! A8: stores at an index, several targets at once. -/
namespace G
open PySem PySem.Spec L2
section
variable {X : Cx} {P : PP} {Γ : Fns} {Xp : XP} {pos : Pos} {x y z tg : Expr} {a b c : E}
/-- one's own object changes -/
theorem ER.write {A : Nat → Addr} {σ : L2.St} {H : Hp} {env : Env} {F : Hp} (e : ER P A σ H env F) {i : Nat} {z : EV} {o o' : OV} (hz : env[i]? = some (some z)) (ho : ownish (some (some z)) = some o) {u : HO} (h' : OwnAt P.L F (upd H (A i) u) (A i) o') :
    ER P A σ (upd H (A i) u) (env.set i (some (z.put o'))) F := by
  have hoo : ownish env[i]? = some o := by rw [hz]; exact ho
  obtain ⟨q1, q2, q3⟩ := e.own i o hoo
  have put : ownish (some (some (z.put o'))) = some o' := by cases z <;> rfl
  have own : ∀ (j : Nat) (w : OV), ownish (env.set i (some (z.put o')))[j]? = some w → ∃ w', ownish env[j]? = some w' := fun j w q => by
    by_cases ij : i = j
    · subst ij; exact ⟨o, hoo⟩
    · rw [get_set_ne ij] at q; exact ⟨w, q⟩
  refine ⟨fun a w q => ?_, e.le0, fun a w q => ?_, by rw [List.length_set]; exact e.len, fun j d q => ?_, fun j w q => ?_, fun j k w w' h1 h2 n => ?_, fun j w q => ?_, fun j => ?_⟩
  · rw [upd_ne (fun z => by rw [z, q2.none] at q; cases q)]
    exact e.sub a w q
  · rw [upd_ne (fun z => by rw [z, q3] at q; cases q)]
    exact e.fr a w q
  · have ij : i ≠ j := fun zz => by
      subst zz
      rw [get_set_self hz] at q
      cases z <;> cases q
    rw [get_set_ne ij] at q
    exact e.val j d q
  · by_cases ij : i = j
    · subst ij
      rw [get_set_self hz, put] at q
      cases q
      exact ⟨q1, h', q3⟩
    · rw [get_set_ne ij] at q
      obtain ⟨h1, h2, h3⟩ := e.own j w q
      refine ⟨h1, h2.step (LeH.refl F) h2.none (fun u hu => ?_), h3⟩
      rw [upd_ne (e.ne j i w o q hoo (Ne.symm ij))]
      exact hu
  · obtain ⟨a1, h1⟩ := own j w h1
    obtain ⟨a2, h2⟩ := own k w' h2
    exact e.ne j k a1 a2 h1 h2 n
  · by_cases ij : i = j
    · subst ij
      rw [get_set_self hz] at q
      cases z with
      | val d => cases q
      | own w => cases q
      | bor w => exact e.bor i w hz
    · rw [get_set_ne ij] at q
      exact e.bor j w q
  · rw [e.isb j]
    by_cases ij : i = j
    · subst ij
      rw [get_set_self hz, hz]
      cases z with
      | val d => cases ho
      | own w =>
        constructor
        · rintro ⟨u, q⟩; cases q
        · rintro ⟨u, q⟩; cases q
      | bor w => exact ⟨fun _ => ⟨o', rfl⟩, fun _ => ⟨w, rfl⟩⟩
    · rw [get_set_ne ij]
theorem EX.slot {σ : L2.St} {H : Hp} {env : Env} {F : Hp} (e : EX P σ H env F) {i : Nat} {z : EV} (h : env[i]? = some (some z)) : ∃ v, σ[i]? = some (some v) := by
  obtain ⟨A, e⟩ := e
  cases z with
  | val d => obtain ⟨v, h, _⟩ := e.val i d h; exact ⟨v, h⟩
  | own o => exact ⟨_, (e.own i o (by rw [h]; rfl)).1⟩
  | bor o => exact ⟨_, (e.own i o (by rw [h]; rfl)).1⟩
theorem put_core {σ : L2.St} {H : Hp} {env : Env} {F : Hp} {i : Nat} {n : Int} {d : D} {v w : V} {R : Env → Prop} {Q : Hp → Prop} (e : EX P σ H env F) (hs : σ[i]? = some (some w)) (r : Rep P.L F d v) (h : putW env i n d R) (k : ∀ H' env', R env' → EX P σ H' env' F → Q H') :
    rSetL w (.int n) v H Q := by
  obtain ⟨A, e⟩ := e
  have go : ∀ (z : EV) (xs : List D) (j : Nat), env[i]? = some (some z) → ownish (some (some z)) = some (.lst xs) → ixN xs.length n = some j → R (env.set i (some (z.put (.lst (xs.set j d))))) → rSetL w (.int n) v H Q := fun z xs j hz ho hj q => by
    obtain ⟨h1, h2, h3⟩ := e.own i (.lst xs) (by rw [hz]; exact ho)
    rw [hs] at h1
    cases h1
    obtain ⟨hF, vs, hH, rp⟩ := id h2
    refine ⟨_, vs, n, j, rfl, rfl, hH, by rw [rp.length]; exact hj, k _ _ q ⟨A, e.write hz ho ⟨hF, _, upd_same, Reps.set r j rp⟩⟩⟩
  unfold putW at h
  split at h
  · obtain ⟨j, hj, q⟩ := h
    exact go (.own (.lst _)) _ j (by assumption) rfl hj q
  · obtain ⟨j, hj, q⟩ := h
    exact go (.bor (.lst _)) _ j (by assumption) rfl hj q
  · exact h.elim
/-- name[ix] = e -/
theorem s_put {i : Nat} {tpos : Pos} (ho : PE X z (tVar i)) (hi : PE X x (tO P Γ Xp b)) (he : PE X y (tE P Γ Xp a)) (hg : PG X (.Subscript z x tpos) (gSub (tVar i) (tO P Γ Xp b) rSetL))
    (hs : swapsWithSole [.Subscript z x tpos] y pos.line X.env = pure false) (hw : swappedStores [.Subscript z x tpos] y X.env = pure none) (h1 : (assignEach [.Subscript z x tpos] X.env).map (·.2) = [assign (.Subscript z x tpos) X.env]) :
    PS X (.Assign [.Subscript z x tpos] y pos) (tS P Γ Xp (.put i b a)) := ps_imp (ps_asg he hg hs hw h1) fun Dn σ H h => by
  obtain ⟨env, F, k, ex, w, kr⟩ := h
  simp only [wS] at w
  refine ⟨env, F, _, ex, w, fun r env1 v H1 F1 q m e1 => ?_⟩
  obtain ⟨F2, m2, rp, e2⟩ := e1.freeze
  cases hx : env1[i]? with
  | none => rw [hx] at q; exact q.elim
  | some yy => cases yy with
    | none => rw [hx] at q; exact q.elim
    | some zz =>
      rw [hx] at q
      obtain ⟨w', hw'⟩ := e2.slot hx
      refine ⟨w', hw', env1, F2, _, e2, q, fun o env3 v3 H3 F3 q3 m3 e3 p3 => ?_⟩
      generalize hr : res env3 o = d3 at q3
      split at q3
      · rw [(e3.res p3 hr).int]
        exact put_core e3 hw' (Rep.mono m3 _ _ rp) q3 fun H' env' q' e' => kr.nx σ H' env' F3 q' e'
      · exact q3.elim

/-! ### several answers at once -/
def fra : List V → List RV → List Addr
  | v :: vs, .fr _ :: rs => adr v :: fra vs rs
  | _ :: vs, .val _ :: rs => fra vs rs
  | _, _ => []
def EXs (P : PP) (σ : L2.St) (H : Hp) (env : Env) (F : Hp) (vs : List V) (rs : List RV) : Prop := ∃ A, ER P A σ H env F ∧ Paired (RVr P A H env F) vs rs ∧ (fra vs rs).Nodup
def tRs (P : PP) (Γ : Fns) (Xp : XP) (ms : List E) : TA := fun σ H Q => ∃ env F R, EX P σ H env F ∧ wRs Γ ms env Xp R ∧ ∀ rs env' vs H' F', R rs env' → LeH F F' → EXs P σ H' env' F' vs rs → vs.length = ms.length → Q vs H'
theorem pa_ex {es : List Expr} {C : PP → Prop} {t : PP → TA} (h : ∀ P, C P → PA X es (t P)) : PA X es (fun σ H Q => ∃ P, C P ∧ t P σ H Q) := ⟨fun pos pins s σ H Q I ⟨P, c, q⟩ => (h P c).run pos pins s σ H Q I q⟩
theorem rs_nil : PA X [] (tRs P Γ Xp []) := pa_imp pa_nil fun σ H Q h => by
  obtain ⟨env, F, R, ⟨A, e⟩, w, k⟩ := h
  simp only [wRs] at w
  exact k _ _ _ H F w (LeH.refl F) ⟨A, e, .nil, by simp [fra]⟩ rfl
theorem fra_mem {A : Nat → Addr} {H : Hp} {env : Env} {F : Hp} {q : Addr} : ∀ {vs : List V} {rs : List RV}, Paired (RVr P A H env F) vs rs → q ∈ fra vs rs → P.O q = none ∧ (∃ u, H q = some u) ∧ F q = none
  | _, _, .nil, h => by simp [fra] at h
  | v :: vs, .val d :: rs, .cons _ t, h => by
    simp only [fra] at h
    exact fra_mem t h
  | v :: vs, .fr o :: rs, .cons p t, h => by
    simp only [fra] at h
    obtain ⟨p', rfl, h1, h2, h3⟩ := p
    rcases List.mem_cons.mp h with e | h
    · rw [show q = p' from e]
      exact ⟨h2, h1.there, h1.none⟩
    · exact fra_mem t h
theorem EXv.lend {σ : L2.St} {H : Hp} {env : Env} {F : Hp} {p : Addr} {o : OV} (e : EXv P σ H env F (.ref p) (.fr o)) : ∃ u, H p = some u ∧ P.O p = none ∧ OwnAt P.L F H p o ∧ EX (P.plus p u) σ H env F := by
  obtain ⟨A, e, q, hq, hO, hP, hn⟩ := e
  cases hq
  obtain ⟨u, hu⟩ := hO.there
  refine ⟨u, hu, hP, hO, A, ⟨e.sub, e.le0, fun a w z => ?_, e.len, e.val, fun i w z => ?_, e.ne, e.bor, e.isb⟩⟩
  · have z : upd P.O p u a = some w := z
    by_cases ha : a = p
    · subst ha
      rw [upd_same] at z
      cases z
      exact ⟨hu, hO.none⟩
    · rw [upd_ne ha] at z
      exact e.fr a w z
  · obtain ⟨h1, h2, h3⟩ := e.own i w z
    exact ⟨h1, h2, by show upd P.O p u (A i) = none; rw [upd_ne (hn i w z)]; exact h3⟩
theorem rs_cons {es : List Expr} {ms : List E} (he : PE X x (tE P Γ Xp a)) (hr : ∀ P', PLe P' P → PA X es (tRs P' Γ Xp ms)) (hs : starEach (x :: es) X.env = (false, eval x X.env) :: starEach es X.env) : PA X (x :: es) (tRs P Γ Xp (a :: ms)) :=
  pa_imp (pa_cons he (pa_ex (C := fun P' => PLe P' P) (t := fun P' => tRs P' Γ Xp ms) hr) hs) fun σ H Q h => by
  obtain ⟨env, F, R, ex, w, k⟩ := h
  simp only [wRs] at w
  refine ⟨env, F, _, ex, w, fun r env1 v1 H1 F1 w1 m1 e1 => ?_⟩
  cases r with
  | val d =>
    obtain ⟨A1, e1, r1⟩ := e1
    refine ⟨P, PLe.refl P, env1, F1, _, ⟨A1, e1⟩, w1, fun rs env2 vs H2 F2 w2 m2 e2 l2 => ?_⟩
    obtain ⟨A, e2, p2, nd⟩ := e2
    exact k _ _ _ H2 F2 w2 (m1.trans m2) ⟨A, e2, .cons (Rep.mono m2 _ _ r1) p2, nd⟩ (by rw [List.length_cons, List.length_cons, l2])
  | fr o =>
    have hv : ∃ p, v1 = .ref p := by obtain ⟨_, _, p, e, _⟩ := e1; exact ⟨p, e⟩
    obtain ⟨p, rfl⟩ := hv
    obtain ⟨u, hu, hP, hO, e1'⟩ := e1.lend
    refine ⟨P.plus p u, PLe.plus hP, env1, F1, _, e1', w1, fun rs env2 vs H2 F2 w2 m2 e2 l2 => ?_⟩
    obtain ⟨A, e2, p2, nd⟩ := e2
    obtain ⟨h2, h3⟩ := e2.fr p u upd_same
    have nO : ∀ q, (P.plus p u).O q = none → q ≠ p := fun q z e => by
      rw [e, show (P.plus p u).O p = some u from upd_same] at z
      cases z
    refine k _ _ _ H2 F2 w2 (m1.trans m2) ⟨A, (PLe.plus hP).ex _ _ _ _ _ e2, .cons ⟨p, rfl, hO.step m2 h3 (fun w z => by rw [hu] at z; cases z; exact h2), hP, fun i w z => nO _ (e2.own i w z).2.2⟩ (Paired.mapP p2 fun v r q => ?_), ?_⟩ (by rw [List.length_cons, List.length_cons, l2])
    · cases r with
      | val d => exact q
      | fr o' =>
        obtain ⟨q', rfl, q1, q2, q3⟩ := q
        refine ⟨q', rfl, q1, ?_, q3⟩
        have z := nO q' q2
        have q2 : upd P.O p u q' = none := q2
        rw [upd_ne z] at q2
        exact q2
    · simp only [fra]
      rw [List.nodup_cons]
      exact ⟨fun z => nO p (fra_mem p2 z).1 rfl, nd⟩
def setSt (σ : L2.St) : List Nat → List V → L2.St
  | i :: is, v :: vs => setSt (σ.set i (some v)) is vs
  | _, _ => σ
theorem EXs.one {σ : L2.St} {H : Hp} {env : Env} {F : Hp} {v : V} {vs : List V} {r : RV} {rs : List RV} {i : Nat} {R : Env → Prop} (e : EXs P σ H env F (v :: vs) (r :: rs)) (h : setS env i r.toEV R) : ∃ env', R env' ∧ EXs P (σ.set i (some v)) H env' F vs rs := by
  obtain ⟨y, hy, nb, h⟩ := setS_cases h
  obtain ⟨A, e, p, nd⟩ := e
  cases p with
  | cons q t =>
    cases r with
    | val d =>
      refine ⟨_, h, A, e.setVal hy nb q, Paired.mapP t fun v r z => ?_, nd⟩
      cases r with
      | val d => exact z
      | fr o =>
        obtain ⟨q', e1, q1, q2, q3⟩ := z
        refine ⟨q', e1, q1, q2, fun j u hj => ?_⟩
        by_cases ij : i = j
        · subst ij; rw [get_set_self hy] at hj; cases hj
        · rw [get_set_ne ij] at hj; exact q3 j u hj
    | fr o =>
      obtain ⟨p, rfl, h1, h2, h3⟩ := q
      simp only [fra, List.nodup_cons] at nd
      have go : ∀ {vs : List V} {rs : List RV}, Paired (RVr P A H env F) vs rs → p ∉ fra vs rs → Paired (RVr P (fun j => if j = i then p else A j) H (env.set i (some (.own o))) F) vs rs := by
        intro vs rs t
        induction t with
        | nil => intro _; exact .nil
        | @cons v r vs rs z t ih =>
          intro np
          cases r with
          | val d => exact .cons z (ih np)
          | fr o' =>
            simp only [fra, List.mem_cons, not_or] at np
            obtain ⟨q', rfl, q1, q2, q3⟩ := z
            refine .cons ⟨q', rfl, q1, q2, fun j u hj => ?_⟩ (ih np.2)
            show (if j = i then p else A j) ≠ q'
            by_cases ij : j = i
            · rw [if_pos ij]; exact np.1
            · rw [if_neg ij]
              rw [get_set_ne (Ne.symm ij)] at hj
              exact q3 j u hj
      exact ⟨_, h, _, e.setOwn hy nb h1 h2 h3, go t nd.1, nd.2⟩
theorem EXs.all {H : Hp} {F : Hp} {R : Env → Prop} : ∀ {is : List Nat} {vs : List V} {rs : List RV} {σ : L2.St} {env : Env}, EXs P σ H env F vs rs → setAll env is rs R → ∃ env', R env' ∧ EX P (setSt σ is vs) H env' F
  | [], _, [], σ, env, ⟨A, e, p, _⟩, h => by
    simp only [setAll] at h
    exact ⟨env, h, A, e⟩
  | [], _, _ :: _, _, _, _, h => by simp only [setAll] at h
  | _ :: _, _, [], _, _, _, h => by simp only [setAll] at h
  | i :: is, [], r :: rs, _, _, ⟨_, _, p, _⟩, _ => nomatch p
  | i :: is, v :: vs, r :: rs, σ, env, e, h => by
    simp only [setAll] at h
    obtain ⟨env1, h1, e1⟩ := e.one h
    have fin := EXs.all e1 h1
    exact fin
theorem par_imp {is : List Nat} {ms : List E} {Dn : Ends} {σ : L2.St} {H : Hp} (h : tS P Γ Xp (.par is ms) Dn σ H) : tRs P Γ Xp ms σ H fun vs H1 => vs.length = ms.length ∧ Dn.nx (setSt σ is vs) H1 := by
  obtain ⟨env, F, k, ex, w, kr⟩ := h
  simp only [wS] at w
  refine ⟨env, F, _, ex, w, fun rs env1 vs H1 F1 q m e1 l => ⟨l, ?_⟩⟩
  obtain ⟨env2, q2, e2⟩ := e1.all q
  exact kr.nx _ H1 env2 F1 q2 e2
theorem tRs_mono {ms : List E} {σ : L2.St} {H : Hp} {Q Q' : List V → Hp → Prop} (h : tRs P Γ Xp ms σ H Q) (m : ∀ vs H, Q vs H → Q' vs H) : tRs P Γ Xp ms σ H Q' := by
  obtain ⟨env, F, R, ex, w, k⟩ := h
  exact ⟨env, F, R, ex, w, fun rs env' vs H' F' q mm e l => m _ _ (k rs env' vs H' F' q mm e l)⟩
theorem len2 {α : Type} {xs : List α} (h : xs.length = 2) : ∃ a b, xs = [a, b] := by
  match xs, h with
  | [a, b], _ => exact ⟨a, b, rfl⟩
theorem len3 {α : Type} {xs : List α} (h : xs.length = 3) : ∃ a b c, xs = [a, b, c] := by
  match xs, h with
  | [a, b, c], _ => exact ⟨a, b, c, rfl⟩
theorem s_par2 {i j : Nat} {g1 g2 : Str} {ms : List E} {px py pt : Pos} {kt k2 pt2} (hc : X.calm = true) (hN : X.N.Nodup) (hi : X.N[i]? = some g1) (hj : X.N[j]? = some g2) (hij : i ≠ j) (hx : X.env.scope.names.lookup g1 = some .local) (hy : X.env.scope.names.lookup g2 = some .local) (ha : PA X [x, y] (tRs P Γ Xp ms)) (hl : ms.length = 2)
    (hw : swappedStores [.Tuple [.Name g1 px, .Name g2 py] kt pt] (.Tuple [x, y] k2 pt2) X.env = pure (some [g1, g2])) (hs : swapsWithSole [.Tuple [.Name g1 px, .Name g2 py] kt pt] (.Tuple [x, y] k2 pt2) pos.line X.env = pure false) :
    PS X (.Assign [.Tuple [.Name g1 px, .Name g2 py] kt pt] (.Tuple [x, y] k2 pt2) pos) (tS P Γ Xp (.par [i, j] ms)) := ps_imp (ps_par hc hN hi hj hij hx hy ha hw hs) fun Dn σ H h => tRs_mono (par_imp h) fun vs H1 ⟨l, q⟩ => by
  obtain ⟨v1, v2, rfl⟩ := len2 (l.trans hl)
  exact ⟨_, _, rfl, q⟩
theorem s_par3 {i j l : Nat} {g1 g2 g3 : Str} {ms : List E} {px py pz pt : Pos} {kt k2 pt2} (hc : X.calm = true) (hN : X.N.Nodup) (hi : X.N[i]? = some g1) (hj : X.N[j]? = some g2) (hll : X.N[l]? = some g3) (hij : i ≠ j) (hil : i ≠ l) (hjl : j ≠ l)
    (hx : X.env.scope.names.lookup g1 = some .local) (hy : X.env.scope.names.lookup g2 = some .local) (hz : X.env.scope.names.lookup g3 = some .local) (ha : PA X [x, y, z] (tRs P Γ Xp ms)) (hl : ms.length = 3)
    (hw : swappedStores [.Tuple [.Name g1 px, .Name g2 py, .Name g3 pz] kt pt] (.Tuple [x, y, z] k2 pt2) X.env = pure (some [g1, g2, g3])) (hs : swapsWithSole [.Tuple [.Name g1 px, .Name g2 py, .Name g3 pz] kt pt] (.Tuple [x, y, z] k2 pt2) pos.line X.env = pure false) :
    PS X (.Assign [.Tuple [.Name g1 px, .Name g2 py, .Name g3 pz] kt pt] (.Tuple [x, y, z] k2 pt2) pos) (tS P Γ Xp (.par [i, j, l] ms)) := ps_imp (ps_par3 hc hN hi hj hll hij hil hjl hx hy hz ha hw hs) fun Dn σ H h => tRs_mono (par_imp h) fun vs H1 ⟨l', q⟩ => by
  obtain ⟨v1, v2, v3, rfl⟩ := len3 (l'.trans hl)
  exact ⟨_, _, _, rfl, q⟩
/-- names one after another -/
def gNs (is : List Nat) : TGs := fun vs σ H Q => vs.length = is.length ∧ Q (setSt σ is vs) H
theorem gn_nil : PGs X [] (gNs []) := pgs_imp pgs_nil fun vs σ H Q h => by
  obtain ⟨h, q⟩ := h
  cases vs with
  | nil => exact ⟨rfl, q⟩
  | cons _ _ => cases h
theorem gn_cons {es : List Expr} {i : Nat} {is : List Nat} (h1 : PG X x (gName i)) (h2 : PGs X es (gNs is)) (hs : (assignEach (x :: es) X.env).map (·.2) = assign x X.env :: (assignEach es X.env).map (·.2)) : PGs X (x :: es) (gNs (i :: is)) := pgs_imp (pgs_cons h1 h2 hs) fun vs σ H Q h => by
  obtain ⟨h, q⟩ := h
  cases vs with
  | nil => cases h
  | cons v vs => exact ⟨v, vs, rfl, by simpa using h, q⟩
theorem EXs.grow {σ : L2.St} {H H' : Hp} {env : Env} {F : Hp} {vs : List V} {rs : List RV} (e : EXs P σ H env F vs rs) (k : ∀ a o, H a = some o → H' a = some o) : EXs P σ H' env F vs rs := by
  obtain ⟨A, e, p, nd⟩ := e
  refine ⟨A, e.grow k, Paired.mapP p fun v r q => ?_, nd⟩
  cases r with
  | val d => exact q
  | fr o =>
    obtain ⟨q', e1, q1, q2⟩ := q
    exact ⟨q', e1, q1.step (LeH.refl F) q1.none (fun u z => k _ u z), q2⟩
theorem s_parT {is : List Nat} {ts es : List Expr} {ms : List E} {kt k2 : Nat} {pt pt2 : Pos} (hc : X.calm = true) (ha : PA X es (tRs P Γ Xp ms)) (hg : PGs X ts (gNs is)) (hl : ms.length ≤ 1000) (hl2 : is.length = ms.length) (hl3 : (assignEach ts X.env).length = is.length) (hst : (assignEach ts X.env).findIdx? (·.1) = none)
    (hs : swapsWithSole [.Tuple ts kt pt] (.Tuple es k2 pt2) pos.line X.env = pure false) (hw : swappedStores [.Tuple ts kt pt] (.Tuple es k2 pt2) X.env = pure none) (h1 : (assignEach [.Tuple ts kt pt] X.env).map (·.2) = [assign (.Tuple ts kt pt) X.env]) :
    PS X (.Assign [.Tuple ts kt pt] (.Tuple es k2 pt2) pos) (tS P Γ Xp (.par is ms)) := ps_imp (ps_asg (pe_tup ha) (pg_tup (n := is.length) hc hg hl3 hst) hs hw h1) fun Dn σ H h => by
  obtain ⟨env, F, k, ex, w, kr⟩ := h
  simp only [wS] at w
  refine ⟨env, F, _, ex, w, fun rs env1 vs H1 F1 q m e1 l => ⟨by rw [l, sizeLine_eq]; omega, fun p hp => ?_⟩⟩
  obtain ⟨env2, q2, e2⟩ := (e1.grow (grows (o := .tup vs) hp)).all q
  exact ⟨p, vs, rfl, .inl (.inl upd_same), l.trans hl2.symm, l.trans hl2.symm, kr.nx _ _ env2 F1 q2 e2⟩
end
end G
/-! A9: the look that a tree stands for a piece of the text; every tree that passes keeps its meaning. -/
namespace G
open PySem PySem.Spec L2
mutual
def beqD : D → D → Bool
  | .non, .non => true
  | .bl a, .bl b => a == b
  | .int a, .int b => a == b
  | .str a, .str b => decide (a = b)
  | .tup a, .tup b => beqDs a b
  | .lst a, .lst b => beqDs a b
  | .fn a, .fn b => a == b
  | _, _ => false
def beqDs : List D → List D → Bool
  | [], [] => true
  | x :: xs, y :: ys => beqD x y && beqDs xs ys
  | _, _ => false
end
mutual
theorem beqD_eq : ∀ {a b : D}, beqD a b = true → a = b
  | .non, b, h => by cases b <;> simp [beqD] at h; rfl
  | .bl _, b, h => by cases b <;> simp [beqD] at h; rw [h]
  | .int _, b, h => by cases b <;> simp [beqD] at h; rw [h]
  | .str _, b, h => by cases b <;> simp [beqD] at h; rw [h]
  | .tup _, b, h => by cases b <;> simp [beqD] at h; rw [beqDs_eq h]
  | .lst _, b, h => by cases b <;> simp [beqD] at h; rw [beqDs_eq h]
  | .fn _, b, h => by cases b <;> simp [beqD] at h; rw [h]
  | .dct _ _, b, h => by cases b <;> simp [beqD] at h
  | .ins _ _, b, h => by cases b <;> simp [beqD] at h
  | .scr _, b, h => by cases b <;> simp [beqD] at h
theorem beqDs_eq : ∀ {a b : List D}, beqDs a b = true → a = b
  | [], b, h => by cases b <;> simp [beqDs] at h; rfl
  | _ :: _, b, h => by
    cases b with
    | nil => simp [beqDs] at h
    | cons y ys =>
      simp only [beqDs, Bool.and_eq_true] at h
      rw [beqD_eq h.1, beqDs_eq h.2]
end
def beqSrc : List (Sum Nat D) → List (Sum Nat D) → Bool
  | [], [] => true
  | .inl a :: r, .inl b :: s => a == b && beqSrc r s
  | .inr a :: r, .inr b :: s => beqD a b && beqSrc r s
  | _, _ => false
theorem beqSrc_eq : ∀ {a b : List (Sum Nat D)}, beqSrc a b = true → a = b
  | [], b, h => by cases b <;> simp [beqSrc] at h; rfl
  | .inl a :: r, b, h => by
    cases b with
    | nil => simp [beqSrc] at h
    | cons y ys => cases y with
      | inl b => simp only [beqSrc, Bool.and_eq_true, beq_iff_eq] at h; rw [h.1, beqSrc_eq h.2]
      | inr b => simp [beqSrc] at h
  | .inr a :: r, b, h => by
    cases b with
    | nil => simp [beqSrc] at h
    | cons y ys => cases y with
      | inl b => simp [beqSrc] at h
      | inr b => simp only [beqSrc, Bool.and_eq_true] at h; rw [beqD_eq h.1, beqSrc_eq h.2]
/-- what is known of the text's names -/
structure Tx where
  fnm : List Str
  pats : List (Nat × Nat × List Str × List (Sum Nat D))
  cst : List (Str × D)
  nog : List Str
def visB (sc : Scope) (x : Str) : Bool := match sc.names.lookup x with
  | some .local => true
  | some .cell => true
  | some .free => true
  | _ => false
def locB (sc : Scope) (x : Str) : Bool := match sc.names.lookup x with
  | some .local => true
  | some .cell => true
  | _ => false
def gloB (sc : Scope) (x : Str) : Bool := match sc.names.lookup x with
  | some .globalImplicit => !(x == ("__debug__" : Str)) && !(x == ("__name__" : Str))
  | _ => false
def visN (sc : Scope) (N : List Str) (x : Str) (i : Nat) : Bool := decide (N[i]? = some x) && visB sc x && !(x == ("__debug__" : Str)) && !(x == ("__classdict__" : Str))
def constD : Const → D → Bool
  | .none, .non => true
  | .bool a, .bl b => a == b
  | .int a, .int b => a == b
  | .str a, .str b => decide (a = b) && decide (a.length ≤ line)
  | _, _ => false
/-- neither a slice nor a starred one nor a set's display -/
def okF : Expr → Bool
  | .Slice .. => false
  | .Starred .. => false
  | .Set .. => false
  | _ => true
/-- its truth is its value's truth -/
def okTv : Expr → Bool
  | .UnaryOp .Not _ _ => false
  | .BoolOp .. => false
  | .IfExp .. => false
  | .Compare .. => false
  | _ => true
def noComp : Expr → Bool
  | .ListComp .. => false
  | .SetComp .. => false
  | .DictComp .. => false
  | _ => true
def noTup : Expr → Bool
  | .Tuple .. => false
  | _ => true
def biN : BI → Option Str
  | .len => some "len"
  | .max2 => some "max"
  | .min2 => some "min"
  | .max1 => some "max"
  | .min1 => some "min"
  | .sum => some "sum"
  | .all => some "all"
  | .any => some "any"
  | .repr => some "repr"
  | .lst => some "list"
  | .tup => some "tuple"
  | .str => some "str"
  | .int => some "int"
  | _ => none
theorem bi_boot : ∀ b n u, biN b = some n → biV b = some u → bootBuiltins n = some u := by
  intro b n u h1 h2
  cases b <;> first
    | (cases h1; cases h2; decide +kernel)
    | cases h1
mutual
def chkTg (st : Str → Bool) (N : List Str) : Tg → Expr → Bool
  | .nm i, .Name x _ => decide (N[i]? = some x) && st x
  | .tp ts, .Tuple es _ _ => chkTgs st N ts es
  | _, _ => false
def chkTgs (st : Str → Bool) (N : List Str) : List Tg → List Expr → Bool
  | [], [] => true
  | t :: ts, e :: es => chkTg st N t e && okF e && chkTgs st N ts es
  | _, _ => false
end
def ownsOf (N : List Str) (own : List Nat) : List (Str × Nat) := own.map fun i => (N[i]?.getD "", i)
def kwNames : List Keyword → Option (List Str)
  | [] => some []
  | ⟨some n, _, _⟩ :: r => (kwNames r).map fun t => n :: t
  | _ :: _ => none
def kwVals : List Keyword → List Expr
  | [] => []
  | ⟨_, v, _⟩ :: r => v :: kwVals r
def patIn (U : Tx) (f np : Nat) (kws : List Str) (src : List (Sum Nat D)) : Bool := U.pats.any fun q => q.1 == f && q.2.1 == np && decide (q.2.2.1 = kws) && beqSrc q.2.2.2 src
def isYes : T → Bool
  | .yes => true
  | _ => false
mutual
def chkE (U : Tx) (N : List Str) : E → Scope → Expr → Bool
  | .var i, sc, .Name x _ => visN sc N x i
  | .ref i, sc, .Name x _ => visN sc N x i
  | .con d, sc, .Constant c _ _ => constD c d
  | .glb g d, sc, .Name x _ => decide (g = x) && gloB sc x && U.cst.any fun q => decide (q.1 = x) && beqD q.2 d
  | .bin op a b, sc, .BinOp x op' y _ => decide (op = op') && chkE U N a sc x && chkE U N b sc y
  | .neg a, sc, .UnaryOp .USub x _ => chkE U N a sc x
  | .cmp op a b, sc, .Compare x [op'] [y] _ => decide (op = op') && chkE U N a sc x && chkE U N b sc y && okF y
  | .chn o1 o2 a b c, sc, .Compare x [p1, p2] [y, z] _ => decide (o1 = p1) && decide (o2 = p2) && chkE U N a sc x && chkE U N b sc y && chkE U N c sc z && okF z
  | .and a b, sc, .BoolOp .And (x :: y :: r) pos => chkE U N a sc x && chkE U N b sc (match r with | [] => y | _ => .BoolOp .And (y :: r) pos)
  | .or a b, sc, .BoolOp .Or (x :: y :: r) pos => chkE U N a sc x && chkE U N b sc (match r with | [] => y | _ => .BoolOp .Or (y :: r) pos)
  | .not a, sc, .UnaryOp .Not x _ => chkE U N a sc x
  | .ite c a b, sc, .IfExp z x y _ => chkT U N c sc z && chkE U N a sc x && chkE U N b sc y
  | .tup ms, sc, .Tuple es _ _ => chkEs U N ms sc es && decide (ms.length ≤ 1000)
  | .lst ms, sc, .List es _ => chkEs U N ms sc es && decide (ms.length ≤ 1000)
  | .sub a b, sc, .Subscript x y _ => chkE U N a sc x && chkE U N b sc y && okF y
  | .call f ms src, sc, .Call (.Name g _) es kws _ => decide (U.fnm[f]? = some g) && gloB sc g && chkEs U N ms sc (es ++ kwVals kws) && (match kwNames kws with
    | some ks => patIn U f es.length ks src
    | none => false)
  | .bi b ms, sc, .Call (.Name g _) (x :: es) [] _ => decide (biN b = some g) && gloB sc g && U.nog.contains g && chkEs U N ms sc (x :: es)
  | .lc elt t it cond own, sc, .ListComp x [⟨tg, iter, ifs, 0⟩] scope _ => chkI U N it sc tg iter && okF iter && chkTg (locB scope) N t tg && (slots t).all (fun i => own.contains i) && blkC N sc scope (ownsOf N own) &&
      chkE U N elt (relS scope sc) x && (match ifs with
        | [] => isYes cond
        | [c] => chkT U N cond (relS scope sc) c
        | _ => false)
  | _, _, _ => false
def chkT (U : Tx) (N : List Str) : T → Scope → Expr → Bool
  | .tv e, sc, x => chkE U N e sc x && okTv x
  | .and a b, sc, .BoolOp .And (x :: y :: r) pos => chkT U N a sc x && chkT U N b sc (match r with | [] => y | _ => .BoolOp .And (y :: r) pos)
  | .or a b, sc, .BoolOp .Or (x :: y :: r) pos => chkT U N a sc x && chkT U N b sc (match r with | [] => y | _ => .BoolOp .Or (y :: r) pos)
  | .not a, sc, .UnaryOp .Not x _ => chkT U N a sc x
  | .cmp op a b, sc, .Compare x [op'] [y] _ => decide (op = op') && chkE U N a sc x && chkE U N b sc y && okF y
  | .chn o1 o2 a b c, sc, .Compare x [p1, p2] [y, z] _ => decide (o1 = p1) && decide (o2 = p2) && chkE U N a sc x && chkE U N b sc y && chkE U N c sc z && okF z
  | _, _, _ => false
def chkI (U : Tx) (N : List Str) : I → Scope → Expr → Expr → Bool
  | .it e, sc, tg, x => chkE U N e sc x
  | .rng ms, sc, tg, .Call (.Name g _) es [] _ => decide (g = ("range" : Str)) && gloB sc g && U.nog.contains g && chkEs U N ms sc es && (es.length == 1 || es.length == 2)
  | _, _, _, _ => false
def chkEs (U : Tx) (N : List Str) : List E → Scope → List Expr → Bool
  | [], sc, [] => true
  | m :: ms, sc, e :: es => chkE U N m sc e && okF e && chkEs U N ms sc es
  | _, _, _ => false
end
end G
/-! B0: what the looks give; every expression that passes keeps its meaning. -/
namespace G
open PySem PySem.Spec L2

/-- what is true of the module -/
structure GR (U : Tx) (L : Lay) (t : Text) (n : Nat) (p : Program) (w : World) (mg : Str → Option Value) (base : Heap) : Prop where
  nog : ∀ x ∈ U.nog, mg x = none
  cst : ∀ q ∈ U.cst, ∃ u v, mg q.1 = some u ∧ RelV v u ∧ ∀ F, Rep L F q.2 v
  fns : ∀ f x, U.fnm[f]? = some x → mg x = some (.ref (L.fn f)) ∧ PySem.W.keepIn L.K (.ref (L.fn f)) = true ∧ ∃ fd ps, DefOk p w L.K mg base n (L.fn f) fd ps (lift L (W t n f)) ∧ ∀ q ∈ U.pats, q.1 = f → BindOk L.K fd ps q.2.1 q.2.2.1 q.2.2.2
/-- .. of a context -/
structure CO (U : Tx) (L : Lay) (t : Text) (n : Nat) (N : List Str) (sc : Scope) (X : Cx) : Prop where
  hN : X.N = N
  nd : X.N.Nodup
  sc : X.env.scope = sc
  K : X.K = L.K
  calm : X.calm = true
  gd : X.A.guards = some []
  room : Room n X.A
  pas : PassesOwn (model X.prog X.w) X.A X.env X.xe
  gr : GR U L t n X.prog X.w X.mg X.base
abbrev Gam (t : Text) (n : Nat) : Fns := ⟨W t n, t.pos, t.init⟩

section
variable {U : Tx} {L : Lay} {t : Text} {n : Nat} {N : List Str} {sc : Scope} {X : Cx} {P : PP} {Xp : XP} {pos : Pos}
theorem star_of {env : PySem.Env} {x : Expr} {es : List Expr} (h : okF x = true) : starEach (x :: es) env = (false, eval x env) :: starEach es env := by
  cases x <;> first
    | rfl
    | (simp [okF] at h)
theorem assign_of {env : PySem.Env} {x : Expr} {es : List Expr} (h : okF x = true) : assignEach (x :: es) env = (false, assign x env) :: assignEach es env := by
  cases x <;> first
    | rfl
    | (simp [okF] at h)
theorem ix_of {y : Expr} (h : okF y = true) : PlainIx y := fun o i => by
  cases y <;> first
    | rfl
    | (simp [okF] at h)
theorem fold_of {x : Expr} {env : PySem.Env} (h : okF x = true) : ∀ u, foldedSetIterable x env u = pure u := fun u => by
  cases x <;> first
    | rfl
    | (simp [okF] at h)
theorem mark_of {op : CmpOp} {y : Expr} (h : okF y = true) : behindInMarks op y = false := by
  cases y <;> first
    | rfl
    | (simp [okF] at h)
theorem marks_of {o1 o2 : CmpOp} {y z : Expr} (h : okF z = true) : lastMarks [o1, o2] [y, z] = false := by
  show behindInMarks o2 z = false
  exact mark_of h
theorem tv_of {x : Expr} {env : PySem.Env} (h : okTv x = true) : ∀ whole, isTrue x env whole = (do let v ← whole; standAt x.pos; holding [v] (truthy v)) := fun whole => by
  cases x
  case UnaryOp op a p => cases op <;> first
    | rfl
    | (simp [okTv] at h)
  all_goals first
    | rfl
    | (simp [okTv] at h)
theorem swap_of {x : Expr} {tg : Option Expr} {l : Nat} {env : PySem.Env} (h : noComp x = true) : swapsWith x tg l env = pure false := by
  cases x <;> first
    | rfl
    | (simp [noComp] at h)
theorem swapS_of {x tg : Expr} {l : Nat} {env : PySem.Env} (h : noComp x = true) : swapsWithSole [tg] x l env = pure false := swap_of h
theorem stores_of {x tg : Expr} {env : PySem.Env} (h : noTup x = true) : swappedStores [tg] x env = pure none := by
  cases x <;> first
    | (simp [noTup] at h; done)
    | (cases tg <;> rfl)
theorem plain_args {env : PySem.Env} : ∀ {ms : List E} {es : List Expr}, chkEs U N ms sc es = true → (backTo pos (starEach es env)).any (·.1) = false
  | [], [], _ => rfl
  | [], _ :: _, h => by simp [chkEs] at h
  | _ :: _, [], h => by simp [chkEs] at h
  | m :: ms, e :: es, h => by
    simp only [chkEs, Bool.and_eq_true] at h
    rw [star_of h.1.2]
    show (false || (backTo pos (starEach es env)).any (·.1)) = false
    rw [plain_args h.2]
    rfl
theorem vis_of (c : CO U L t n N sc X) {x : Str} {i : Nat} (h : visN sc N x i = true) : PE X (.Name x pos) (tVar i) := by
  simp only [visN, Bool.and_eq_true, decide_eq_true_eq, Bool.not_eq_true'] at h
  obtain ⟨⟨⟨h1, h2⟩, h3⟩, h4⟩ := h
  refine pe_var (by rw [c.hN]; exact h1) ?_ h3 h4
  rw [c.sc]
  unfold visB at h2
  split at h2
  · exact .inl (by assumption)
  · exact .inr (.inl (by assumption))
  · exact .inr (.inr (by assumption))
  · cases h2
theorem glo_of (c : CO U L t n N sc X) {x : Str} (h : gloB sc x = true) : Gl X x ∧ (x == ("__debug__" : Str)) = false ∧ x ≠ "__name__" := by
  unfold gloB at h
  split at h
  · rename_i q
    simp only [Bool.and_eq_true, Bool.not_eq_true', beq_eq_false_iff_ne, ne_eq] at h
    refine ⟨?_, beq_eq_false_iff_ne.mpr h.1, h.2⟩
    show X.env.scope.names.lookup x = _
    rw [c.sc]
    exact q
  · cases h
theorem const_of {k : Const} {d : D} {j : Nat} (h : constD k d = true) : ∃ v, PE X (.Constant k j pos) (tC v) ∧ ∀ F, Rep P.L F d v := by
  unfold constD at h
  split at h
  · exact ⟨_, pe_non, fun F => rfl⟩
  · rw [eq_of_beq h]; exact ⟨_, pe_bl, fun F => rfl⟩
  · rw [eq_of_beq h]; exact ⟨_, pe_int, fun F => rfl⟩
  · simp only [Bool.and_eq_true, decide_eq_true_eq] at h
    obtain ⟨rfl, h⟩ := h
    exact ⟨_, pe_str, fun F => ⟨rfl, h⟩⟩
  · cases h
theorem o_any {x : Expr} {m : E} {Γ : Fns} (hV : ∀ i, m = .ref i → PE X x (tVar i)) (hE : PE X x (tE P Γ Xp m)) : PE X x (tO P Γ Xp m) := by
  by_cases h : ∃ i, m = .ref i
  · obtain ⟨i, rfl⟩ := h
    exact o_ref (hV i rfl)
  · exact o_of (fun i e => h ⟨i, e⟩) hE
theorem ref_vis (c : CO U L t n N sc X) {x : Expr} {m : E} (h : chkE U N m sc x = true) : ∀ i, m = .ref i → PE X x (tVar i) := fun i e => by
  subst e
  cases x <;> simp only [chkE] at h <;> first
    | exact vis_of c h
    | (exact absurd h (by simp))
/-- targets -/
theorem tgs_shape {st : Str → Bool} {env : PySem.Env} : ∀ {ts : List Tg} {es : List Expr}, chkTgs st N ts es = true → es.length = ts.length ∧ (assignEach es env).length = es.length ∧ (assignEach es env).findIdx? (·.1) = none
  | [], [], _ => ⟨rfl, rfl, rfl⟩
  | [], _ :: _, h => by simp [chkTgs] at h
  | _ :: _, [], h => by simp [chkTgs] at h
  | t :: ts, e :: es, h => by
    simp only [chkTgs, Bool.and_eq_true] at h
    obtain ⟨h1, h2, h3⟩ := tgs_shape (env := env) h.2
    rw [assign_of h.1.2]
    refine ⟨by rw [List.length_cons, List.length_cons, h1], by rw [List.length_cons, List.length_cons, h2], ?_⟩
    rw [List.findIdx?_cons]
    simp only [h3]
    rfl
mutual
theorem okTg {st : Str → Bool} (hN : X.N = N) (nd : X.N.Nodup) (hK : X.K = P.L.K) (hc : X.calm = true) (hst : ∀ x, st x = true → Loc X.env.scope x ∧ (X.fn x = true ∨ X.env.scope.names.lookup x = some .local)) : ∀ (g : Tg) {e : Expr}, chkTg st N g e = true → PG X e (gT P g)
  | .nm i, e, h => by
    cases e <;> simp only [chkTg] at h <;> first
      | (simp only [Bool.and_eq_true, decide_eq_true_eq] at h
         obtain ⟨h1, h2⟩ := hst _ h.2
         exact g_nm (pg_name nd (by rw [hN]; exact h.1) h1 h2))
      | (exact absurd h (by simp))
  | .tp ts, e, h => by
    cases e <;> simp only [chkTg] at h <;> first
      | (obtain ⟨h1, h2, h3⟩ := tgs_shape (env := X.env) h
         exact g_tp hK hc (okTgs hN nd hK hc hst ts h) h1 h2 h3)
      | (exact absurd h (by simp))
theorem okTgs {st : Str → Bool} (hN : X.N = N) (nd : X.N.Nodup) (hK : X.K = P.L.K) (hc : X.calm = true) (hst : ∀ x, st x = true → Loc X.env.scope x ∧ (X.fn x = true ∨ X.env.scope.names.lookup x = some .local)) : ∀ (ts : List Tg) {es : List Expr}, chkTgs st N ts es = true → PGs X es (gTs P ts)
  | [], [], _ => gs_nil
  | [], _ :: _, h => by simp [chkTgs] at h
  | _ :: _, [], h => by simp [chkTgs] at h
  | g :: ts, e :: es, h => by
    simp only [chkTgs, Bool.and_eq_true] at h
    exact gs_cons (okTg hN nd hK hc hst g h.1.1) (okTgs hN nd hK hc hst ts h.2) (by rw [assign_of h.1.2]; rfl)
end
theorem CO.hu (c : CO U L t n N sc X) : X.A.units + 64 < cLine := c.room.units
theorem gl_nog (c : CO U L t n N sc X) {g : Str} (h : U.nog.contains g = true) : X.mg g = none := c.gr.nog g (by simpa using h)
/-- the context of a comprehension's block -/
theorem CO.block (c : CO U L t n N sc X) {s : Shared} {H : Hp} {scope : Scope} {C : Addr} {cl : List (Str × Addr)} {fp : List Addr} : CO U L t n N (relS scope sc) (X.blk s H scope (compEnvC scope cl C X.env) fp) :=
  ⟨c.hN, c.nd, by rw [← c.sc]; rfl, c.K, c.calm, c.gd, c.room, PassesOwn.never, c.gr⟩
theorem takes_block {s : Shared} {H : Hp} {scope : Scope} {cenv : PySem.Env} {fp : List Addr} {P' : PP} : Takes (X.blk s H scope cenv fp) (WXo P' XF) := fun u s' ⟨_, _, _, _, _, _, _, _, _, _, _, _, _, _, _, _, _, _, _, _, _, z⟩ => z.elim
theorem own_slots {own : List Nat} : (ownsOf N own).map (·.2) = own := by
  induction own with
  | nil => rfl
  | cons i r ih => simp only [ownsOf, List.map_cons] at ih ⊢; rw [ih]
theorem loc_block {scope : Scope} {cenv : PySem.Env} {s : Shared} {H : Hp} {fp : List Addr} (hs : cenv.scope = relS scope sc) (hu : ∀ y ∈ scope.names, scope.names.lookup y.1 = some y.2) : ∀ x, locB scope x = true → Loc (X.blk s H scope cenv fp).env.scope x ∧ ((X.blk s H scope cenv fp).fn x = true ∨ (X.blk s H scope cenv fp).env.scope.names.lookup x = some .local) := fun x h => by
  unfold locB at h
  have keep : ∀ k, k ≠ NameKind.free → scope.names.lookup x = some k → cenv.scope.names.lookup x = some k := fun k hk q => by
    rw [hs]
    exact lookup_relS_keep hk q
  split at h
  · rename_i q
    have := keep _ (by decide) q
    exact ⟨.inl this, .inr this⟩
  · rename_i q
    have := keep _ (by decide) q
    refine ⟨.inr this, .inl ?_⟩
    show (scope.names.lookup x == some .cell) = true
    rw [q]
    rfl
  · cases h
theorem kw_of {env : PySem.Env} : ∀ {kws : List Keyword} {ks : List Str}, kwNames kws = some ks → (backToKw pos (keywordEach kws env)).all (·.1.isSome) = true ∧ (backToKw pos (keywordEach kws env)).filterMap (·.1) = ks ∧ (backToKw pos (keywordEach kws env)).any (·.1.isNone) = false ∧ (kwVals kws).length = ks.length
  | [], _, h => by cases h; exact ⟨rfl, rfl, rfl, rfl⟩
  | ⟨some g, v, p⟩ :: r, ks, h => by
    simp only [kwNames, Option.map_eq_some_iff] at h
    obtain ⟨ks', h, rfl⟩ := h
    obtain ⟨h1, h2, h3, h4⟩ := kw_of (env := env) h
    refine ⟨?_, ?_, ?_, by simp only [kwVals, List.length_cons, h4]⟩
    · show (true && (backToKw pos (keywordEach r env)).all (·.1.isSome)) = true
      rw [h1]; rfl
    · show g :: (backToKw pos (keywordEach r env)).filterMap (·.1) = g :: ks'
      rw [h2]
    · show (false || (backToKw pos (keywordEach r env)).any (·.1.isNone)) = false
      rw [h3]; rfl
  | ⟨none, v, p⟩ :: r, _, h => by cases h
theorem chkEs_split : ∀ {ms : List E} {es fs : List Expr}, chkEs U N ms sc (es ++ fs) = true → ∃ ms1 ms2, ms = ms1 ++ ms2 ∧ chkEs U N ms1 sc es = true ∧ chkEs U N ms2 sc fs = true ∧ ms1.length = es.length ∧ ms2.length = fs.length
  | ms, [], fs, h => by
    refine ⟨[], ms, rfl, rfl, h, rfl, ?_⟩
    have : ∀ (ms : List E) (fs : List Expr), chkEs U N ms sc fs = true → ms.length = fs.length := fun ms => by
      induction ms with
      | nil => intro fs h; cases fs with
        | nil => rfl
        | cons _ _ => simp [chkEs] at h
      | cons m ms ih => intro fs h; cases fs with
        | nil => simp [chkEs] at h
        | cons f fs => simp only [chkEs, Bool.and_eq_true] at h; rw [List.length_cons, List.length_cons, ih fs h.2]
    exact this ms fs h
  | [], e :: es, fs, h => by simp [chkEs] at h
  | m :: ms, e :: es, fs, h => by
    simp only [List.cons_append, chkEs, Bool.and_eq_true] at h
    obtain ⟨ms1, ms2, rfl, h1, h2, h3, h4⟩ := chkEs_split h.2
    exact ⟨m :: ms1, ms2, rfl, by simp only [chkEs, Bool.and_eq_true]; exact ⟨h.1, h1⟩, h2, by rw [List.length_cons, List.length_cons, h3], h4⟩
theorem pat_of {f np : Nat} {ks : List Str} {src : List (Sum Nat D)} (h : patIn U f np ks src = true) : ∃ q ∈ U.pats, q.1 = f ∧ q.2.1 = np ∧ q.2.2.1 = ks ∧ q.2.2.2 = src := by
  unfold patIn at h
  rw [List.any_eq_true] at h
  obtain ⟨q, hq, h⟩ := h
  simp only [Bool.and_eq_true, beq_iff_eq, decide_eq_true_eq] at h
  exact ⟨q, hq, h.1.1.1, h.1.1.2, h.1.2, beqSrc_eq h.2⟩
end
end G
/-! B1: every expression, test, walked thing that passes the look keeps its meaning. -/
namespace G
open PySem PySem.Spec L2
def OkE (U : Tx) (L : Lay) (t : Text) (n : Nat) (N : List Str) (m : E) : Prop :=
  ∀ (X : Cx) (sc : Scope) (e : Expr), CO U L t n N sc X → chkE U N m sc e = true → ∀ (P : PP) (Xp : XP), P.L = L → Takes X (WXo P Xp) → PE X e (tE P (Gam t n) Xp m)
def OkT (U : Tx) (L : Lay) (t : Text) (n : Nat) (N : List Str) (m : T) : Prop :=
  ∀ (X : Cx) (sc : Scope) (e : Expr), CO U L t n N sc X → chkT U N m sc e = true → ∀ (P : PP) (Xp : XP), P.L = L → Takes X (WXo P Xp) → PT X e (tT P (Gam t n) Xp m)
def OkI (U : Tx) (L : Lay) (t : Text) (n : Nat) (N : List Str) (m : I) : Prop :=
  ∀ (X : Cx) (sc : Scope) (tg e : Expr), CO U L t n N sc X → chkI U N m sc tg e = true → ∀ (P : PP) (Xp : XP), P.L = L → Takes X (WXo P Xp) → PI X tg e (tI P (Gam t n) Xp m)
section
variable {U : Tx} {L : Lay} {t : Text} {n : Nat} {N : List Str} {sc : Scope} {X : Cx} {P : PP} {Xp : XP} {pos : Pos}
theorem okO {m : E} (h : OkE U L t n N m) {e : Expr} (c : CO U L t n N sc X) (k : chkE U N m sc e = true) (hP : P.L = L) (tk : Takes X (WXo P Xp)) : PE X e (tO P (Gam t n) Xp m) := o_any (ref_vis c k) (h X sc e c k P Xp hP tk)
theorem os_of : ∀ {ms : List E} {es : List Expr}, (∀ m ∈ ms, OkE U L t n N m) → CO U L t n N sc X → chkEs U N ms sc es = true → P.L = L → Takes X (WXo P Xp) → PA X es (tOs P (Gam t n) Xp ms)
  | [], [], _, _, _, _, _ => os_nil
  | [], _ :: _, _, _, h, _, _ => by simp [chkEs] at h
  | _ :: _, [], _, _, h, _, _ => by simp [chkEs] at h
  | m :: ms, e :: es, hm, c, h, hP, tk => by
    simp only [chkEs, Bool.and_eq_true] at h
    exact os_cons (okO (hm m List.mem_cons_self) c h.1.1 hP tk) (os_of (fun k hk => hm k (List.mem_cons_of_mem _ hk)) c h.2 hP tk) (star_of h.1.2)
theorem ks_of : ∀ {ms : List E} {kws : List Keyword}, (∀ m ∈ ms, OkE U L t n N m) → CO U L t n N sc X → chkEs U N ms sc (kwVals kws) = true → P.L = L → Takes X (WXo P Xp) → PK X kws (tOs P (Gam t n) Xp ms)
  | [], [], _, _, _, _, _ => k_nil
  | [], ⟨_, _, _⟩ :: _, _, _, h, _, _ => by simp [chkEs, kwVals] at h
  | _ :: _, [], _, _, h, _, _ => by simp [chkEs, kwVals] at h
  | m :: ms, ⟨nm, e, p⟩ :: kws, hm, c, h, hP, tk => by
    simp only [kwVals, chkEs, Bool.and_eq_true] at h
    exact k_cons (okO (hm m List.mem_cons_self) c h.1.1 hP tk) (ks_of (fun k hk => hm k (List.mem_cons_of_mem _ hk)) c h.2 hP tk)
/-- a call of one of the text's defs -/
theorem call_of {f : Nat} {ms : List E} {src : List (Sum Nat D)} {g : Str} {gp : Pos} {es : List Expr} {kws : List Keyword} (hm : ∀ m ∈ ms, OkE U L t n N m) (c : CO U L t n N sc X)
    (h1 : U.fnm[f]? = some g) (h2 : gloB sc g = true) (h3 : chkEs U N ms sc (es ++ kwVals kws) = true) {ks : List Str} (h4 : kwNames kws = some ks) (h5 : patIn U f es.length ks src = true) (hP : P.L = L) (tk : Takes X (WXo P Xp)) :
    PE X (.Call (.Name g gp) es kws pos) (tE P (Gam t n) Xp (.call f ms src)) := by
  subst hP
  obtain ⟨hg, hdb, _⟩ := glo_of c h2
  obtain ⟨q1, q2, fd, ps, dk, hb⟩ := c.gr.fns f g h1
  obtain ⟨q, hq, e1, e2, e3, e4⟩ := pat_of h5
  have b := hb q hq e1
  rw [e2, e3, e4] at b
  have hk : PySem.W.keepIn X.K (.ref (P.L.fn f)) = true := by rw [c.K]; exact q2
  have dk' : DefOk X.prog X.w X.K X.mg X.base n (P.L.fn f) fd ps (lift P.L (W t n f)) := by rw [c.K]; exact dk
  have b' : BindOk X.K fd ps es.length ks src := by rw [c.K]; exact b
  obtain ⟨ms1, ms2, rfl, c1, c2, l1, l2⟩ := chkEs_split h3
  have hm1 : ∀ m ∈ ms1, OkE U P.L t n N m := fun m hh => hm m (List.mem_append_left _ hh)
  have hm2 : ∀ m ∈ ms2, OkE U P.L t n N m := fun m hh => hm m (List.mem_append_right _ hh)
  have pa := os_of (P := P) (Xp := Xp) hm1 c c1 rfl tk
  have pk := ks_of (P := P) (Xp := Xp) hm2 c c2 rfl tk
  obtain ⟨k1, k2, k3, k4⟩ := kw_of (pos := pos) (env := X.env) h4
  rw [← l1] at b'
  cases kws with
  | nil =>
    cases h4
    have : ms2 = [] := List.eq_nil_of_length_eq_zero (by rw [l2]; rfl)
    subst this
    rw [List.append_nil]
    cases es with
    | nil =>
      have : ms1 = [] := List.eq_nil_of_length_eq_zero (by rw [l1]; rfl)
      subst this
      exact e_call0 dk' c.gd c.room tk b' hg q1 hk hdb
    | cons x es =>
      have st : starEach (x :: es) X.env = (false, eval x X.env) :: starEach es X.env := by
        cases ms1 with
        | nil => simp [chkEs] at c1
        | cons m ms1 => simp only [chkEs, Bool.and_eq_true] at c1; exact star_of c1.1.2
      have pl : (backTo pos (starEach es X.env)).any (·.1) = false := by
        cases ms1 with
        | nil => simp [chkEs] at c1
        | cons m ms1 => simp only [chkEs, Bool.and_eq_true] at c1; exact plain_args c1.2
      exact e_call dk' c.gd c.room tk b' hg q1 hk pa hdb st pl
  | cons kw kws =>
    cases es with
    | nil =>
      have : ms1 = [] := List.eq_nil_of_length_eq_zero (by rw [l1]; rfl)
      subst this
      rw [List.nil_append]
      exact e_callk0 dk' c.gd c.room tk b' hg q1 hk pk (by rw [l2, k4]) hdb k1 k2 (by rw [k3]; rfl)
    | cons x es =>
      have st : starEach (x :: es) X.env = (false, eval x X.env) :: starEach es X.env := by
        cases ms1 with
        | nil => simp [chkEs] at c1
        | cons m ms1 => simp only [chkEs, Bool.and_eq_true] at c1; exact star_of c1.1.2
      exact e_callk dk' c.gd c.room tk b' hg q1 hk pa pk (by rw [l2, k4]) hdb st k1 k2 (by rw [k3, plain_args c1]; rfl)
theorem bi_of {b : BI} {ms : List E} {g : Str} {gp : Pos} {x : Expr} {es : List Expr} (hm : ∀ m ∈ ms, OkE U L t n N m) (c : CO U L t n N sc X) (h1 : biN b = some g) (h2 : gloB sc g = true) (h3 : U.nog.contains g = true) (h4 : chkEs U N ms sc (x :: es) = true) (hP : P.L = L) (tk : Takes X (WXo P Xp)) :
    PE X (.Call (.Name g gp) (x :: es) [] pos) (tE P (Gam t n) Xp (.bi b ms)) := by
  obtain ⟨hg, hdb, hn⟩ := glo_of c h2
  have hu : ∃ u, biV b = some u := by
    cases b <;> first
      | exact ⟨_, rfl⟩
      | cases h1
  obtain ⟨u, hu⟩ := hu
  have pa := os_of (P := P) (Xp := Xp) hm c h4 hP tk
  have h5 := h4
  cases ms with
  | nil => simp [chkEs] at h5
  | cons m ms =>
    simp only [chkEs, Bool.and_eq_true] at h5
    exact e_bi (c.K.trans (by rw [hP])) c.calm c.gd c.hu hu (bi_boot _ _ _ h1 hu) hg (gl_nog c h3) pa hn hdb (star_of h5.1.2) (plain_args h5.2)
end
section
variable {U : Tx} {L : Lay} {t : Text} {n : Nat} {N : List Str}
theorem pw_of {X : Cx} {op : BoolOp} {vs : List Expr} {pos : Pos} {tt : TT} (h : PT X (.BoolOp op vs pos) tt) : PW X (.BoolOp op vs pos) tt := ⟨fun whole pins s σ H Q I q => h.run pins s σ H Q I q⟩
/-! the shapes that pass -/
section
variable {sc : Scope} {e : Expr} {a b c : E}
theorem i_neg (h : chkE U N (.neg a) sc e = true) : ∃ x p, e = .UnaryOp .USub x p ∧ chkE U N a sc x = true := by
  cases e
  case UnaryOp op x p =>
    cases op
    case USub => exact ⟨x, p, rfl, by simpa only [chkE] using h⟩
    all_goals simp [chkE] at h
  all_goals simp [chkE] at h
theorem i_not (h : chkE U N (.not a) sc e = true) : ∃ x p, e = .UnaryOp .Not x p ∧ chkE U N a sc x = true := by
  cases e
  case UnaryOp op x p =>
    cases op
    case Not => exact ⟨x, p, rfl, by simpa only [chkE] using h⟩
    all_goals simp [chkE] at h
  all_goals simp [chkE] at h
theorem i_tnot {a : T} (h : chkT U N (.not a) sc e = true) : ∃ x p, e = .UnaryOp .Not x p ∧ chkT U N a sc x = true := by
  cases e
  case UnaryOp op x p =>
    cases op
    case Not => exact ⟨x, p, rfl, by simpa only [chkT] using h⟩
    all_goals simp [chkT] at h
  all_goals simp [chkT] at h
theorem i_cmp {op : CmpOp} (h : chkE U N (.cmp op a b) sc e = true) : ∃ x y p, e = .Compare x [op] [y] p ∧ chkE U N a sc x = true ∧ chkE U N b sc y = true ∧ okF y = true := by
  cases e
  case Compare x ops ys p =>
    match ops, ys with
    | [op'], [y] =>
      simp only [chkE, Bool.and_eq_true, decide_eq_true_eq] at h
      obtain ⟨⟨⟨rfl, h1⟩, h2⟩, h3⟩ := h
      exact ⟨x, y, p, rfl, h1, h2, h3⟩
    | [], _ => simp [chkE] at h
    | _ :: _ :: _, _ => simp [chkE] at h
    | [_], [] => simp [chkE] at h
    | [_], _ :: _ :: _ => simp [chkE] at h
  all_goals simp [chkE] at h
theorem i_tcmp {op : CmpOp} (h : chkT U N (.cmp op a b) sc e = true) : ∃ x y p, e = .Compare x [op] [y] p ∧ chkE U N a sc x = true ∧ chkE U N b sc y = true ∧ okF y = true := by
  cases e
  case Compare x ops ys p =>
    match ops, ys with
    | [op'], [y] =>
      simp only [chkT, Bool.and_eq_true, decide_eq_true_eq] at h
      obtain ⟨⟨⟨rfl, h1⟩, h2⟩, h3⟩ := h
      exact ⟨x, y, p, rfl, h1, h2, h3⟩
    | [], _ => simp [chkT] at h
    | _ :: _ :: _, _ => simp [chkT] at h
    | [_], [] => simp [chkT] at h
    | [_], _ :: _ :: _ => simp [chkT] at h
  all_goals simp [chkT] at h
theorem i_chn {o1 o2 : CmpOp} (h : chkE U N (.chn o1 o2 a b c) sc e = true) : ∃ x y z p, e = .Compare x [o1, o2] [y, z] p ∧ chkE U N a sc x = true ∧ chkE U N b sc y = true ∧ chkE U N c sc z = true ∧ okF z = true := by
  cases e
  case Compare x ops ys p =>
    match ops, ys with
    | [p1, p2], [y, z] =>
      simp only [chkE, Bool.and_eq_true, decide_eq_true_eq] at h
      obtain ⟨⟨⟨⟨⟨rfl, rfl⟩, h1⟩, h2⟩, h3⟩, h4⟩ := h
      exact ⟨x, y, z, p, rfl, h1, h2, h3, h4⟩
    | [], _ => simp [chkE] at h
    | [_], _ => simp [chkE] at h
    | _ :: _ :: _ :: _, _ => simp [chkE] at h
    | [_, _], [] => simp [chkE] at h
    | [_, _], [_] => simp [chkE] at h
    | [_, _], _ :: _ :: _ :: _ => simp [chkE] at h
  all_goals simp [chkE] at h
theorem i_tchn {o1 o2 : CmpOp} (h : chkT U N (.chn o1 o2 a b c) sc e = true) : ∃ x y z p, e = .Compare x [o1, o2] [y, z] p ∧ chkE U N a sc x = true ∧ chkE U N b sc y = true ∧ chkE U N c sc z = true ∧ okF z = true := by
  cases e
  case Compare x ops ys p =>
    match ops, ys with
    | [p1, p2], [y, z] =>
      simp only [chkT, Bool.and_eq_true, decide_eq_true_eq] at h
      obtain ⟨⟨⟨⟨⟨rfl, rfl⟩, h1⟩, h2⟩, h3⟩, h4⟩ := h
      exact ⟨x, y, z, p, rfl, h1, h2, h3, h4⟩
    | [], _ => simp [chkT] at h
    | [_], _ => simp [chkT] at h
    | _ :: _ :: _ :: _, _ => simp [chkT] at h
    | [_, _], [] => simp [chkT] at h
    | [_, _], [_] => simp [chkT] at h
    | [_, _], _ :: _ :: _ :: _ => simp [chkT] at h
  all_goals simp [chkT] at h
/-- the rest of a chain of and, or -/
def restOf (op : BoolOp) (y : Expr) (r : List Expr) (p : Pos) : Expr := match r with
  | [] => y
  | _ => .BoolOp op (y :: r) p
theorem i_and (h : chkE U N (.and a b) sc e = true) : ∃ x y r p, e = .BoolOp .And (x :: y :: r) p ∧ chkE U N a sc x = true ∧ chkE U N b sc (restOf .And y r p) = true := by
  cases e
  case BoolOp op vs p =>
    cases op
    case And =>
      match vs with
      | x :: y :: r =>
        simp only [chkE, Bool.and_eq_true] at h
        exact ⟨x, y, r, p, rfl, h.1, h.2⟩
      | [] => simp [chkE] at h
      | [_] => simp [chkE] at h
    case Or => simp [chkE] at h
  all_goals simp [chkE] at h
theorem i_or (h : chkE U N (.or a b) sc e = true) : ∃ x y r p, e = .BoolOp .Or (x :: y :: r) p ∧ chkE U N a sc x = true ∧ chkE U N b sc (restOf .Or y r p) = true := by
  cases e
  case BoolOp op vs p =>
    cases op
    case Or =>
      match vs with
      | x :: y :: r =>
        simp only [chkE, Bool.and_eq_true] at h
        exact ⟨x, y, r, p, rfl, h.1, h.2⟩
      | [] => simp [chkE] at h
      | [_] => simp [chkE] at h
    case And => simp [chkE] at h
  all_goals simp [chkE] at h
theorem i_tand {a b : T} (h : chkT U N (.and a b) sc e = true) : ∃ x y r p, e = .BoolOp .And (x :: y :: r) p ∧ chkT U N a sc x = true ∧ chkT U N b sc (restOf .And y r p) = true := by
  cases e
  case BoolOp op vs p =>
    cases op
    case And =>
      match vs with
      | x :: y :: r =>
        simp only [chkT, Bool.and_eq_true] at h
        exact ⟨x, y, r, p, rfl, h.1, h.2⟩
      | [] => simp [chkT] at h
      | [_] => simp [chkT] at h
    case Or => simp [chkT] at h
  all_goals simp [chkT] at h
theorem i_tor {a b : T} (h : chkT U N (.or a b) sc e = true) : ∃ x y r p, e = .BoolOp .Or (x :: y :: r) p ∧ chkT U N a sc x = true ∧ chkT U N b sc (restOf .Or y r p) = true := by
  cases e
  case BoolOp op vs p =>
    cases op
    case Or =>
      match vs with
      | x :: y :: r =>
        simp only [chkT, Bool.and_eq_true] at h
        exact ⟨x, y, r, p, rfl, h.1, h.2⟩
      | [] => simp [chkT] at h
      | [_] => simp [chkT] at h
    case And => simp [chkT] at h
  all_goals simp [chkT] at h
theorem i_call {f : Nat} {ms : List E} {src : List (Sum Nat D)} (h : chkE U N (.call f ms src) sc e = true) : ∃ g gp es kws p ks, e = .Call (.Name g gp) es kws p ∧ U.fnm[f]? = some g ∧ gloB sc g = true ∧ chkEs U N ms sc (es ++ kwVals kws) = true ∧ kwNames kws = some ks ∧ patIn U f es.length ks src = true := by
  cases e
  case Call fe es kws p =>
    cases fe
    case Name g gp =>
      simp only [chkE, Bool.and_eq_true, decide_eq_true_eq] at h
      obtain ⟨⟨⟨h1, h2⟩, h3⟩, h4⟩ := h
      cases q : kwNames kws with
      | none => rw [q] at h4; cases h4
      | some ks => rw [q] at h4; exact ⟨g, gp, es, kws, p, ks, rfl, h1, h2, h3, q, h4⟩
    all_goals simp [chkE] at h
  all_goals simp [chkE] at h
theorem i_bi {f : BI} {ms : List E} (h : chkE U N (.bi f ms) sc e = true) : ∃ g gp x es p, e = .Call (.Name g gp) (x :: es) [] p ∧ biN f = some g ∧ gloB sc g = true ∧ U.nog.contains g = true ∧ chkEs U N ms sc (x :: es) = true := by
  cases e
  case Call fe es kws p =>
    cases fe
    case Name g gp =>
      match es, kws with
      | x :: es, [] =>
        simp only [chkE, Bool.and_eq_true, decide_eq_true_eq] at h
        obtain ⟨⟨⟨h1, h2⟩, h3⟩, h4⟩ := h
        exact ⟨g, gp, x, es, p, rfl, h1, h2, h3, h4⟩
      | [], _ => simp [chkE] at h
      | _ :: _, _ :: _ => simp [chkE] at h
    all_goals simp [chkE] at h
  all_goals simp [chkE] at h
theorem i_lc {elt : E} {g : Tg} {it : I} {cond : T} {own : List Nat} (h : chkE U N (.lc elt g it cond own) sc e = true) : ∃ x tg iter ifs scope p, e = .ListComp x [⟨tg, iter, ifs, 0⟩] scope p ∧ chkI U N it sc tg iter = true ∧ okF iter = true ∧ chkTg (locB scope) N g tg = true ∧ (∀ i ∈ slots g, i ∈ own) ∧
    blkC N sc scope (ownsOf N own) = true ∧ chkE U N elt (relS scope sc) x = true ∧ ((ifs = [] ∧ cond = .yes) ∨ ∃ c, ifs = [c] ∧ chkT U N cond (relS scope sc) c = true) := by
  cases e
  case ListComp x gs scope p =>
    match gs with
    | [⟨tg, iter, ifs, k⟩] =>
      by_cases hk : k = 0
      · subst hk
        unfold chkE at h
        simp only [Bool.and_eq_true, List.all_eq_true] at h
        obtain ⟨⟨⟨⟨⟨⟨h1, h2⟩, h3⟩, h4⟩, h5⟩, h6⟩, h7⟩ := h
        refine ⟨x, tg, iter, ifs, scope, p, rfl, h1, h2, h3, fun i hi => by simpa using h4 i hi, h5, h6, ?_⟩
        match ifs with
        | [] =>
          cases cond <;> simp [isYes] at h7
          exact .inl ⟨rfl, rfl⟩
        | [c] => exact .inr ⟨c, rfl, h7⟩
        | _ :: _ :: _ => simp at h7
      · unfold chkE at h
        split at h <;> first
          | (simp_all; done)
          | exact absurd h (by simp)
    | [] => simp [chkE] at h
    | _ :: _ :: _ => simp [chkE] at h
  all_goals simp [chkE] at h
theorem i_rng {ms : List E} {tg : Expr} (h : chkI U N (.rng ms) sc tg e = true) : ∃ gp es p, e = .Call (.Name "range" gp) es [] p ∧ gloB sc "range" = true ∧ U.nog.contains ("range" : Str) = true ∧ chkEs U N ms sc es = true ∧ (es.length = 1 ∨ es.length = 2) := by
  cases e
  case Call fe es kws p =>
    cases fe
    case Name g gp =>
      match kws with
      | [] =>
        simp only [chkI, Bool.and_eq_true, decide_eq_true_eq, Bool.or_eq_true, beq_iff_eq] at h
        obtain ⟨⟨⟨⟨rfl, h1⟩, h2⟩, h3⟩, h4⟩ := h
        exact ⟨gp, es, p, rfl, h1, h2, h3, h4⟩
      | _ :: _ => simp [chkI] at h
    all_goals simp [chkI] at h
  all_goals simp [chkI] at h
end
mutual
theorem okE : ∀ m : E, OkE U L t n N m
  | .var i, X, sc, e, c, h, P, Xp, hP, tk => by
    cases e <;> simp only [chkE] at h <;> first
      | exact e_var (vis_of c h)
      | exact absurd h (by simp)
  | .ref i, X, sc, e, c, h, P, Xp, hP, tk => ⟨fun pins s σ H Q I q => by
    obtain ⟨env, F, R, ex, w, k⟩ := q
    simp only [wE] at w⟩
  | .con d, X, sc, e, c, h, P, Xp, hP, tk => by
    cases e <;> simp only [chkE] at h <;> first
      | (obtain ⟨v, h1, h2⟩ := const_of (X := X) (P := P) h
         exact e_con h1 h2)
      | exact absurd h (by simp)
  | .glb g d, X, sc, e, c, h, P, Xp, hP, tk => by
    cases e <;> simp only [chkE] at h <;> first
      | (simp only [Bool.and_eq_true, decide_eq_true_eq, List.any_eq_true] at h
         obtain ⟨⟨rfl, h1⟩, q, hq, rfl, h2⟩ := h
         obtain ⟨hg, hdb, hn⟩ := glo_of c h1
         obtain ⟨u, v, h3, h4, h5⟩ := c.gr.cst q hq
         rw [beqD_eq h2] at h5
         exact e_glb (pe_glob hg h3 h4 hdb) (by rw [hP]; exact h5))
      | exact absurd h (by simp)
  | .bin op a b, X, sc, e, c, h, P, Xp, hP, tk => by
    cases e <;> simp only [chkE] at h <;> first
      | (simp only [Bool.and_eq_true, decide_eq_true_eq] at h
         obtain ⟨⟨rfl, h1⟩, h2⟩ := h
         exact e_bin (c.K.trans (by rw [hP])) (okO (okE a) c h1 hP tk) (okO (okE b) c h2 hP tk))
      | exact absurd h (by simp)
  | .neg a, X, sc, e, c, h, P, Xp, hP, tk => by
    obtain ⟨x, p, rfl, h⟩ := i_neg h
    exact e_neg (okO (okE a) c h hP tk)
  | .cmp op a b, X, sc, e, c, h, P, Xp, hP, tk => by
    obtain ⟨x, y, p, rfl, h1, h2, h3⟩ := i_cmp h
    exact e_cmp (c.K.trans (by rw [hP])) c.hu (okO (okE a) c h1 hP tk) (okO (okE b) c h2 hP tk) (mark_of h3)
  | .chn o1 o2 a b c', X, sc, e, c, h, P, Xp, hP, tk => by
    obtain ⟨x, y, z, p, rfl, h1, h2, h3, h4⟩ := i_chn h
    exact e_chn (c.K.trans (by rw [hP])) c.hu (okO (okE a) c h1 hP tk) (okO (okE b) c h2 hP tk) (okO (okE c') c h3 hP tk) (marks_of h4)
  | .and a b, X, sc, e, c, h, P, Xp, hP, tk => by
    obtain ⟨x, y, r, p, rfl, h1, h2⟩ := i_and h
    refine and_core (pe_and (okE a X sc _ c h1 P Xp hP tk) ?_)
    have q := okE b X sc _ c h2 P Xp hP tk
    cases r with
    | nil => exact pe_one q
    | cons z r => exact q
  | .or a b, X, sc, e, c, h, P, Xp, hP, tk => by
    obtain ⟨x, y, r, p, rfl, h1, h2⟩ := i_or h
    refine or_core (pe_or (okE a X sc _ c h1 P Xp hP tk) ?_)
    have q := okE b X sc _ c h2 P Xp hP tk
    cases r with
    | nil => exact pe_one q
    | cons z r => exact q
  | .not a, X, sc, e, c, h, P, Xp, hP, tk => by
    obtain ⟨x, p, rfl, h⟩ := i_not h
    exact e_not (okE a X sc _ c h P Xp hP tk)
  | .ite c' a b, X, sc, e, c, h, P, Xp, hP, tk => by
    cases e <;> simp only [chkE] at h <;> first
      | (simp only [Bool.and_eq_true] at h
         exact e_ite (okT c' X sc _ c h.1.1 P Xp hP tk) (okE a X sc _ c h.1.2 P Xp hP tk) (okE b X sc _ c h.2 P Xp hP tk))
      | exact absurd h (by simp)
  | .tup ms, X, sc, e, c, h, P, Xp, hP, tk => by
    cases e <;> simp only [chkE] at h <;> first
      | (simp only [Bool.and_eq_true, decide_eq_true_eq] at h
         exact e_tup (os_of (okAll ms) c h.1 hP tk) h.2)
      | exact absurd h (by simp)
  | .lst ms, X, sc, e, c, h, P, Xp, hP, tk => by
    cases e <;> simp only [chkE] at h <;> first
      | (simp only [Bool.and_eq_true, decide_eq_true_eq] at h
         exact e_lst (os_of (okAll ms) c h.1 hP tk) h.2)
      | exact absurd h (by simp)
  | .sub a b, X, sc, e, c, h, P, Xp, hP, tk => by
    cases e <;> simp only [chkE] at h <;> first
      | (simp only [Bool.and_eq_true] at h
         exact e_sub (c.K.trans (by rw [hP])) (okO (okE a) c h.1.1 hP tk) (okO (okE b) c h.1.2 hP tk) (ix_of h.2))
      | exact absurd h (by simp)
  | .slc a lo hi, X, sc, e, c, h, P, Xp, hP, tk => by
    simp [chkE] at h
  | .call f ms src, X, sc, e, c, h, P, Xp, hP, tk => by
    obtain ⟨g, gp, es, kws, p, ks, rfl, h1, h2, h3, h4, h5⟩ := i_call h
    exact call_of (okAll ms) c h1 h2 h3 h4 h5 hP tk
  | .make f ms src, X, sc, e, c, h, P, Xp, hP, tk => by
    simp [chkE] at h
  | .bi b ms, X, sc, e, c, h, P, Xp, hP, tk => by
    obtain ⟨g, gp, x, es, p, rfl, h1, h2, h3, h4⟩ := i_bi h
    exact bi_of (okAll ms) c h1 h2 h3 h4 hP tk
  | .isi a y, X, sc, e, c, h, P, Xp, hP, tk => by
    simp [chkE] at h
  | .fld a f, X, sc, e, c, h, P, Xp, hP, tk => by
    simp [chkE] at h
  | .lm m i ms, X, sc, e, c, h, P, Xp, hP, tk => by
    simp [chkE] at h
  | .lc elt g it cond own, X, sc, e, c, h, P, Xp, hP, tk => by
    obtain ⟨x, tg, iter, ifs, scope, p, rfl, h1, h2, h3, h4, h5, h6, h7⟩ := i_lc h
    have bk : BlkOk X.N X.env.scope scope (ownsOf N own) := by rw [c.hN, c.sc]; exact blkOk_by h5
    have hi := okI it X sc tg iter c h1 P Xp hP tk
    have hs := own_slots (N := N) (own := own)
    have q := pe_lc (own := ownsOf N own) (pos := p) (elt := x) (ifs := ifs) (g := gTx P.L g) (te := tEx (Gam t n) P.L elt) (tt := tTx (Gam t n) P.L cond) c.calm c.nd hi bk
      (fun s H C cl fp => pg_ex (C := fun P' => P'.L = P.L) (t := fun P' => gT P' g) fun P' hl => okTg (X := X.blk s H scope (compEnvC scope cl C X.env) fp) c.hN c.nd (c.K.trans (by rw [hl, hP])) c.calm (loc_block (X := X) (sc := sc) (cenv := compEnvC scope cl C X.env) (by show relS scope X.env.scope = _; rw [c.sc]) bk.uniq) g h3)
      (fun s H C cl fp => pts_ex (C := fun P' => P'.L = P.L) (t := fun P' => tT P' (Gam t n) XF cond) fun P' hl => by
        rcases h7 with ⟨rfl, rfl⟩ | ⟨y, rfl, h7⟩
        · exact ⟨fun pins s σ H Q I q => pts_nil.run pins s σ H Q I (by
            obtain ⟨env, F, R, ex, w, k⟩ := q
            simp only [wT] at w
            exact k _ _ H F w (LeH.refl F) ex)⟩
        · exact pts_one (okT cond _ _ y c.block h7 P' XF (hl.trans hP) takes_block))
      (fun s H C cl fp => pe_ex (C := fun P' => P'.L = P.L) (t := fun P' => tE P' (Gam t n) XF elt) fun P' hl => okE elt _ _ x c.block h6 P' XF (hl.trans hP) takes_block) (fold_of h2)
    rw [hs] at q
    exact pe_imp q fun σ H Q w => lc_imp h4 w
theorem okT : ∀ m : T, OkT U L t n N m
  | .yes, X, sc, e, c, h, P, Xp, hP, tk => by
    simp [chkT] at h
  | .tv a, X, sc, e, c, h, P, Xp, hP, tk => by
    simp only [chkT, Bool.and_eq_true] at h
    exact t_tv (c.K.trans (by rw [hP])) (okO (okE a) c h.1 hP tk) (tv_of h.2)
  | .and a b, X, sc, e, c, h, P, Xp, hP, tk => by
    obtain ⟨x, y, r, p, rfl, h1, h2⟩ := i_tand h
    have q := okT b X sc _ c h2 P Xp hP tk
    refine pt_imp (PW.pt (pw_and (okT a X sc _ c h1 P Xp hP tk) ?_)) fun σ H Q h => tand_core h
    cases r with
    | nil => exact pw_and1 q
    | cons z r => exact pw_of q
  | .or a b, X, sc, e, c, h, P, Xp, hP, tk => by
    obtain ⟨x, y, r, p, rfl, h1, h2⟩ := i_tor h
    have q := okT b X sc _ c h2 P Xp hP tk
    refine pt_imp (PW.pt (pw_or (okT a X sc _ c h1 P Xp hP tk) ?_)) fun σ H Q h => tor_core h
    cases r with
    | nil => exact pw_or1 q
    | cons z r => exact pw_of q
  | .not a, X, sc, e, c, h, P, Xp, hP, tk => by
    obtain ⟨x, p, rfl, h⟩ := i_tnot h
    exact t_not (okT a X sc _ c h P Xp hP tk)
  | .cmp op a b, X, sc, e, c, h, P, Xp, hP, tk => by
    obtain ⟨x, y, p, rfl, h1, h2, h3⟩ := i_tcmp h
    exact t_cmp (c.K.trans (by rw [hP])) c.hu (okO (okE a) c h1 hP tk) (okO (okE b) c h2 hP tk) (mark_of h3)
  | .chn o1 o2 a b c', X, sc, e, c, h, P, Xp, hP, tk => by
    obtain ⟨x, y, z, p, rfl, h1, h2, h3, h4⟩ := i_tchn h
    exact t_chn (c.K.trans (by rw [hP])) c.hu (okO (okE a) c h1 hP tk) (okO (okE b) c h2 hP tk) (okO (okE c') c h3 hP tk) (marks_of h4)
theorem okI : ∀ m : I, OkI U L t n N m
  | .it a, X, sc, tg, e, c, h, P, Xp, hP, tk => by
    simp only [chkI] at h
    exact i_it (c.K.trans (by rw [hP])) (okE a X sc _ c h P Xp hP tk)
  | .rng ms, X, sc, tg, e, c, h, P, Xp, hP, tk => by
    obtain ⟨gp, es, p, rfl, h1, h2, h3, h4⟩ := i_rng h
    obtain ⟨hg, _, _⟩ := glo_of c h1
    have pa := os_of (P := P) (Xp := Xp) (okAll ms) c h3 hP tk
    match es, ms, h3, h4 with
    | [x], [m], h3, _ =>
      simp only [chkEs, Bool.and_eq_true] at h3
      exact i_rng1 hg (gl_nog c h2) pa (by rw [star_of h3.1.2]; rfl)
    | [x, y], [m, k], h3, _ =>
      simp only [chkEs, Bool.and_eq_true] at h3
      exact i_rng2 hg (gl_nog c h2) pa (by rw [star_of h3.1.2, star_of h3.2.1.2]; rfl) (by rw [star_of h3.2.1.2]; rfl)
    | [x], [], h3, _ => simp [chkEs] at h3
    | [x], _ :: _ :: _, h3, _ => simp [chkEs] at h3
    | [x, y], [], h3, _ => simp [chkEs] at h3
    | [x, y], [_], h3, _ => simp [chkEs] at h3
    | [x, y], _ :: _ :: _ :: _, h3, _ => simp [chkEs] at h3
    | [], _, _, h4 => simp at h4
    | _ :: _ :: _ :: _, _, _, h4 => simp at h4
  | .enm ms, X, sc, tg, e, c, h, P, Xp, hP, tk => by simp [chkI] at h
  | .zip ms, X, sc, tg, e, c, h, P, Xp, hP, tk => by simp [chkI] at h
  | .rvd ms, X, sc, tg, e, c, h, P, Xp, hP, tk => by simp [chkI] at h
theorem okAll : ∀ ms : List E, ∀ m ∈ ms, OkE U L t n N m
  | [], m, h => absurd h (by simp)
  | k :: ms, m, h => by
    rcases List.mem_cons.mp h with e | h
    · rw [e]; exact okE k
    · exact okAll ms m h
end
end
end G
/-! B2: statements that pass the look. -/
namespace G
open PySem PySem.Spec L2
/-- several names at once: all local, swapped by the compiler; else a tuple is made -/
def namesOf : List Expr → Option (List Str)
  | [] => some []
  | .Name x _ :: r => (namesOf r).map fun t => x :: t
  | _ :: _ => none
def sw2B (sc : Scope) (vs : List Expr) : List Expr → Bool
  | [.Name g1 px, .Name g2 py] => decide (sc.names.lookup g1 = some .local) && decide (sc.names.lookup g2 = some .local) && decide (py.line = px.line) && !(g1 == g2) && !vs.all (foldedForSure 8) && !vs.all (constantsAlone 8) && vs.length == 2
  | _ => false
def sw3B (sc : Scope) (vs : List Expr) : List Expr → Bool
  | [.Name g1 px, .Name g2 py, .Name g3 pz] => decide (sc.names.lookup g1 = some .local) && decide (sc.names.lookup g2 = some .local) && decide (sc.names.lookup g3 = some .local) && decide (py.line = px.line) && decide (pz.line = px.line) && !(g1 == g2) && !(g1 == g3) && !(g2 == g3) &&
    !vs.all (foldedForSure 8) && !vs.all (constantsAlone 8) && vs.length == 3
  | _ => false
def nosB (sc : Scope) (ts vs : List Expr) : Bool :=
  ((ts.filterMap fun
    | .Name id pos => if sc.names.lookup id == some .local && pos.line == (ts.head?.map (·.pos.line)).getD 0 then some id else none
    | _ => none).length != ts.length) || vs.all (foldedForSure 8) || !(ts.length == 2 || ts.length == 3)
def locAll (sc : Scope) (N : List Str) : List Nat → List Expr → Bool
  | [], [] => true
  | i :: is, .Name x _ :: es => decide (N[i]? = some x) && locB sc x && locAll sc N is es
  | _, _ => false
def isTup : Expr → Bool
  | .Tuple .. => true
  | _ => false
def asSet : Stmt → Option (Str × Pos × Expr × Pos)
  | .Assign [.Name x px] y pos => some (x, px, y, pos)
  | _ => none
def asOne : Stmt → Option (Expr × Expr × Pos)
  | .Assign [tg] y pos => some (tg, y, pos)
  | _ => none
def asPar : Stmt → Option (List Expr × Nat × Pos × List Expr × Nat × Pos × Pos)
  | .Assign [.Tuple ts k1 p1] (.Tuple ys k2 p2) pos => some (ts, k1, p1, ys, k2, p2, pos)
  | _ => none
def asPut : Stmt → Option (Str × Pos × Expr × Pos × Expr × Pos)
  | .Assign [.Subscript (.Name x px) z tp] y pos => some (x, px, z, tp, y, pos)
  | _ => none
def asEx : Stmt → Option (Expr × Pos)
  | .Expr y p => some (y, p)
  | _ => none
def asRet : Stmt → Option (Option Expr × Pos)
  | .Return y p => some (y, p)
  | _ => none
def asIf : Stmt → Option (Expr × List Stmt × List Stmt × Pos)
  | .If x xs ys p => some (x, xs, ys, p)
  | _ => none
def asFor : Stmt → Option (Expr × Expr × List Stmt × Pos)
  | .For tg iter xs [] p => some (tg, iter, xs, p)
  | _ => none
def asWhile : Stmt → Option (Expr × List Stmt × Pos)
  | .While x xs [] p => some (x, xs, p)
  | _ => none
def isPass : Stmt → Bool
  | .Pass _ => true
  | .Expr (.Constant (.str _) _ _) _ => true
  | _ => false
def isBrk : Stmt → Bool
  | .Break _ => true
  | _ => false
def isCnt : Stmt → Bool
  | .Continue _ => true
  | _ => false
theorem asSet_eq {s : Stmt} {x px y pos} (h : asSet s = some (x, px, y, pos)) : s = .Assign [.Name x px] y pos := by unfold asSet at h; split at h <;> simp at h; obtain ⟨rfl, rfl, rfl, rfl⟩ := h; rfl
theorem asOne_eq {s : Stmt} {tg y pos} (h : asOne s = some (tg, y, pos)) : s = .Assign [tg] y pos := by unfold asOne at h; split at h <;> simp at h; obtain ⟨rfl, rfl, rfl⟩ := h; rfl
theorem asPar_eq {s : Stmt} {ts k1 p1 ys k2 p2 pos} (h : asPar s = some (ts, k1, p1, ys, k2, p2, pos)) : s = .Assign [.Tuple ts k1 p1] (.Tuple ys k2 p2) pos := by unfold asPar at h; split at h <;> simp at h; obtain ⟨rfl, rfl, rfl, rfl, rfl, rfl, rfl⟩ := h; rfl
theorem asPut_eq {s : Stmt} {x px z tp y pos} (h : asPut s = some (x, px, z, tp, y, pos)) : s = .Assign [.Subscript (.Name x px) z tp] y pos := by unfold asPut at h; split at h <;> simp at h; obtain ⟨rfl, rfl, rfl, rfl, rfl, rfl⟩ := h; rfl
theorem asEx_eq {s : Stmt} {y p} (h : asEx s = some (y, p)) : s = .Expr y p := by unfold asEx at h; split at h <;> simp at h; obtain ⟨rfl, rfl⟩ := h; rfl
theorem asRet_eq {s : Stmt} {y p} (h : asRet s = some (y, p)) : s = .Return y p := by unfold asRet at h; split at h <;> simp at h; obtain ⟨rfl, rfl⟩ := h; rfl
theorem asIf_eq {s : Stmt} {x xs ys p} (h : asIf s = some (x, xs, ys, p)) : s = .If x xs ys p := by unfold asIf at h; split at h <;> simp at h; obtain ⟨rfl, rfl, rfl, rfl⟩ := h; rfl
theorem asFor_eq {s : Stmt} {tg iter xs p} (h : asFor s = some (tg, iter, xs, p)) : s = .For tg iter xs [] p := by unfold asFor at h; split at h <;> simp at h; obtain ⟨rfl, rfl, rfl, rfl⟩ := h; rfl
theorem asWhile_eq {s : Stmt} {x xs p} (h : asWhile s = some (x, xs, p)) : s = .While x xs [] p := by unfold asWhile at h; split at h <;> simp at h; obtain ⟨rfl, rfl, rfl⟩ := h; rfl
/-- a comprehension given to a name -/
def setComp (sc : Scope) (x : Str) (px : Pos) : Expr → Bool
  | .ListComp _ _ scope p => decide (sc.names.lookup x = some .cell) || (decide (sc.names.lookup x = some .local) && (px.line == p.line) && !(scope.names.any fun (n, k) => n == x && (k == .local || k == .cell)))
  | _ => false
mutual
def chkS (U : Tx) (N : List Str) : S → Scope → Stmt → Bool
  | .asg i e, sc, s => match asSet s with
    | some (x, px, y, _) => decide (N[i]? = some x) && locB sc x && chkE U N e sc y && (noComp y || setComp sc x px y)
    | none => false
  | .asgT t e, sc, s => match asOne s with
    | some (tg, y, _) => isTup tg && chkTg (locB sc) N t tg && noComp y && noTup y && chkE U N e sc y
    | none => false
  | .par is es, sc, s => match asPar s with
    | some (ts, _, _, ys, _, _, _) => locAll sc N is ts && chkEs U N es sc ys && decide is.Nodup && decide (es.length ≤ 1000) && decide (is.length = es.length) && (sw2B sc ys ts || sw3B sc ys ts || nosB sc ts ys)
    | none => false
  | .put i ix e, sc, s => match asPut s with
    | some (x, _, z, _, y, _) => visN sc N x i && chkE U N ix sc z && okF z && chkE U N e sc y && noComp y
    | none => false
  | .ex e, sc, s => match asEx s with
    | some (y, _) => chkE U N e sc y && noComp y
    | none => false
  | .pass, sc, s => isPass s
  | .brk, sc, s => isBrk s
  | .cnt, sc, s => isCnt s
  | .ret e, sc, s => match asRet s with
    | some (some y, _) => chkE U N e sc y
    | _ => false
  | .retN, sc, s => match asRet s with
    | some (none, _) => true
    | _ => false
  | .ite c a b, sc, s => match asIf s with
    | some (x, xs, ys, _) => chkT U N c sc x && chkSs U N a sc xs && chkSs U N b sc ys
    | none => false
  | .for_ t it b, sc, s => match asFor s with
    | some (tg, iter, xs, _) => chkI U N it sc tg iter && okF iter && chkTg (locB sc) N t tg && chkSs U N b sc xs
    | none => false
  | .while_ c b, sc, s => match asWhile s with
    | some (x, xs, _) => chkT U N c sc x && chkSs U N b sc xs
    | none => false
def chkSs (U : Tx) (N : List Str) : List S → Scope → List Stmt → Bool
  | [], sc, [] => true
  | m :: ms, sc, s :: ss => chkS U N m sc s && chkSs U N ms sc ss
  | _, _, _ => false
end
section
variable {U : Tx} {L : Lay} {t : Text} {n : Nat} {N : List Str} {sc : Scope} {X : Cx} {P : PP} {Xp : XP} {pos : Pos}
theorem loc_of (c : CO U L t n N sc X) {x : Str} (h : locB sc x = true) : Loc X.env.scope x := by
  rw [c.sc]
  unfold locB at h
  split at h
  · exact .inl (by assumption)
  · exact .inr (by assumption)
  · cases h
theorem blockKind_fn {env : PySem.Env} (h : env.scope.kind = .function) : env.blockKind = .function := by
  unfold Env.blockKind
  rw [h]
  rfl
theorem stores_none {env : PySem.Env} {ts vs : List Expr} {k1 k2 : Nat} {p1 p2 : Pos} (hs : env.scope = sc) (h : nosB sc ts vs = true) : swappedStores [.Tuple ts k1 p1] (.Tuple vs k2 p2) env = pure none := by
  unfold swappedStores
  dsimp only
  simp only [Env.kindOf, hs]
  simp only [nosB] at h
  generalize (List.filterMap _ ts) = nm at h ⊢
  split
  · rfl
  · rename_i c1
    split
    · rfl
    · split
      · rfl
      · rename_i c3
        split
        · rfl
        · rename_i c4
          exfalso
          simp only [Bool.or_eq_true, not_or, Bool.not_eq_true] at c1 c3 h
          rcases h with (h | h) | h
          · rw [c3.1] at h; cases h
          · exact c4 h
          · rw [c1.1.1] at h; cases h
theorem folded_no {q : Bool} {α : Type} {a b : α} (h : q = false) : (if q = true then a else b) = b := by rw [h]; rfl
theorem stores_two {env : PySem.Env} {g1 g2 : Str} {px py : Pos} {vs : List Expr} {k1 k2 : Nat} {p1 p2 : Pos} (hk : env.scope.kind = .function) (hs : env.scope = sc) (hv : ∀ v ∈ vs, okF v = true) (h : sw2B sc vs [.Name g1 px, .Name g2 py] = true) :
    sc.names.lookup g1 = some .local ∧ sc.names.lookup g2 = some .local ∧ swappedStores [.Tuple [.Name g1 px, .Name g2 py] k1 p1] (.Tuple vs k2 p2) env = pure (some [g1, g2]) := by
  simp only [sw2B, Bool.and_eq_true, Bool.not_eq_true', decide_eq_true_eq, beq_iff_eq, beq_eq_false_iff_ne, ne_eq] at h
  obtain ⟨⟨⟨⟨⟨⟨h1, h2⟩, h3⟩, h4⟩, h5⟩, h6⟩, h7⟩ := h
  refine ⟨h1, h2, ?_⟩
  have h4' : ¬ g2 = g1 := fun z => h4 z.symm
  have l1 : env.kindOf g1 = some .local := by rw [Env.kindOf, hs]; exact h1
  have l2 : env.kindOf g2 = some .local := by rw [Env.kindOf, hs]; exact h2
  have eD : ([g1, g2] : List Str).eraseDups = [g1, g2] := by simp only [List.eraseDups_cons, List.filter_cons, List.filter_nil, List.eraseDups_nil, beq_iff_eq, h4', decide_false, Bool.not_false, if_true, beq_eq_false_iff_ne.mpr h4', Bool.not_false]
  unfold swappedStores
  dsimp only
  have nm : ∀ f : Expr → Option Str, f (.Name g1 px) = some g1 → f (.Name g2 py) = some g2 → [Expr.Name g1 px, Expr.Name g2 py].filterMap f = [g1, g2] := fun f a b => by
    rw [List.filterMap_cons, a, List.filterMap_cons, b, List.filterMap_nil]
  rw [nm _ (by simp [l1, Expr.pos]) (by simp [l2, Expr.pos, h3])]
  split
  · rename_i c
    rw [blockKind_fn hk, h7] at c
    exact absurd (show false = true from c) Bool.false_ne_true
  · split
    · rename_i c
      rw [List.any_eq_true] at c
      obtain ⟨v, hm, c⟩ := c
      have := hv v hm
      cases v <;> simp [okF] at this c
    · split
      · rename_i c
        rw [eD] at c
        exact absurd (show false = true from c) Bool.false_ne_true
      · rw [h5, h6]
        rfl
theorem stores_three {env : PySem.Env} {g1 g2 g3 : Str} {px py pz : Pos} {vs : List Expr} {k1 k2 : Nat} {p1 p2 : Pos} (hk : env.scope.kind = .function) (hs : env.scope = sc) (hv : ∀ v ∈ vs, okF v = true) (h : sw3B sc vs [.Name g1 px, .Name g2 py, .Name g3 pz] = true) :
    sc.names.lookup g1 = some .local ∧ sc.names.lookup g2 = some .local ∧ sc.names.lookup g3 = some .local ∧ swappedStores [.Tuple [.Name g1 px, .Name g2 py, .Name g3 pz] k1 p1] (.Tuple vs k2 p2) env = pure (some [g1, g2, g3]) := by
  simp only [sw3B, Bool.and_eq_true, Bool.not_eq_true', decide_eq_true_eq, beq_iff_eq, beq_eq_false_iff_ne, ne_eq] at h
  obtain ⟨⟨⟨⟨⟨⟨⟨⟨⟨⟨h1, h2⟩, h2'⟩, h3⟩, h3'⟩, h4⟩, h4a⟩, h4b⟩, h5⟩, h6⟩, h7⟩ := h
  refine ⟨h1, h2, h2', ?_⟩
  have n1 : (g2 == g1) = false := beq_eq_false_iff_ne.mpr fun z => h4 z.symm
  have n2 : (g3 == g1) = false := beq_eq_false_iff_ne.mpr fun z => h4a z.symm
  have n3 : (g3 == g2) = false := beq_eq_false_iff_ne.mpr fun z => h4b z.symm
  have l1 : env.kindOf g1 = some .local := by rw [Env.kindOf, hs]; exact h1
  have l2 : env.kindOf g2 = some .local := by rw [Env.kindOf, hs]; exact h2
  have l3 : env.kindOf g3 = some .local := by rw [Env.kindOf, hs]; exact h2'
  have eD : ([g1, g2, g3] : List Str).eraseDups = [g1, g2, g3] := by
    simp only [List.eraseDups_cons, List.filter_cons, List.filter_nil, List.eraseDups_nil, n1, n2, n3, Bool.not_false, if_true]
  unfold swappedStores
  dsimp only
  have nm : ∀ f : Expr → Option Str, f (.Name g1 px) = some g1 → f (.Name g2 py) = some g2 → f (.Name g3 pz) = some g3 → [Expr.Name g1 px, Expr.Name g2 py, Expr.Name g3 pz].filterMap f = [g1, g2, g3] := fun f a b c => by
    rw [List.filterMap_cons, a, List.filterMap_cons, b, List.filterMap_cons, c, List.filterMap_nil]
  rw [nm _ (by simp [l1, Expr.pos]) (by simp [l2, Expr.pos, h3]) (by simp [l3, Expr.pos, h3'])]
  split
  · rename_i c
    rw [blockKind_fn hk, h7] at c
    exact absurd (show false = true from c) Bool.false_ne_true
  · split
    · rename_i c
      rw [List.any_eq_true] at c
      obtain ⟨v, hm, c⟩ := c
      have := hv v hm
      cases v <;> simp [okF] at this c
    · split
      · rename_i c
        rw [eD] at c
        exact absurd (show false = true from c) Bool.false_ne_true
      · rw [h5, h6]
        rfl
theorem rs_of : ∀ {ms : List E} {es : List Expr} {P : PP}, CO U L t n N sc X → chkEs U N ms sc es = true → P.L = L → Takes X (WXo P Xp) → PA X es (tRs P (Gam t n) Xp ms)
  | [], [], _, _, _, _, _ => rs_nil
  | [], _ :: _, _, _, h, _, _ => by simp [chkEs] at h
  | _ :: _, [], _, _, h, _, _ => by simp [chkEs] at h
  | m :: ms, e :: es, P, c, h, hP, tk => by
    simp only [chkEs, Bool.and_eq_true] at h
    exact rs_cons (okE m X sc e c h.1.1 P Xp hP tk) (fun P' hl => rs_of c h.2 (hl.L.trans hP) (tk.imp hl.wx)) (star_of h.1.2)
theorem chkEs_okF : ∀ {ms : List E} {es : List Expr}, chkEs U N ms sc es = true → ms.length = es.length ∧ ∀ e ∈ es, okF e = true
  | [], [], _ => ⟨rfl, fun _ h => by simp at h⟩
  | [], _ :: _, h => by simp [chkEs] at h
  | _ :: _, [], h => by simp [chkEs] at h
  | m :: ms, e :: es, h => by
    simp only [chkEs, Bool.and_eq_true] at h
    obtain ⟨h1, h2⟩ := chkEs_okF h.2
    refine ⟨by rw [List.length_cons, List.length_cons, h1], fun x hx => ?_⟩
    rcases List.mem_cons.mp hx with rfl | hx
    · exact h.1.2
    · exact h2 x hx
theorem names_of (c : CO U L t n N sc X) (hf : ∀ x, X.fn x = true) : ∀ {is : List Nat} {ts : List Expr}, locAll sc N is ts = true → PGs X ts (gNs is) ∧ ts.length = is.length ∧ (assignEach ts X.env).length = is.length ∧ (assignEach ts X.env).findIdx? (·.1) = none
  | [], [], _ => ⟨gn_nil, rfl, rfl, rfl⟩
  | [], _ :: _, h => by simp [locAll] at h
  | _ :: _, [], h => by simp [locAll] at h
  | i :: is, e :: es, h => by
    cases e
    case Name x p =>
      simp only [locAll, Bool.and_eq_true, decide_eq_true_eq] at h
      obtain ⟨h1, h2, h3, h4⟩ := names_of c hf h.2
      refine ⟨gn_cons (pg_name c.nd (by rw [c.hN]; exact h.1.1) (loc_of c h.1.2) (.inl (hf x))) h1 rfl, by rw [List.length_cons, List.length_cons, h2], ?_, ?_⟩
      · show (assignEach es X.env).length + 1 = _
        rw [h3, List.length_cons]
      · show List.findIdx? _ ((false, _) :: assignEach es X.env) = none
        rw [List.findIdx?_cons]
        simp only [h4]
        rfl
    all_goals simp [locAll] at h
theorem locAll_at : ∀ {is : List Nat} {ts : List Expr}, locAll sc N is ts = true → ∀ (k : Nat) (x : Str) (p : Pos), ts[k]? = some (.Name x p) → ∃ i, is[k]? = some i ∧ N[i]? = some x
  | [], [], _, k, x, p, h => by simp at h
  | [], _ :: _, h, _, _, _, _ => by simp [locAll] at h
  | _ :: _, [], h, _, _, _, _ => by simp [locAll] at h
  | i :: is, e :: es, h, k, x, p, q => by
    cases e
    case Name y p' =>
      simp only [locAll, Bool.and_eq_true, decide_eq_true_eq] at h
      cases k with
      | zero => simp at q; obtain ⟨rfl, rfl⟩ := q; exact ⟨i, rfl, h.1.1⟩
      | succ k =>
        obtain ⟨j, h1, h2⟩ := locAll_at h.2 k x p (by simpa using q)
        exact ⟨j, by simpa using h1, h2⟩
    all_goals simp [locAll] at h
end
end G
/-! B3: every statement that passes the look keeps its meaning. -/
namespace G
open PySem PySem.Spec L2
def OkS (U : Tx) (L : Lay) (t : Text) (n : Nat) (N : List Str) (m : S) : Prop :=
  ∀ (X : Cx) (sc : Scope) (s : Stmt), CO U L t n N sc X → (∀ x, X.fn x = true) → sc.kind = .function → chkS U N m sc s = true → ∀ (P : PP) (Xp : XP), P.L = L → Takes X (WXo P Xp) → PS X s (tS P (Gam t n) Xp m)
def OkSs (U : Tx) (L : Lay) (t : Text) (n : Nat) (N : List Str) (ms : List S) : Prop :=
  ∀ (X : Cx) (sc : Scope) (s : List Stmt), CO U L t n N sc X → (∀ x, X.fn x = true) → sc.kind = .function → chkSs U N ms sc s = true → ∀ (P : PP) (Xp : XP), P.L = L → Takes X (WXo P Xp) → PSs X s (tSs P (Gam t n) Xp ms)
section
variable {U : Tx} {L : Lay} {t : Text} {n : Nat} {N : List Str} {sc : Scope} {X : Cx} {P : PP} {Xp : XP} {pos : Pos}
theorem st_of (c : CO U L t n N sc X) (hf : ∀ x, X.fn x = true) : ∀ x, locB sc x = true → Loc X.env.scope x ∧ (X.fn x = true ∨ X.env.scope.names.lookup x = some .local) := fun x h => ⟨loc_of c h, .inl (hf x)⟩
theorem sub_assign {o z : Expr} {p : Pos} {env : PySem.Env} (h : okF z = true) : ∀ v, assign (.Subscript o z p) env v = (do
      let ov ← holding [v] (eval o env)
      let iv ← holding [v, ov] (eval z env)
      standAt p
      holding [v, ov, iv] (setItem ov iv v)
      release [v, ov, iv] []) := fun v => by
  cases z <;> first
    | rfl
    | (simp [okF] at h)
theorem isTup_of {tg : Expr} (h : isTup tg = true) : ∃ ts k p, tg = .Tuple ts k p := by
  cases tg <;> first
    | exact ⟨_, _, _, rfl⟩
    | (simp [isTup] at h)
theorem ret_imp {e : Expr} {m : E} (hv : ∀ i, m = .var i → PE X e (tVar i)) (he : PE X e (tE P (Gam t n) Xp m)) : PS X (.Return (some e) pos) (tS P (Gam t n) Xp (.ret m)) := by
  by_cases h : ∃ i, m = .var i
  · obtain ⟨i, rfl⟩ := h
    exact s_retV (hv i rfl)
  · exact s_ret (fun i q => h ⟨i, q⟩) he
theorem var_vis (c : CO U L t n N sc X) {x : Expr} {m : E} (h : chkE U N m sc x = true) : ∀ i, m = .var i → PE X x (tVar i) := fun i e => by
  subst e
  cases x <;> simp only [chkE] at h <;> first
    | exact vis_of c h
    | (exact absurd h (by simp))
theorem nodup2 {i j : Nat} (h : [i, j].Nodup) : i ≠ j := by simpa using h
theorem nodup3 {i j k : Nat} (h : [i, j, k].Nodup) : i ≠ j ∧ i ≠ k ∧ j ≠ k := by
  simp only [List.nodup_cons, List.mem_cons, List.not_mem_nil, or_false, not_or] at h
  exact ⟨h.1.1, h.1.2, h.2.1⟩
theorem par_ok {is : List Nat} {ms : List E} {ts ys : List Expr} {k1 k2 : Nat} {p1 p2 : Pos} (c : CO U L t n N sc X) (hf : ∀ x, X.fn x = true) (hk : sc.kind = .function) (h1 : locAll sc N is ts = true) (h2 : chkEs U N ms sc ys = true) (h3 : is.Nodup) (h4 : ms.length ≤ 1000) (h5 : is.length = ms.length)
    (h6 : (sw2B sc ys ts || sw3B sc ys ts || nosB sc ts ys) = true) (hP : P.L = L) (tk : Takes X (WXo P Xp)) : PS X (.Assign [.Tuple ts k1 p1] (.Tuple ys k2 p2) pos) (tS P (Gam t n) Xp (.par is ms)) := by
  have pa := rs_of (P := P) (Xp := Xp) c h2 hP tk
  obtain ⟨lm, hok⟩ := chkEs_okF h2
  obtain ⟨pg, l1, l2, l3⟩ := names_of c hf h1
  have hkX : X.env.scope.kind = .function := by rw [c.sc]; exact hk
  simp only [Bool.or_eq_true] at h6
  rcases h6 with (h6 | h6) | h6
  · match ts, h6 with
    | [.Name g1 px, .Name g2 py], h6 =>
      obtain ⟨q1, q2, q3⟩ := stores_two (k1 := k1) (k2 := k2) (p1 := p1) (p2 := p2) hkX c.sc hok h6
      match is, l1, h5, h3, h1 with
      | [i, j], _, h5, h3, h1 =>
        obtain ⟨i', a1, a2⟩ := locAll_at h1 0 g1 px rfl
        obtain ⟨j', b1, b2⟩ := locAll_at h1 1 g2 py rfl
        cases a1; cases b1
        match ys, lm, pa, q3 with
        | [y1, y2], _, pa, q3 => exact s_par2 c.calm c.nd (by rw [c.hN]; exact a2) (by rw [c.hN]; exact b2) (nodup2 h3) (by rw [c.sc]; exact q1) (by rw [c.sc]; exact q2) pa h5.symm q3 rfl
        | [], lm, _, _ => rw [← h5] at lm; simp at lm
        | [_], lm, _, _ => rw [← h5] at lm; simp at lm
        | _ :: _ :: _ :: _, lm, _, _ => rw [← h5] at lm; simp at lm
  · match ts, h6 with
    | [.Name g1 px, .Name g2 py, .Name g3 pz], h6 =>
      obtain ⟨q1, q2, q2', q3⟩ := stores_three (k1 := k1) (k2 := k2) (p1 := p1) (p2 := p2) hkX c.sc hok h6
      match is, l1, h5, h3, h1 with
      | [i, j, l], _, h5, h3, h1 =>
        obtain ⟨i', a1, a2⟩ := locAll_at h1 0 g1 px rfl
        obtain ⟨j', b1, b2⟩ := locAll_at h1 1 g2 py rfl
        obtain ⟨l', d1, d2⟩ := locAll_at h1 2 g3 pz rfl
        cases a1; cases b1; cases d1
        obtain ⟨n1, n2, n3⟩ := nodup3 h3
        match ys, lm, pa, q3 with
        | [y1, y2, y3], _, pa, q3 => exact s_par3 c.calm c.nd (by rw [c.hN]; exact a2) (by rw [c.hN]; exact b2) (by rw [c.hN]; exact d2) n1 n2 n3 (by rw [c.sc]; exact q1) (by rw [c.sc]; exact q2) (by rw [c.sc]; exact q2') pa h5.symm q3 rfl
        | [], lm, _, _ => rw [← h5] at lm; simp at lm
        | [_], lm, _, _ => rw [← h5] at lm; simp at lm
        | [_, _], lm, _, _ => rw [← h5] at lm; simp at lm
        | _ :: _ :: _ :: _ :: _, lm, _, _ => rw [← h5] at lm; simp at lm
  · exact s_parT c.calm pa pg h4 h5 l2 l3 rfl (stores_none c.sc h6) rfl
theorem lc_shape {e : E} {el : Expr} {gs : List Comprehension} {scope : Scope} {p : Pos} (h : chkE U N e sc (.ListComp el gs scope p) = true) : ∃ elt g it cond own, e = .lc elt g it cond own := by
  cases e <;> first
    | exact ⟨_, _, _, _, _, rfl⟩
    | (simp [chkE] at h)
theorem swap_cell {el : Expr} {gs : List Comprehension} {scope : Scope} {p px : Pos} {x : Str} {l : Nat} {env : PySem.Env} (h : env.kindOf x = some .cell) : swapsWith (.ListComp el gs scope p) (some (.Name x px)) l env = pure false := by
  unfold swapsWith
  simp only [h]
  have : ((some NameKind.cell : Option NameKind) == some NameKind.local) = false := by decide
  rw [this]
  simp
theorem stores_sub {o z y : Expr} {p : Pos} {env : PySem.Env} : swappedStores [.Subscript o z p] y env = pure none := by
  cases y <;> rfl
theorem asgc_ok {i : Nat} {e : E} {x : Str} {px pos : Pos} {y : Expr} (c : CO U L t n N sc X) (hf : ∀ x, X.fn x = true) (hk : sc.kind = .function) (h1 : N[i]? = some x) (h2 : locB sc x = true) (h3 : chkE U N e sc y = true) (h4 : setComp sc x px y = true) (hP : P.L = L) (tk : Takes X (WXo P Xp)) :
    PS X (.Assign [.Name x px] y pos) (tS P (Gam t n) Xp (.asg i e)) := by
  cases y
  case ListComp el gs scope p =>
    simp only [setComp, Bool.or_eq_true, decide_eq_true_eq, Bool.and_eq_true, Bool.not_eq_true'] at h4
    rcases h4 with h4 | h4
    · exact ps_imp (ps_set c.nd (by rw [c.hN]; exact h1) (loc_of c h2) (okE e X sc _ c h3 P Xp hP tk) (swap_cell (by rw [Env.kindOf, c.sc]; exact h4)) (.inl (hf x))) fun Dn σ H q => asg_imp q
    · obtain ⟨elt, g, it, cond, own, rfl⟩ := lc_shape h3
      obtain ⟨x', tg, iter, ifs, scope', p', e1, k1, k2, k3, k4, k5, k6, k7⟩ := i_lc h3
      injection e1 with a1 a2 a3 a4
      subst a1; subst a2; subst a3; subst a4
      have bk : BlkOk X.N X.env.scope scope (ownsOf N own) := by rw [c.hN, c.sc]; exact blkOk_by k5
      have hi := okI it X sc tg iter c k1 P Xp hP tk
      have hs := own_slots (N := N) (own := own)
      have q := ps_setLc (i := i) (y := x) (py := px) (spos := pos) (own := ownsOf N own) (pos := p) (elt := el) (ifs := ifs) (g := gTx P.L g) (te := tEx (Gam t n) P.L elt) (tt := tTx (Gam t n) P.L cond) c.calm c.nd (by rw [c.hN]; exact h1) (by rw [c.sc]; exact h4.1.1)
        (sw_true (by rw [c.sc]; exact hk) (by rw [c.sc]; exact h4.1.1) h4.1.2 h4.2) hi bk
        (fun s H C cl fp => pg_ex (C := fun P' => P'.L = P.L) (t := fun P' => gT P' g) fun P' hl => okTg (X := X.blk s H scope (compEnvC scope cl C X.env) fp) c.hN c.nd (c.K.trans (by rw [hl, hP])) c.calm (loc_block (X := X) (sc := sc) (cenv := compEnvC scope cl C X.env) (by show relS scope X.env.scope = _; rw [c.sc]) bk.uniq) g k3)
        (fun s H C cl fp => pts_ex (C := fun P' => P'.L = P.L) (t := fun P' => tT P' (Gam t n) XF cond) fun P' hl => by
          rcases k7 with ⟨rfl, rfl⟩ | ⟨y, rfl, h7⟩
          · exact ⟨fun pins s σ H Q I q => pts_nil.run pins s σ H Q I (by
              obtain ⟨env, F, R, ex, w, k⟩ := q
              simp only [wT] at w
              exact k _ _ H F w (LeH.refl F) ex)⟩
          · exact pts_one (okT cond _ _ y c.block h7 P' XF (hl.trans hP) takes_block))
        (fun s H C cl fp => pe_ex (C := fun P' => P'.L = P.L) (t := fun P' => tE P' (Gam t n) XF elt) fun P' hl => okE elt _ _ _ c.block k6 P' XF (hl.trans hP) takes_block) (fold_of k2)
      rw [hs] at q
      exact ps_imp q fun Dn σ H w => lc_imp k4 (asg_imp w)
  all_goals simp [setComp] at h4
mutual
theorem okS : ∀ m : S, OkS U L t n N m
  | .asg i e, X, sc, s, c, hf, hk, h, P, Xp, hP, tk => by
    unfold chkS at h
    split at h
    · rename_i x px y pos q
      rw [asSet_eq q]
      simp only [Bool.and_eq_true, decide_eq_true_eq, Bool.or_eq_true] at h
      obtain ⟨⟨⟨h1, h2⟩, h3⟩, h4⟩ := h
      rcases h4 with h4 | h4
      · exact ps_imp (ps_set c.nd (by rw [c.hN]; exact h1) (loc_of c h2) (okE e X sc y c h3 P Xp hP tk) (swap_of h4) (.inl (hf x))) fun Dn σ H q => asg_imp q
      · exact asgc_ok c hf hk h1 h2 h3 h4 hP tk
    · cases h
  | .asgT g e, X, sc, s, c, hf, hk, h, P, Xp, hP, tk => by
    unfold chkS at h
    split at h
    · rename_i tg y pos q
      rw [asOne_eq q]
      simp only [Bool.and_eq_true] at h
      obtain ⟨⟨⟨⟨h1, h2⟩, h3⟩, h4⟩, h5⟩ := h
      obtain ⟨ts, k, p, rfl⟩ := isTup_of h1
      exact s_asgT (okE e X sc y c h5 P Xp hP tk) (okTg c.hN c.nd (c.K.trans (by rw [hP])) c.calm (st_of c hf) g h2) (swapS_of h3) (stores_of h4) rfl
    · cases h
  | .par is es, X, sc, s, c, hf, hk, h, P, Xp, hP, tk => by
    unfold chkS at h
    split at h
    · rename_i q
      rw [asPar_eq q]
      simp only [Bool.and_eq_true, decide_eq_true_eq] at h
      obtain ⟨⟨⟨⟨⟨h1, h2⟩, h3⟩, h4⟩, h5⟩, h6⟩ := h
      exact par_ok c hf hk h1 h2 h3 h4 h5 h6 hP tk
    · cases h
  | .put i ix e, X, sc, s, c, hf, hk, h, P, Xp, hP, tk => by
    unfold chkS at h
    split at h
    · rename_i q
      rw [asPut_eq q]
      simp only [Bool.and_eq_true] at h
      obtain ⟨⟨⟨⟨h1, h2⟩, h3⟩, h4⟩, h5⟩ := h
      have hv := fun p => vis_of (X := X) (pos := p) c h1
      have hi := okO (okE ix) c h2 hP tk
      exact s_put (hv _) hi (okE e X sc _ c h4 P Xp hP tk) (pg_sub (hv _) hi set_list (sub_assign h3)) (swapS_of h5) stores_sub rfl
    · cases h
  | .ex e, X, sc, s, c, hf, hk, h, P, Xp, hP, tk => by
    unfold chkS at h
    split at h
    · rename_i q
      rw [asEx_eq q]
      simp only [Bool.and_eq_true] at h
      exact s_ex (okE e X sc _ c h.1 P Xp hP tk) (swap_of h.2)
    · cases h
  | .pass, X, sc, s, c, hf, hk, h, P, Xp, hP, tk => by
    simp only [chkS] at h
    unfold isPass at h
    split at h
    · exact s_pass
    · exact s_doc
    · cases h
  | .brk, X, sc, s, c, hf, hk, h, P, Xp, hP, tk => by
    simp only [chkS] at h
    unfold isBrk at h
    split at h
    · exact s_brk
    · cases h
  | .cnt, X, sc, s, c, hf, hk, h, P, Xp, hP, tk => by
    simp only [chkS] at h
    unfold isCnt at h
    split at h
    · exact s_cnt
    · cases h
  | .ret e, X, sc, s, c, hf, hk, h, P, Xp, hP, tk => by
    unfold chkS at h
    split at h
    · rename_i q
      rw [asRet_eq q]
      exact ret_imp (var_vis c h) (okE e X sc _ c h P Xp hP tk)
    · cases h
  | .retN, X, sc, s, c, hf, hk, h, P, Xp, hP, tk => by
    unfold chkS at h
    split at h
    · rename_i q
      rw [asRet_eq q]
      exact s_retN
    · cases h
  | .ite b a d, X, sc, s, c, hf, hk, h, P, Xp, hP, tk => by
    unfold chkS at h
    split at h
    · rename_i q
      rw [asIf_eq q]
      simp only [Bool.and_eq_true] at h
      exact s_ite (okT b X sc _ c h.1.1 P Xp hP tk) (okSs a X sc _ c hf hk h.1.2 P Xp hP tk) (okSs d X sc _ c hf hk h.2 P Xp hP tk)
    · cases h
  | .for_ g it b, X, sc, s, c, hf, hk, h, P, Xp, hP, tk => by
    unfold chkS at h
    split at h
    · rename_i q
      rw [asFor_eq q]
      simp only [Bool.and_eq_true] at h
      obtain ⟨⟨⟨h1, h2⟩, h3⟩, h4⟩ := h
      exact s_for c.pas c.calm (okI it X sc _ _ c h1 P Xp hP tk) (fun P' hl => okTg c.hN c.nd (c.K.trans (by rw [hl.L, hP])) c.calm (st_of c hf) g h3) (fun P' hl => okSs b X sc _ c hf hk h4 P' Xp (hl.L.trans hP) (tk.imp hl.wx)) (fold_of h2)
    · cases h
  | .while_ b a, X, sc, s, c, hf, hk, h, P, Xp, hP, tk => by
    unfold chkS at h
    split at h
    · rename_i q
      rw [asWhile_eq q]
      simp only [Bool.and_eq_true] at h
      exact s_while c.pas (okT b X sc _ c h.1 P Xp hP tk) (okSs a X sc _ c hf hk h.2 P Xp hP tk)
    · cases h
theorem okSs : ∀ ms : List S, OkSs U L t n N ms
  | [], X, sc, ss, c, hf, hk, h, P, Xp, hP, tk => by
    cases ss with
    | nil => exact ss_nil
    | cons _ _ => simp [chkSs] at h
  | m :: ms, X, sc, ss, c, hf, hk, h, P, Xp, hP, tk => by
    cases ss with
    | nil => simp [chkSs] at h
    | cons s ss =>
      simp only [chkSs, Bool.and_eq_true] at h
      exact ss_cons (okS m X sc s c hf hk h.1 P Xp hP tk) (okSs ms X sc ss c hf hk h.2 P Xp hP tk)
end
end
end G
/-! B4: every def keeps its meaning, calls n deep. -/
namespace G
open PySem PySem.Spec L2

/-- the context that a def's body runs in -/
def bodyP (L : Lay) (F H : Hp) (vs : List V) (as : List EV) : PP where
  L := L
  O := fun a => if F a = none ∧ a ∉ borA vs as then H a else none
  B := fun i => adr (vs[i]?.getD .non)
  isB := fun i => match as[i]? with
    | some (.bor _) => true
    | _ => false
  F0 := F
theorem bor_mem : ∀ {vs : List V} {as : List EV} {i : Nat} {v : V} {o : OV}, vs[i]? = some v → as[i]? = some (.bor o) → adr v ∈ borA vs as
  | [], _, _, _, _, h, _ => by simp at h
  | _ :: _, [], _, _, _, _, h => by simp at h
  | w :: vs, a :: as, 0, v, o, h, k => by
    simp at h k
    subst h; subst k
    exact List.mem_cons_self ..
  | w :: vs, a :: as, i + 1, v, o, h, k => by
    have := bor_mem (i := i) (vs := vs) (as := as) (by simpa using h) (by simpa using k)
    cases a <;> first
      | exact this
      | exact List.mem_cons_of_mem _ this
theorem mem_bor : ∀ {vs : List V} {as : List EV} {p : Addr}, p ∈ borA vs as → ∃ (i : Nat) (v : V) (o : OV), vs[i]? = some v ∧ as[i]? = some (EV.bor o) ∧ adr v = p
  | [], _, _, h => by simp [borA] at h
  | _ :: _, [], _, h => by simp [borA] at h
  | w :: vs, a :: as, p, h => by
    have up : p ∈ borA vs as → ∃ (i : Nat) (v : V) (o : OV), (w :: vs)[i]? = some v ∧ (a :: as)[i]? = some (EV.bor o) ∧ adr v = p := fun h => by
      obtain ⟨i, v, o, h1, h2, h3⟩ := mem_bor h
      exact ⟨i + 1, v, o, by simpa using h1, by simpa using h2, h3⟩
    cases a with
    | val d => exact up h
    | own o => exact up h
    | bor o =>
      rcases List.mem_cons.mp h with e | h
      · exact ⟨0, w, o, rfl, rfl, e.symm⟩
      · exact up h
theorem bor_ne : ∀ {vs : List V} {as : List EV} {i j : Nat} {v w : V} {o u : OV}, (borA vs as).Nodup → vs[i]? = some v → vs[j]? = some w → as[i]? = some (.bor o) → as[j]? = some (.bor u) → i ≠ j → adr v ≠ adr w
  | [], _, _, _, _, _, _, _, _, h, _, _, _, _ => by simp at h
  | _ :: _, [], _, _, _, _, _, _, _, _, _, h, _, _ => by simp at h
  | x :: vs, a :: as, 0, 0, _, _, _, _, _, _, _, _, _, n => absurd rfl n
  | x :: vs, a :: as, 0, j + 1, v, w, o, u, nd, h1, h2, h3, h4, _ => by
    simp at h1 h3
    subst h1; subst h3
    intro e
    have := bor_mem (vs := vs) (as := as) (i := j) (by simpa using h2) (by simpa using h4)
    rw [← e] at this
    exact (List.nodup_cons.mp (show (adr x :: borA vs as).Nodup from nd)).1 this
  | x :: vs, a :: as, i + 1, 0, v, w, o, u, nd, h1, h2, h3, h4, _ => by
    simp at h2 h4
    subst h2; subst h4
    intro e
    have := bor_mem (vs := vs) (as := as) (i := i) (by simpa using h1) (by simpa using h3)
    rw [e] at this
    exact (List.nodup_cons.mp (show (adr x :: borA vs as).Nodup from nd)).1 this
  | x :: vs, a :: as, i + 1, j + 1, v, w, o, u, nd, h1, h2, h3, h4, n => by
    have nd' : (borA vs as).Nodup := by
      cases a with
      | val d => exact nd
      | own o => exact nd
      | bor o => exact (List.nodup_cons.mp (show (adr x :: borA vs as).Nodup from nd)).2
    exact bor_ne (i := i) (j := j) nd' (by simpa using h1) (by simpa using h2) (by simpa using h3) (by simpa using h4) (fun z => n (by rw [z]))
theorem bors_nil : ∀ {env : Env}, (∀ (i : Nat) (o : OV), env[i]? ≠ some (some (.bor o))) → bors env = []
  | [], _ => rfl
  | e :: env, h => by
    have t : bors env = [] := bors_nil fun i o q => h (i + 1) o (by simpa using q)
    cases e with
    | none => exact t
    | some e => cases e with
      | val d => exact t
      | own o => exact t
      | bor o => exact absurd rfl (h 0 o)
theorem outs_of {L : Lay} {F H : Hp} : ∀ {vs : List V} {as : List EV} {env : Env}, vs.length = as.length → (∀ i : Nat, (∃ o : OV, env[i]? = some (some (.bor o))) ↔ ∃ o : OV, as[i]? = some (.bor o)) →
    (∀ (i : Nat) (o : OV) (v : V), env[i]? = some (some (.bor o)) → vs[i]? = some v → OwnAt L F H (adr v) o) → Outs L F H (borA vs as) (bors env)
  | [], _ :: _, _, h, _, _ => by simp at h
  | _ :: _, [], _, h, _, _ => by simp at h
  | [], [], env, _, h, _ => by
    rw [bors_nil (env := env) fun i o q => by
      obtain ⟨u, z⟩ := (h i).mp ⟨o, q⟩
      simp at z]
    exact .nil
  | v :: vs, a :: as, [], _, h, _ => by
    have : borA (v :: vs) (a :: as) = [] := List.eq_nil_iff_forall_not_mem.mpr fun p hp => by
      obtain ⟨i, w, o, _, q, _⟩ := mem_bor hp
      obtain ⟨u, z⟩ := (h i).mpr ⟨o, q⟩
      simp at z
    rw [this]
    exact .nil
  | v :: vs, a :: as, e :: env, h1, h3, h4 => by
    have t : Outs L F H (borA vs as) (bors env) := outs_of (by simpa using h1) (fun i => by simpa using h3 (i + 1)) fun i o w q z => h4 (i + 1) o w (by simpa using q) (by simpa using z)
    have h0 := h3 0
    simp only [List.getElem?_cons_zero] at h0
    cases a with
    | bor o =>
      obtain ⟨u, z⟩ := h0.mpr ⟨o, rfl⟩
      cases z
      exact .cons (h4 0 u v rfl rfl) t
    | val d =>
      cases e with
      | none => exact t
      | some e => cases e with
        | val d => exact t
        | own o => exact t
        | bor o =>
          obtain ⟨u, z⟩ := h0.mp ⟨o, rfl⟩
          cases z
    | own d =>
      cases e with
      | none => exact t
      | some e => cases e with
        | val d => exact t
        | own o => exact t
        | bor o =>
          obtain ⟨u, z⟩ := h0.mp ⟨o, rfl⟩
          cases z
theorem ArgsR.get {L : Lay} {F H : Hp} : ∀ {vs : List V} {as : List EV} {i : Nat} {a : EV}, ArgsR L F H vs as → as[i]? = some a → ∃ v, vs[i]? = some v ∧ ArgR L F H v a
  | _, _, _, _, .nil, h => by simp at h
  | _, _, 0, _, .cons h t, e => by simp at e; subst e; exact ⟨_, rfl, h⟩
  | _, _, i + 1, _, .cons h t, e => by
    obtain ⟨v, h1, h2⟩ := ArgsR.get (i := i) t (by simpa using e)
    exact ⟨v, by simpa using h1, h2⟩
theorem start_env {as : List EV} {m : Nat} {i : Nat} {z : EV} (h : (as.map some ++ List.replicate m none)[i]? = some (some z)) : as[i]? = some z := by
  by_cases hi : i < as.length
  · rw [List.getElem?_append_left (by simpa using hi), List.getElem?_map] at h
    cases e : as[i]? with
    | none => rw [e] at h; cases h
    | some a => rw [e] at h; cases h; rfl
  · rw [List.getElem?_append_right (by simpa using hi), List.getElem?_replicate] at h
    split at h <;> cases h
theorem env_start {as : List EV} {m : Nat} {i : Nat} {z : EV} (h : as[i]? = some z) : (as.map some ++ List.replicate m none)[i]? = some (some z) := by
  have hi := (List.getElem?_eq_some_iff.mp h).1
  rw [List.getElem?_append_left (by simpa using hi), List.getElem?_map, h]
  rfl
theorem start_st {N : List Str} {vs : List V} {i : Nat} {v : V} (h : vs[i]? = some v) : (L2.start N vs)[i]? = some (some v) := by
  unfold L2.start
  have hi := (List.getElem?_eq_some_iff.mp h).1
  rw [List.getElem?_append_left (by simpa using hi), List.getElem?_map, h]
  rfl
/-- the entry -/
theorem er_start {L : Lay} {F H : Hp} {vs : List V} {as : List EV} {N : List Str} {m : Nat} (sub : LeH F H) (r : ArgsR L F H vs as) (nd : (borA vs as).Nodup) (hn : as.length + m = N.length) :
    EX (bodyP L F H vs as) (L2.start N vs) H (as.map some ++ List.replicate m none) F := by
  have lvs : vs.length = as.length := Paired.length r
  have ow : ∀ (i : Nat) (o : OV), ownish (as.map some ++ List.replicate m none)[i]? = some o → as[i]? = some (.bor o) ∧ ∃ p, vs[i]? = some (.ref p) ∧ OwnAt L F H p o := fun i o q => by
    rcases ownish_some q with q | q
    · obtain ⟨v, _, h⟩ := r.get (start_env q)
      exact h.elim
    · have q := start_env q
      obtain ⟨v, h1, p, rfl, h2⟩ := r.get q
      exact ⟨q, p, h1, h2⟩
  refine ⟨fun i => adr (vs[i]?.getD .non), ⟨sub, LeH.refl F, fun a o q => ?_, ?_, fun i d q => ?_, fun i o q => ?_, fun i j o u q1 q2 n => ?_, fun i o q => rfl, fun i => ?_⟩⟩
  · have q : (if F a = none ∧ a ∉ borA vs as then H a else none) = some o := q
    split at q
    · rename_i z
      exact ⟨q, z.1⟩
    · cases q
  · unfold L2.start
    rw [List.length_append, List.length_append, List.length_map, List.length_map, List.length_replicate, List.length_replicate]
    omega
  · obtain ⟨v, h1, h2⟩ := r.get (start_env q)
    exact ⟨v, start_st h1, h2⟩
  · obtain ⟨h0, p, h1, h2⟩ := ow i o q
    show _ ∧ OwnAt L F H (adr (vs[i]?.getD .non)) o ∧ (if F (adr (vs[i]?.getD .non)) = none ∧ adr (vs[i]?.getD .non) ∉ borA vs as then H (adr (vs[i]?.getD .non)) else none) = none
    rw [h1]
    refine ⟨start_st h1, h2, if_neg fun z => z.2 ?_⟩
    exact bor_mem h1 h0
  · obtain ⟨h0, p, h1, h2⟩ := ow i o q1
    obtain ⟨k0, p', k1, k2⟩ := ow j u q2
    show adr (vs[i]?.getD .non) ≠ adr (vs[j]?.getD .non)
    rw [h1, k1]
    exact bor_ne nd h1 k1 h0 k0 n
  · show (match as[i]? with | some (.bor _) => true | _ => false) = true ↔ _
    constructor
    · intro h
      split at h
      · rename_i o q
        exact ⟨o, env_start q⟩
      · cases h
    · rintro ⟨o, q⟩
      rw [start_env q]
/-- what is so at the end -/
theorem er_end {L : Lay} {F H : Hp} {vs : List V} {as : List EV} {σ : L2.St} {H' F' : Hp} {env : Env} {A : Nat → Addr} (lv : vs.length = as.length) (e : ER (bodyP L F H vs as) A σ H' env F') :
    LeH F F' ∧ LeH F' H' ∧ Kept F H F' H' (borA vs as) ∧ Outs L F' H' (borA vs as) (bors env) := by
  have hb : ∀ i : Nat, (∃ o : OV, env[i]? = some (some (.bor o))) ↔ ∃ o : OV, as[i]? = some (.bor o) := fun i => by
    rw [← e.isb i]
    show (match as[i]? with | some (.bor _) => true | _ => false) = true ↔ _
    constructor
    · intro h
      split at h
      · rename_i o q
        exact ⟨o, q⟩
      · cases h
    · rintro ⟨o, q⟩
      rw [q]
  refine ⟨e.le0, e.sub, fun a o h1 h2 h3 => ?_, outs_of lv hb fun i o v q z => ?_⟩
  · exact e.fr a o (show (if F a = none ∧ a ∉ borA vs as then H a else none) = some o by rw [if_pos ⟨h2, h3⟩]; exact h1)
  · obtain ⟨_, h, _⟩ := e.own i o (by rw [q]; rfl)
    have hA : A i = adr (vs[i]?.getD .non) := e.bor i o q
    rw [hA, z] at h
    exact h
theorem ret_end {L : Lay} {F H : Hp} {vs : List V} {as : List EV} {σ : L2.St} {H' F' : Hp} {env : Env} {A : Nat → Addr} {v : V} {r : RV} (lv : vs.length = as.length) (e : ER (bodyP L F H vs as) A σ H' env F') (h : RVr (bodyP L F H vs as) A H' env F' v r) : RetR L H F' H' v r := by
  cases r with
  | val d => exact h
  | fr o =>
    obtain ⟨p, rfl, h1, h2, h3⟩ := h
    refine ⟨p, rfl, h1, ?_⟩
    have h2 : (if F p = none ∧ p ∉ borA vs as then H p else none) = none := h2
    by_cases z1 : F p = none
    · by_cases z2 : p ∈ borA vs as
      · obtain ⟨i, w, o', q1, q2, q3⟩ := mem_bor z2
        have : (bodyP L F H vs as).isB i = true := by
          show (match as[i]? with | some (.bor _) => true | _ => false) = true
          rw [q2]
        obtain ⟨o2, q4⟩ := (e.isb i).mp this
        have hA : A i = adr (vs[i]?.getD .non) := e.bor i o2 q4
        rw [q1] at hA
        exact absurd (hA.trans q3) (h3 i o2 (by rw [q4]; rfl))
      · rw [if_pos ⟨z1, z2⟩] at h2
        exact h2
    · cases q : F p with
      | none => exact absurd q z1
      | some u =>
        have := e.le0 p u q
        rw [h1.none] at this
        cases this

/-- a def as it stands behind the top, its tree beside it -/
structure DefAt (U : Tx) (L : Lay) (t : Text) (f : Nat) (fd : FuncData) (ps : List Str) : Prop where
  ex : ∃ (name qual : Str) (params : Arguments) (body : List Stmt) (scope : Scope) (dV kV doc pm cdv ct oc : Value) (an od : Option Addr) (osl : Array (Option Value)) (N : List Str) (d : FD),
    fd = PySem.W.fnOf name qual params body scope dV kV doc pm an cdv ct ∧ L.K.lookup (L.fn f) = some ⟨oc, od, .func fd, osl⟩ ∧ PySem.W.codeIn L.K cdv qual = true ∧ FnScope N ps scope ∧
    t.fds[f]? = some d ∧ d.np = ps.length ∧ d.ns = N.length ∧ chkSs U N d.body scope body = true
/-- what is true of the module, calls aside -/
structure GR0 (U : Tx) (L : Lay) (t : Text) (mg : Str → Option Value) : Prop where
  nog : ∀ x ∈ U.nog, mg x = none
  cst : ∀ q ∈ U.cst, ∃ u v, mg q.1 = some u ∧ RelV v u ∧ ∀ F, Rep L F q.2 v
  fns : ∀ f x, U.fnm[f]? = some x → mg x = some (.ref (L.fn f)) ∧ PySem.W.keepIn L.K (.ref (L.fn f)) = true ∧ ∃ fd ps, DefAt U L t f fd ps ∧ ∀ q ∈ U.pats, q.1 = f → BindOk L.K fd ps q.2.1 q.2.2.1 q.2.2.2
theorem def_zero {L : Lay} {t : Text} {p : Program} {w : World} {mg : Str → Option Value} {base : Heap} {f : Nat} {fd : FuncData} {ps : List Str} : DefOk p w L.K mg base 0 (L.fn f) fd ps (lift L (W t 0 f)) :=
  ⟨fun vs H Q E ⟨_, _, _, _, _, _, _, h, _⟩ => h.elim, fun _ _ _ _ _ _ _ _ _ _ _ _ _ _ ⟨_, _, _, _, _, _, _, h, _⟩ => h.elim⟩
theorem deeper_guards {A : Around} {env : PySem.Env} (h : A.guards = some []) : (A.deeper env).guards = some [] := h
theorem def_succ {U : Tx} {L : Lay} {t : Text} {n : Nat} {p : Program} {w : World} {mg : Str → Option Value} {base : Heap} (G : GR U L t n p w mg base) {f : Nat} {fd : FuncData} {ps : List Str} (D : DefAt U L t f fd ps) : DefOk p w L.K mg base (n + 1) (L.fn f) fd ps (lift L (W t (n + 1) f)) := by
  obtain ⟨name, qual, params, body, scope, dV, kV, doc, pm, cdv, ct, oc, an, od, osl, N, d, rfl, lk, hcd, S, hd, hnp, hns, hc⟩ := D.ex
  have len : ∀ vs H Q E, lift L (W t (n + 1) f) vs H Q E → vs.length = ps.length := fun vs H Q E ⟨F, as, R, Rx, _, r, _, h, _⟩ => by
    simp only [W, hd] at h
    rw [Paired.length r, h.1, hnp]
  refine ⟨len, fun A outer s H args us vs Q E hg hr e0 hb r hsp => ?_⟩
  have hl := len _ _ _ _ hsp
  obtain ⟨F, as, R, Rx, sub, ra, nd, hW, kR, kX⟩ := hsp
  simp only [W, hd] at hW
  obtain ⟨la, hW⟩ := hW
  have KX : L.K.In s.heap := e0.mod.kin.keeps fun b o e => (e0.bs b o e).1
  have lim : s.heap.NoLimit := e0.mod.nolimit.keeps fun b o e => (e0.bs b o e).1
  have hkind : ∀ y ∈ ps.zip us, scope.names.lookup y.1 = some .local ∨ (scope.names.lookup y.1 = some .cell ∧ ((cellsFrom (s.heap.objs.size + 1) scope.names []).lookup y.1).isSome = true) := fun ⟨n, v⟩ hy => by
    rcases S.par n (List.of_mem_zip hy).1 with q | q
    · exact .inl q
    · exact .inr ⟨q, PySem.W.cellsFrom_some _ _ _ (.inl q)⟩
  refine codeAny_call_function hr.depth (KX _ _ lk) rfl S.co S.gen rfl (PySem.W.codeRec_of KX hcd) (hb _ _ _ _ ?_)
  refine wpAny_newFunctionEnv_cells S.kind hkind fun env he s1 x => ?_
  subst he
  refine ⟨lim.keeps x.toInCall.keep, codeAny_func ?_⟩
  have I : Inv (cxOf (L2.CX p w) p w L.K mg base N qual scope (L.fn f) cdv A outer s H E) [] (L2.start N vs) H s1 := inv_start S hr.hd e0 hl r x
  have hN : N.take ps.length = ps := S.pre
  have lN : ps.length ≤ N.length := by
    have := congrArg List.length hN
    rw [List.length_take] at this
    omega
  have lvs : vs.length = as.length := Paired.length ra
  have lst : (L2.start N vs).length = N.length := by
    unfold L2.start
    rw [List.length_append, List.length_map, List.length_replicate]
    omega
  have c : CO U L t n N scope (cxOf (L2.CX p w) p w L.K mg base N qual scope (L.fn f) cdv A outer s H E) :=
    ⟨rfl, S.nd, rfl, rfl, rfl, deeper_guards hg, hr.deeper _, passes_of rfl, G⟩
  have tk : Takes (cxOf (L2.CX p w) p w L.K mg base N qual scope (L.fn f) cdv A outer s H E) (WXo (bodyP L F H vs as) fun x env => Rx x (bors env)) :=
    (takes_of rfl rfl rfl rfl).imp fun cls d' σ H' ⟨env, F', x, ⟨A', e⟩, q, z⟩ => by
      obtain ⟨h1, h2, h3, h4⟩ := er_end lvs e
      exact kX _ _ _ _ _ _ z h1 h2 h3 h4 q
  have st : EX (bodyP L F H vs as) (L2.start N vs) H (as.map some ++ List.replicate (d.ns - d.np) none) F := er_start sub ra nd (by rw [la, hnp, hns]; omega)
  have hb := okSs d.body _ scope body c (fun _ => rfl) S.kind hc (bodyP L F H vs as) (fun x env => Rx x (bors env)) rfl tk
  have hq : tSs (bodyP L F H vs as) (Gam t n) (fun x env => Rx x (bors env)) d.body { nx := fun _ H' => Q .non H', rt := Q } (L2.start N vs) H :=
    ⟨_, F, _, st, hW, fun σ' H' env' F' z ⟨A', e⟩ => by
      obtain ⟨h1, h2, h3, h4⟩ := er_end lvs e
      exact kR _ _ .non F' H' z h1 h2 h3 h4 rfl, fun σ' r env' v H' F' z ⟨A', e, rv⟩ => by
      obtain ⟨h1, h2, h3, h4⟩ := er_end lvs e
      exact kR _ _ v F' H' z h1 h2 h3 h4 (ret_end lvs e rv), fun _ _ _ _ z _ => z.elim, fun _ _ _ _ z _ => z.elim⟩
  refine wpAny_mono (hb.run [] s1 (L2.start N vs) H _ I hq) (fun fl s' hs => ?_) fun e s' hs => hs
  have fin : ∀ {σ' : L2.St} {H' : Hp} {v : V} {u : Value}, Inv (cxOf (L2.CX p w) p w L.K mg base N qual scope (L.fn f) cdv A outer s H E) [] σ' H' s' → RelV v u → Q v H' → CE outer p w H s Q u s' :=
    fun {σ' H' v u} J rv q => ⟨v, H', J.os, J.bare, J.base, J.hok, rv, q⟩
  cases fl with
  | ret u =>
    obtain ⟨v, σ', H', J, rv, q⟩ := hs
    exact fin J rv q
  | next =>
    obtain ⟨σ', H', J, q⟩ := hs
    exact fin (v := V.non) (u := Value.none) J rfl q
  | brk =>
    obtain ⟨_, _, _, q⟩ := hs
    exact False.elim q
  | cont =>
    obtain ⟨_, _, _, q⟩ := hs
    exact False.elim q
/-- calls n deep, every n -/
theorem gr_all {U : Tx} {L : Lay} {t : Text} {p : Program} {w : World} {mg : Str → Option Value} {base : Heap} (G : GR0 U L t mg) : ∀ n, GR U L t n p w mg base
  | 0 => ⟨G.nog, G.cst, fun f x h => by
    obtain ⟨h1, h2, fd, ps, _, h4⟩ := G.fns f x h
    exact ⟨h1, h2, fd, ps, def_zero, h4⟩⟩
  | n + 1 => ⟨G.nog, G.cst, fun f x h => by
    obtain ⟨h1, h2, fd, ps, h3, h4⟩ := G.fns f x h
    exact ⟨h1, h2, fd, ps, def_succ (gr_all G n) h3, h4⟩⟩
end G
/-! B5: the law's end; binding. -/
namespace G
open PySem PySem.Spec L2 PyProof.Rows Att

theorem caller_guards : callerA.guards = some [] := rfl
/-- as HandS.Ends' law_call, for DefOk -/
theorem law_callG {P : Program} {w : World} {K : PySem.W.Frag} {mg mb : Str → Option Value} {k : Nat} {fa a : Addr} {fd : FuncData} {ps : List Str} {sp : Sp} {s₁ : Shared} {vs : List Value} {ns : List Int}
    (KX : K.In s₁.heap) (hns : s₁.heap.Ns mainGlobals mg) (hb : s₁.heap.Ns builtinsNs mb) (hbb : ∀ x : Str, x ≠ "__name__" → mb x = bootBuiltins x) (hlim : s₁.heap.NoLimit) (hg : s₁.gens = #[])
    (ha : s₁.heap.get? a = some { cls := .type "list", data := .seq vs.toArray }) (hi : IntsAre vs ns) (hl : ns.length ≤ sizeLine) (hr : Room k callerA)
    (F : ∀ base : Heap, DefOk P w K mg base k fa fd ps sp) (hbind : ∀ (s : Shared) (u : Value), K.In s.heap → BindsTo s fd ⟨[u], []⟩ (ps.zip [u]))
    (hsp : ∀ H : Hp, SqL K H a (ns.map V.int) → sp [.ref a] H (fun v _ => v = .bl true) fun _ _ _ => False) :
    codeAny (model P w) callerA (.call (.ref fa) ⟨[.ref a], []⟩) (fun r s' => r = .ok (.ret (.bool true)) ∧ OldK s₁.heap s'.heap ∧ s'.os = s₁.os ∧ AllBare s'.gens) s₁ := by
  have rv := vals_ints hi
  have lenV := hi.length
  have core : ∀ H : Hp, Only H → SqL K H a (ns.map V.int) → HOk P w H s₁.heap → (∀ b, H b ≠ none → b = a) → (H a ≠ none → K.lookup a = none) →
      codeAny (model P w) callerA (.call (.ref fa) ⟨[.ref a], []⟩) (fun r s' => r = .ok (.ret (.bool true)) ∧ OldK s₁.heap s'.heap ∧ s'.os = s₁.os ∧ AllBare s'.gens) s₁ := by
    intro H hO hS hok hA hK
    have base_of : ∀ {b : Addr} {o : Obj}, s₁.heap.get? b = some o → H b = none → (hidT s₁.heap H).get? b = some o := fun e n => hidT_get e n
    have noA : ∀ {b : Addr} {o : Obj} {es : Array DictEntry} {ep : Nat}, s₁.heap.get? b = some o → o.data = .dict es ep → H b = none := fun {b o es ep} e d => by
      cases q : H b with
      | none => rfl
      | some u =>
        have e' : b = a := hA b (by rw [q]; simp)
        subst e'
        rw [ha] at e; cases e
        have d' : Data.seq vs.toArray _ = Data.dict es ep := d
        cases d'
    have nsK : ∀ {b : Addr} {m : Str → Option Value}, s₁.heap.Ns b m → (hidT s₁.heap H).Ns b m := fun {b m} ⟨o, es, ep, e, d, r⟩ => ⟨o, es, ep, base_of e (noA e d), d, r⟩
    have hKb : K.In (hidT s₁.heap H) := fun b o e => base_of (KX b o e) (by
      cases q : H b with
      | none => rfl
      | some u =>
        have e' : b = a := hA b (by rw [q]; simp)
        subst e'
        rw [hK (by rw [q]; simp)] at e; cases e)
    have hM : Mod K mg (hidT s₁.heap H) := ⟨hKb, nsK hns, ⟨mb, nsK hb, hbb⟩, let ⟨mc, h1, h2⟩ := hlim; ⟨mc, nsK h1, h2⟩⟩
    have e0 : Env0 P w K mg (hidT s₁.heap H) callerA [] s₁ H := ⟨rfl, hM, fun b o e => of_hidT e, Nat.le_of_eq (hidT_size _ _), trivial, fun b hb => absurd (show b ∈ ([] : List Addr) from hb) (by simp), hok, .of_eq hg⟩
    refine codeAny_mono ((F _).run callerA [] s₁ H ⟨[.ref a], []⟩ [.ref a] [.ref a] _ _ caller_guards hr e0 (hbind s₁ (.ref a) KX) (.cons rfl .nil) (hsp H hS)) fun r s' h => ?_
    cases r with
    | error e =>
      obtain ⟨_, _, _, _, _, _, _, _, _, _, _, _, z⟩ := h
      exact z.elim
    | ok fl =>
      cases fl with
      | next => exact False.elim h
      | brk => exact False.elim h
      | cont => exact False.elim h
      | ret u =>
        obtain ⟨v, H', os, bare, un, hok', r', q⟩ := h
        have q' : v = .bl true := q
        subst q'
        obtain rfl : u = Value.bool true := r'
        refine ⟨rfl, OldK.of_keep fun b o e => ?_, os, bare⟩
        cases q : H b with
        | none => exact un.keep b o e q (by intro z; exact absurd (show b ∈ ([] : List Addr) from z) (by simp)) (by simp)
        | some u =>
          rcases hO b with z | ⟨ob, xs, z⟩
          · rw [q] at z; cases z
          · have z2 := un.frzs b ob _ z
            obtain ⟨e1, _⟩ := hok b _ z
            obtain ⟨e2, _⟩ := hok' b _ z2
            rw [e] at e1; cases e1
            exact e2
  cases hk : K.lookup a with
  | some o =>
    have e := KX a o hk
    rw [ha] at e
    cases e
    refine core (fun _ => none) (fun _ => .inl rfl) (.inr ⟨_, vs.toArray, _, hk, rfl, rfl, rfl, by rw [List.size_toArray, lenV]; exact hl, by simpa using rv⟩) (fun b u z => by have z' : (none : Option HO) = some u := z; cases z') (fun b z => absurd rfl z) fun z => absurd rfl z
  | none =>
    refine core (fun b => if b = a then some (.frz { cls := .type "list", data := .seq vs.toArray } (.lst (ns.map V.int))) else none) (fun b => ?_) (.inl (.inr ⟨{ cls := .type "list", data := .seq vs.toArray }, if_pos rfl⟩)) (fun b u z => ?_) (fun b z => ?_) fun _ => hk
    · by_cases hb : b = a
      · exact .inr ⟨_, _, if_pos hb⟩
      · exact .inl (if_neg hb)
    · by_cases hb : b = a
      · have z' := (if_pos hb).symm.trans z
        cases z'
        subst hb
        exact ⟨ha, by rw [List.length_map]; exact hl, vs, _, rv, ha⟩
      · have z' := (if_neg hb).symm.trans z
        cases z'
    · by_cases hb : b = a
      · exact hb
      · exact absurd (if_neg hb) z

/-- THE END: from the meaning of the law's def to the goal that k_head leaves -/
theorem walkG {l : PySem.W.OpenLaw} {q : Program} {loose : List Str} {XP : (Str → Option Value) → Heap → Prop} {YP : World → Heap → Prop} {d : DefRec} {K : Params → PySem.W.Frag} {k fl : Nat} {U : Tx} {t : Text} {x : Str}
    (hn : l.most = some 63) (hdf : d.params.defaults = []) (hr : Room k callerA)
    (hY : ∀ (w : World) (h : Heap), YP w h → (K w.params).In h)
    (F : ∀ (w : World) (mg : Str → Option Value) (fa : Addr) (h : Heap), (K w.params).In h → h.Ns mainGlobals mg → mg d.name = some (.ref fa) →
      ∃ L : Lay, L.K = K w.params ∧ L.fn fl = fa ∧ GR0 U L t mg ∧ ∃ fd ps, DefAt U L t fl fd ps ∧ BindOk L.K fd ps 1 [] [.inl 0])
    (hW : ∀ ns : List Int, ns.length ≤ 63 → W t k fl [.val (.scr ns)] (fun r _ => r = .val (.bl true)) (fun _ _ => False)) :
    PySem.W.WalkO q loose XP YP l.row.toRowW d [] (fun f vs => PySem.call f vs) := by
  refine Att.attach_call hn hdf fun w s₀ s₁ mg mb fa o pm cd doc a vs ns G Y ho hd hcd hmg hobj hints hlen hg => ?_
  have KX := hY w _ Y
  obtain ⟨L, hK, rfl, hG, fd, ps, D, B⟩ := F w mg fa _ KX G.T.g hmg
  have hF : ∀ base : Heap, DefOk l.prog w L.K mg base k (L.fn fl) fd ps (lift L (W t k fl)) := fun base => by
    cases k with
    | zero => exact (hW [] (by decide)).elim
    | succ k => exact def_succ (gr_all hG k) D
  rw [← hK] at KX
  have hb : ∀ (s : Shared) (u : Value), L.K.In s.heap → BindsTo s fd ⟨[u], []⟩ (ps.zip [u]) := fun s u hs => by
    obtain ⟨zs, b, sr, _⟩ := B s [u] [] hs rfl rfl
    cases sr with
    | cons h t =>
      cases t
      cases h
      exact b
  refine law_callG KX G.T.g G.T.b G.T.builtins G.T.nolimit hg hobj hints (Nat.le_trans hlen (by decide)) hr hF hb fun H hS => ?_
  refine ⟨H, [.val (.scr ns)], _, _, LeH.refl H, .cons ⟨a, rfl, hS⟩ .nil, List.nodup_nil, hW ns hlen, fun r outs v F' H' e _ _ _ _ rr => ?_, fun _ _ _ _ _ _ z => z.elim⟩
  subst e
  exact rr

/-! ### binding -/
/-- no defaults are asked -/
theorem bind_no {K : PySem.W.Frag} {fd : FuncData} {ps : List Str} {np : Nat} {kws : List Str} {src : List Nat} (hl : src.length = ps.length) (hs : ∀ k ∈ src, k < np + kws.length)
    (h : ∀ us ws : List Value, us.length = np → ws.length = kws.length → bindArgs fd ⟨us, kws.zip ws⟩ = pure (ps.zip (src.map fun k => (us ++ ws)[k]?.getD .none))) : BindOk K fd ps np kws (src.map .inl) := fun s us ws hs' l1 l2 => by
  refine ⟨_, .of_eq (h us ws l1 l2), ?_, by rw [List.length_map, hl]⟩
  have l : (us ++ ws).length = np + kws.length := by rw [List.length_append, l1, l2]
  clear h hl
  induction src with
  | nil => exact .nil
  | cons k r ih =>
    refine .cons ?_ (ih fun j hj => hs j (List.mem_cons_of_mem _ hj))
    have := hs k (List.mem_cons_self ..)
    show (us ++ ws)[k]? = some ((us ++ ws)[k]?.getD .none)
    rw [List.getElem?_eq_getElem (by omega)]
    rfl
/-- what a default is, as data -/
def Dfl (d : D) (z : Value) : Prop := ∃ v, RelV v z ∧ ∀ L F, Rep L F d v
def pickV (us its : List Value) : Sum Nat Nat → Value
  | .inl k => us[k]?.getD .none
  | .inr j => its[j]?.getD .none
def pickD (ds : List D) : Sum Nat Nat → Sum Nat D
  | .inl k => .inl k
  | .inr j => .inr (ds[j]?.getD .non)
theorem Dfl.get {ds : List D} {its : List Value} : ∀ {j : Nat}, Paired Dfl ds its → j < ds.length → Dfl (ds[j]?.getD .non) (its[j]?.getD .none) := fun {j} h => by
  induction h generalizing j with
  | nil => intro h; simp at h
  | cons a t ih =>
    intro h
    cases j with
    | zero => exact a
    | succ j => exact ih (by simpa using h)
/-- the defaults are a tuple -/
theorem bind_tup {K : PySem.W.Frag} {fd : FuncData} {ps : List Str} {np : Nat} {kws : List Str} {src : List (Sum Nat Nat)} {T : Addr} {o : Obj} {its : List Value} {m : Nat} {ds : List D} (lT : K.lookup T = some o) (oT : o.data = .seq its.toArray m) (hd : Paired Dfl ds its)
    (hl : src.length = ps.length) (hs : src.all (fun k => match k with | .inl k => decide (k < np + kws.length) | .inr j => decide (j < ds.length)) = true)
    (h : ∀ us ws : List Value, us.length = np → ws.length = kws.length → ∃ k, bindArgs fd ⟨us, kws.zip ws⟩ = seqItems? (.ref T) >>= k ∧ k (some its.toArray) = pure (ps.zip (src.map (pickV (us ++ ws) its)))) : BindOk K fd ps np kws (src.map (pickD ds)) := fun s us ws X l1 l2 => by
  obtain ⟨k, e1, e2⟩ := h us ws l1 l2
  refine ⟨src.map (pickV (us ++ ws) its), L2.BindsTo.of_looks fun M => ?_, ?_, by rw [List.length_map, hl]⟩
  · rw [e1]
    exact looks_items X lT oT (.of_pure e2)
  · have l : (us ++ ws).length = np + kws.length := by rw [List.length_append, l1, l2]
    clear h hl e1 e2
    induction src with
    | nil => exact .nil
    | cons q r ih =>
      rw [List.all_cons, Bool.and_eq_true] at hs
      refine .cons ?_ (ih hs.2)
      have := hs.1
      cases q with
      | inl k =>
        show (us ++ ws)[k]? = some ((us ++ ws)[k]?.getD .none)
        have : k < np + kws.length := of_decide_eq_true this
        rw [List.getElem?_eq_getElem (by omega)]
        rfl
      | inr j => exact Dfl.get hd (of_decide_eq_true this)
theorem len0 {α : Type} {xs : List α} (h : xs.length = 0) : xs = [] := List.eq_nil_of_length_eq_zero h

/-! ### the facts, put together -/
theorem all_nil {Q : Nat → Str → Prop} : ∀ (f : Nat) (x : Str), ([] : List Str)[f]? = some x → Q f x := fun f x h => by simp at h
theorem all_cons {Q : Nat → Str → Prop} {a : Str} {r : List Str} (h0 : Q 0 a) (hr : ∀ (f : Nat) (x : Str), r[f]? = some x → Q (f + 1) x) : ∀ (f : Nat) (x : Str), (a :: r)[f]? = some x → Q f x
  | 0, x, h => by simp at h; subst h; exact h0
  | f + 1, x, h => hr f x (by simpa using h)
theorem fa_nil {α : Type} {B : α → Prop} : ∀ q ∈ ([] : List α), B q := fun q h => by simp at h
theorem fa_cons {α : Type} {B : α → Prop} {a : α} {r : List α} (h0 : B a) (hr : ∀ q ∈ r, B q) : ∀ q ∈ a :: r, B q := fun q h => by
  rcases List.mem_cons.mp h with rfl | h
  · exact h0
  · exact hr q h
theorem pats_at {α : Type} {B : Nat × α → Prop} {ps l : List (Nat × α)} {f : Nat} (e : ps.filter (fun q => q.1 == f) = l) (h : ∀ q ∈ l, B q) : ∀ q ∈ ps, q.1 = f → B q := fun q hq hf => h q (by rw [← e]; exact List.mem_filter.mpr ⟨hq, by simpa using hf⟩)
theorem defAt {U : Tx} {L : Lay} {t : Text} {f : Nat} {name qual : Str} {params : Arguments} {body : List Stmt} {scope : Scope} {dV kV doc pm cdv ct oc : Value} {an od : Option Addr} {osl : Array (Option Value)} (N ps : List Str) (d : FD)
    (lk : L.K.lookup (L.fn f) = some ⟨oc, od, .func (PySem.W.fnOf name qual params body scope dV kV doc pm an cdv ct), osl⟩) (hcd : PySem.W.codeIn L.K cdv qual = true) (hd : t.fds[f]? = some d) (S : C8.scC N ps scope = true) (h1 : d.np = ps.length) (h2 : d.ns = N.length) (hc : chkSs U N d.body scope body = true) :
    DefAt U L t f (PySem.W.fnOf name qual params body scope dV kV doc pm an cdv ct) ps :=
  ⟨name, qual, params, body, scope, dV, kV, doc, pm, cdv, ct, oc, an, od, osl, N, d, rfl, lk, hcd, C8.fnScope_by S, hd, h1, h2, hc⟩
theorem rep_int {L : Lay} {i : Int} {tk : Nat} {mg : Str → Option Value} {x : Str} (h : mg x = some (.int i tk)) : ∃ u v, mg x = some u ∧ RelV v u ∧ ∀ F, Rep L F (.int i) v := ⟨_, .int i, h, ⟨tk, rfl⟩, fun F => rfl⟩
theorem dfl_int {i : Int} {tk : Nat} : Dfl (.int i) (.int i tk) := ⟨.int i, ⟨tk, rfl⟩, fun _ _ => rfl⟩
end G
/-! B6: rules by which a tree's meaning is worked out, a statement at a time. -/
namespace G
open PySem PySem.Spec L2
section
variable {Γ : Fns} {X : XP} {env : G.Env} {Q : RV → G.Env → Prop} {a b c : E}
/-! ### meanings without witnesses -/
def subW (a b : Option D) (Q : D → Prop) : Prop := ∃ dx dy r, a = some dx ∧ b = some dy ∧ atD dx dy = some r ∧ Q r
def atW (a : Option D) (Q : D → Prop) : Prop := ∃ r, a = some r ∧ Q r
def intW (a : Option D) (Q : Int → Prop) : Prop := ∃ i, a = some (.int i) ∧ Q i
def blW (r : RV) (Q : Bool → Prop) : Prop := ∃ c, r = .val (.bl c) ∧ Q c
def dsW (os : List Op) (Q : List D → Prop) : Prop := ∃ ds, datas os = some ds ∧ Q ds
def truW (a : Option D) (Q : Bool → Prop) : Prop := ∃ d b, a = some d ∧ truth d = some b ∧ Q b
def itW (d : D) (Q : List D → Prop) : Prop := ∃ ds, itemsD d = some ds ∧ Q ds
def vsW (a : Option (List EV)) (ls : List Nat) (Q : List EV → Prop) : Prop := ∃ vs, a = some vs ∧ ls.Nodup ∧ Q vs
def tyW (t : Ty) (a : Option D) (Q : Bool → Prop) : Prop := ∃ d, a = some d ∧ Q (tyD t d)
theorem m_var {i : Nat} : wE Γ (.var i) env X Q = (match env[i]? with
    | some (some (.val d)) => Q (.val d) env
    | some (some (.own o)) => Q (.val o.toD) (env.set i (some (.val o.toD)))
    | _ => False) := by rw [wE.eq_def] <;> rfl
theorem m_con {d : D} : wE Γ (.con d) env X Q = Q (.val d) env := by rw [wE.eq_def] <;> rfl
theorem m_glb {g : Str} {d : D} : wE Γ (.glb g d) env X Q = Q (.val d) env := by rw [wE.eq_def] <;> rfl
theorem m_bin {op : Operator} : wE Γ (.bin op a b) env X Q = opd a (wE Γ a) env X fun x env1 => opd b (wE Γ b) env1 X fun y env2 => binW op (res env2 x) (res env2 y) fun r => Q r env2 := by rw [wE.eq_def] <;> rfl
theorem m_neg : wE Γ (.neg a) env X Q = opd a (wE Γ a) env X fun x env1 => intW (res env1 x) fun i => Q (.val (.int (-i))) env1 := by rw [wE.eq_def] <;> rfl
theorem m_cmp {op : CmpOp} : wE Γ (.cmp op a b) env X Q = opd a (wE Γ a) env X fun x env1 => opd b (wE Γ b) env1 X fun y env2 => cmpW op (res env2 x) (res env2 y) fun r => Q (.val (.bl r)) env2 := by rw [wE.eq_def] <;> rfl
theorem m_chn {o1 o2 : CmpOp} : wE Γ (.chn o1 o2 a b c) env X Q = opd a (wE Γ a) env X fun x env1 => opd b (wE Γ b) env1 X fun y env2 => cmpW o1 (res env2 x) (res env2 y) fun r =>
      if r = true then opd c (wE Γ c) env2 X fun z env3 => cmpW o2 (res env3 y) (res env3 z) fun r' => Q (.val (.bl r')) env3 else Q (.val (.bl false)) env2 := by rw [wE.eq_def] <;> rfl
theorem m_and : wE Γ (.and a b) env X Q = wE Γ a env X fun r env1 => blW r fun c => if c = true then wE Γ b env1 X Q else Q (.val (.bl false)) env1 := by rw [wE.eq_def] <;> rfl
theorem m_or : wE Γ (.or a b) env X Q = wE Γ a env X fun r env1 => blW r fun c => if c = true then Q (.val (.bl true)) env1 else wE Γ b env1 X Q := by rw [wE.eq_def] <;> rfl
theorem m_not : wE Γ (.not a) env X Q = wE Γ a env X fun r env1 => blW r fun c => Q (.val (.bl (!c))) env1 := by rw [wE.eq_def] <;> rfl
theorem m_ite {t : T} : wE Γ (.ite t a b) env X Q = wT Γ t env X fun k env1 => if k = true then wE Γ a env1 X Q else wE Γ b env1 X Q := by rw [wE.eq_def] <;> rfl
theorem m_tup {es : List E} : wE Γ (.tup es) env X Q = wOs Γ es env X fun os env1 => dsW os fun ds => Q (.val (.tup ds)) env1 := by rw [wE.eq_def] <;> rfl
theorem m_lst {es : List E} : wE Γ (.lst es) env X Q = wOs Γ es env X fun os env1 => dsW os fun ds => Q (.fr (.lst ds)) env1 := by rw [wE.eq_def] <;> rfl
theorem m_sub : wE Γ (.sub a b) env X Q = opd a (wE Γ a) env X fun x env1 => opd b (wE Γ b) env1 X fun y env2 => subW (res env2 x) (res env2 y) fun r => Q (.val r) env2 := by rw [wE.eq_def] <;> rfl
theorem m_call {f : Nat} {as : List E} {src : List (Sum Nat D)} : wE Γ (.call f as src) env X Q = wOs Γ as env X fun os env1 => vsW (bindS (os.map (handed env1)) src) (lent env1 os src) fun vs =>
      Γ.f f vs (fun r outs => Q r (back env1 (lent env1 os src) outs)) (fun x outs => X x (back env1 (lent env1 os src) outs)) := by rw [wE.eq_def] <;> rfl
theorem m_bi {f : BI} {as : List E} : wE Γ (.bi f as) env X Q = wOs Γ as env X fun os env1 => biW f (os.map (res env1)) fun r => Q r env1 := by rw [wE.eq_def] <;> rfl
theorem m_isi {t : Ty} : wE Γ (.isi a t) env X Q = opd a (wE Γ a) env X fun x env1 => tyW t (res env1 x) fun b => Q (.val (.bl b)) env1 := by rw [wE.eq_def] <;> rfl
theorem m_os0 {R : PostOs} : wOs Γ [] env X R = R [] env := by rw [wOs.eq_def] <;> rfl
theorem m_os1 {e : E} {es : List E} {R : PostOs} : wOs Γ (e :: es) env X R = opd e (wE Γ e) env X fun o env1 => wOs Γ es env1 X fun os env2 => R (o :: os) env2 := by rw [wOs.eq_def] <;> rfl
theorem m_it {e : E} {R : List D → G.Env → Prop} : wI Γ (.it e) env X R = wE Γ e env X fun r env1 => itW r.toD fun ds => R ds env1 := by rw [wI.eq_def] <;> rfl
theorem m_rng {es : List E} {R : List D → G.Env → Prop} : wI Γ (.rng es) env X R = wOs Γ es env X fun os env1 => rngW (os.map (res env1)) fun ds => R ds env1 := by rw [wI.eq_def] <;> rfl
theorem m_yes {R : Bool → G.Env → Prop} : wT Γ .yes env X R = R true env := by rw [wT.eq_def] <;> rfl
theorem m_tv {e : E} {R : Bool → G.Env → Prop} : wT Γ (.tv e) env X R = opd e (wE Γ e) env X fun o env1 => truW (res env1 o) fun b => R b env1 := by rw [wT.eq_def] <;> rfl
theorem m_tand {s t : T} {R : Bool → G.Env → Prop} : wT Γ (.and s t) env X R = wT Γ s env X fun c env1 => if c = true then wT Γ t env1 X R else R false env1 := by rw [wT.eq_def] <;> rfl
theorem m_tor {s t : T} {R : Bool → G.Env → Prop} : wT Γ (.or s t) env X R = wT Γ s env X fun c env1 => if c = true then R true env1 else wT Γ t env1 X R := by rw [wT.eq_def] <;> rfl
theorem m_tnot {s : T} {R : Bool → G.Env → Prop} : wT Γ (.not s) env X R = wT Γ s env X fun c env1 => R (!c) env1 := by rw [wT.eq_def] <;> rfl
theorem m_tcmp {op : CmpOp} {R : Bool → G.Env → Prop} : wT Γ (.cmp op a b) env X R = opd a (wE Γ a) env X fun x env1 => opd b (wE Γ b) env1 X fun y env2 => cmpW op (res env2 x) (res env2 y) fun r => R r env2 := by rw [wT.eq_def] <;> rfl
theorem m_tchn {o1 o2 : CmpOp} {R : Bool → G.Env → Prop} : wT Γ (.chn o1 o2 a b c) env X R = opd a (wE Γ a) env X fun x env1 => opd b (wE Γ b) env1 X fun y env2 => cmpW o1 (res env2 x) (res env2 y) fun r =>
      if r = true then opd c (wE Γ c) env2 X fun z env3 => cmpW o2 (res env3 y) (res env3 z) fun r' => R r' env3 else R false env2 := by rw [wT.eq_def] <;> rfl
/-! operands -/
theorem p_ref {i : Nat} {w : G.Env → XP → PostE → Prop} {R : PostO} {v : Option EV} {xs : G.Env} : opd (.ref i) w (v :: xs) X R = (match (v :: xs)[i]? with
    | some (some _) => R (.slot i) (v :: xs)
    | _ => False) := (rfl)
variable {w : G.Env → XP → PostE → Prop} {R : PostO}
theorem p_var {i : Nat} : opd (.var i) w env X R = w env X fun r env' => R (.d r.toD) env' := (rfl)
theorem p_con {d : D} : opd (.con d) w env X R = w env X fun r env' => R (.d r.toD) env' := (rfl)
theorem p_glb {g : Str} {d : D} : opd (.glb g d) w env X R = w env X fun r env' => R (.d r.toD) env' := (rfl)
theorem p_bin {op : Operator} : opd (.bin op a b) w env X R = w env X fun r env' => R (.d r.toD) env' := (rfl)
theorem p_neg : opd (.neg a) w env X R = w env X fun r env' => R (.d r.toD) env' := (rfl)
theorem p_cmp {op : CmpOp} : opd (.cmp op a b) w env X R = w env X fun r env' => R (.d r.toD) env' := (rfl)
theorem p_chn {o1 o2 : CmpOp} : opd (.chn o1 o2 a b c) w env X R = w env X fun r env' => R (.d r.toD) env' := (rfl)
theorem p_and : opd (.and a b) w env X R = w env X fun r env' => R (.d r.toD) env' := (rfl)
theorem p_or : opd (.or a b) w env X R = w env X fun r env' => R (.d r.toD) env' := (rfl)
theorem p_not : opd (.not a) w env X R = w env X fun r env' => R (.d r.toD) env' := (rfl)
theorem p_ite {t : T} : opd (.ite t a b) w env X R = w env X fun r env' => R (.d r.toD) env' := (rfl)
theorem p_tup {es : List E} : opd (.tup es) w env X R = w env X fun r env' => R (.d r.toD) env' := (rfl)
theorem p_lst {es : List E} : opd (.lst es) w env X R = w env X fun r env' => R (.d r.toD) env' := (rfl)
theorem p_sub : opd (.sub a b) w env X R = w env X fun r env' => R (.d r.toD) env' := (rfl)
theorem p_call {f : Nat} {as : List E} {src : List (Sum Nat D)} : opd (.call f as src) w env X R = w env X fun r env' => R (.d r.toD) env' := (rfl)
theorem p_bi {f : BI} {as : List E} : opd (.bi f as) w env X R = w env X fun r env' => R (.d r.toD) env' := (rfl)
theorem p_isi {t : Ty} : opd (.isi a t) w env X R = w env X fun r env' => R (.d r.toD) env' := (rfl)
theorem p_lc {t : Tg} {it : I} {cond : T} {own : List Nat} : opd (.lc a t it cond own) w env X R = w env X fun r env' => R (.d r.toD) env' := (rfl)
end
/-! values -/
section
variable {Q : RV → Prop} {B : Bool → Prop} {i j : Int} {x y : Str}
theorem v_add : binW .Add (some (.int i)) (some (.int j)) Q = Q (.val (.int (i + j))) := (rfl)
theorem v_sub : binW .Sub (some (.int i)) (some (.int j)) Q = Q (.val (.int (i - j))) := (rfl)
theorem v_mul : binW .Mult (some (.int i)) (some (.int j)) Q = (L2.CMulW i j ∧ Q (.val (.int (i * j)))) := (rfl)
theorem v_div : binW .FloorDiv (some (.int i)) (some (.int j)) Q = (L2.CDivW i j ∧ Q (.val (.int (i / j)))) := (rfl)
theorem v_mod : binW .Mod (some (.int i)) (some (.int j)) Q = (0 < j ∧ Q (.val (.int (i % j)))) := (rfl)
theorem v_pow : binW .Pow (some (.int i)) (some (.int j)) Q = (L2.CPow i j ∧ Q (.val (.int (i ^ j.toNat)))) := (rfl)
theorem v_adds : binW .Add (some (.str x)) (some (.str y)) Q = (x.length + y.length ≤ line ∧ Q (.val (.str (x ++ y)))) := (rfl)
theorem v_addl {xs ys : List D} : binW .Add (some (.lst xs)) (some (.lst ys)) Q = (xs.length + ys.length ≤ line ∧ Q (.fr (.lst (xs ++ ys)))) := (rfl)
theorem v_addt {xs ys : List D} : binW .Add (some (.tup xs)) (some (.tup ys)) Q = (xs.length + ys.length ≤ line ∧ Q (.val (.tup (xs ++ ys)))) := (rfl)
theorem v_lt : cmpW .Lt (some (.int i)) (some (.int j)) B = B (decide (i < j)) := (rfl)
theorem v_le : cmpW .LtE (some (.int i)) (some (.int j)) B = B (decide (i ≤ j)) := (rfl)
theorem v_gt : cmpW .Gt (some (.int i)) (some (.int j)) B = B (decide (j < i)) := (rfl)
theorem v_ge : cmpW .GtE (some (.int i)) (some (.int j)) B = B (decide (j ≤ i)) := (rfl)
theorem v_eq : cmpW .Eq (some (.int i)) (some (.int j)) B = B (decide (i = j)) := (rfl)
theorem v_ne : cmpW .NotEq (some (.int i)) (some (.int j)) B = B (!decide (i = j)) := (rfl)
theorem v_eqs : cmpW .Eq (some (.str x)) (some (.str y)) B = B (decide (x = y)) := (rfl)
theorem v_nes : cmpW .NotEq (some (.str x)) (some (.str y)) B = B (!decide (x = y)) := (rfl)
theorem v_is {d : D} : cmpW .Is (some d) (some .non) B = B (isNon d) := by cases d <;> rfl
theorem v_isn {d : D} : cmpW .IsNot (some d) (some .non) B = B (!isNon d) := by cases d <;> rfl
theorem v_int {Z : Int → Prop} : intW (some (.int i)) Z = Z i := propext ⟨fun ⟨k, e, h⟩ => by cases e; exact h, fun h => ⟨i, rfl, h⟩⟩
theorem v_bl {c : Bool} {Z : Bool → Prop} : blW (.val (.bl c)) Z = Z c := propext ⟨fun ⟨k, e, h⟩ => by cases e; exact h, fun h => ⟨c, rfl, h⟩⟩
theorem v_subl {xs : List D} {Z : D → Prop} : subW (some (.lst xs)) (some (.int i)) Z = atW (L2.atI xs i) Z := propext ⟨fun ⟨_, _, r, e1, e2, e3, h⟩ => by cases e1; cases e2; exact ⟨r, e3, h⟩, fun ⟨r, e, h⟩ => ⟨_, _, r, rfl, rfl, e, h⟩⟩
theorem v_subt {xs : List D} {Z : D → Prop} : subW (some (.tup xs)) (some (.int i)) Z = atW (L2.atI xs i) Z := propext ⟨fun ⟨_, _, r, e1, e2, e3, h⟩ => by cases e1; cases e2; exact ⟨r, e3, h⟩, fun ⟨r, e, h⟩ => ⟨_, _, r, rfl, rfl, e, h⟩⟩
theorem v_subs {xs : List Int} {Z : D → Prop} : subW (some (.scr xs)) (some (.int i)) Z = atW ((L2.atI xs i).map .int) Z := propext ⟨fun ⟨_, _, r, e1, e2, e3, h⟩ => by cases e1; cases e2; exact ⟨r, e3, h⟩, fun ⟨r, e, h⟩ => ⟨_, _, r, rfl, rfl, e, h⟩⟩
theorem v_at {d : D} {Z : D → Prop} : atW (some d) Z = Z d := propext ⟨fun ⟨k, e, h⟩ => by cases e; exact h, fun h => ⟨d, rfl, h⟩⟩
theorem at_nat {xs : List D} {k : Nat} {x : D} (h : xs[k]? = some x) : L2.atI xs (k : Int) = some x := by
  have hk := (List.getElem?_eq_some_iff.mp h).1
  unfold L2.atI L2.ixN
  rw [if_pos (by omega : (0 : Int) ≤ (k : Int)), if_pos (by omega : (k : Int) < ((xs.length : Nat) : Int))]
  exact h
theorem at0 {a : D} {xs : List D} : L2.atI (a :: xs) 0 = some a := at_nat (k := 0) rfl
theorem at1 {a b : D} {xs : List D} : L2.atI (a :: b :: xs) 1 = some b := at_nat (k := 1) rfl
theorem at2 {a b c : D} {xs : List D} : L2.atI (a :: b :: c :: xs) 2 = some c := at_nat (k := 2) rfl
theorem at3 {a b c d : D} {xs : List D} : L2.atI (a :: b :: c :: d :: xs) 3 = some d := at_nat (k := 3) rfl
theorem at4 {a b c d e : D} {xs : List D} : L2.atI (a :: b :: c :: d :: e :: xs) 4 = some e := at_nat (k := 4) rfl
/-- a place that is not known -/
theorem at_any {xs : List D} {i : Int} {Z : D → Prop} (h1 : 0 ≤ i) (h2 : i < xs.length) (h : ∀ x ∈ xs, Z x) : atW (L2.atI xs i) Z := by
  have hk : i.toNat < xs.length := by omega
  refine ⟨xs[i.toNat], ?_, h _ (List.getElem_mem hk)⟩
  have := at_nat (xs := xs) (k := i.toNat) (x := xs[i.toNat]) (List.getElem?_eq_getElem hk)
  rwa [show ((i.toNat : Nat) : Int) = i by omega] at this
theorem at_scr {xs : List Int} {i : Int} {Z : D → Prop} (h1 : 0 ≤ i) (h2 : i < xs.length) (h : ∀ x, Z (.int x)) : atW ((L2.atI xs i).map .int) Z := by
  have hk : i.toNat < xs.length := by omega
  refine ⟨.int xs[i.toNat], ?_, h _⟩
  have e : L2.atI xs i = some xs[i.toNat] := by
    unfold L2.atI L2.ixN
    rw [if_pos h1, if_pos h2]
    exact List.getElem?_eq_getElem hk
  rw [e]
  rfl
/-- one's own list's place is written -/
theorem put_nat {env : G.Env} {i : Nat} {xs : List D} {k : Nat} {d : D} {R : G.Env → Prop} (h : env[i]? = some (some (.bor (.lst xs)))) (hk : k < xs.length) : putW env i (k : Int) d R = R (env.set i (some (.bor (.lst (xs.set k d))))) := by
  have e : L2.ixN xs.length (k : Int) = some k := by
    unfold L2.ixN
    rw [if_pos (by omega), if_pos (by omega)]
    simp
  unfold putW
  rw [h]
  exact propext ⟨fun ⟨j, h1, h2⟩ => by rw [e] at h1; cases h1; exact h2, fun h => ⟨k, e, h⟩⟩
theorem v_ds0 {Z : List D → Prop} : dsW [] Z = Z [] := propext ⟨fun ⟨k, e, h⟩ => by cases e; exact h, fun h => ⟨[], rfl, h⟩⟩
theorem v_ds1 {d : D} {os : List Op} {Z : List D → Prop} : dsW (.d d :: os) Z = dsW os fun ds => Z (d :: ds) := propext ⟨fun ⟨k, e, h⟩ => by
  simp only [datas, Option.map_eq_some_iff] at e
  obtain ⟨ds, e, rfl⟩ := e
  exact ⟨ds, e, h⟩, fun ⟨ds, e, h⟩ => ⟨d :: ds, by simp only [datas, e, Option.map_some], h⟩⟩
theorem v_tru {d : D} : truW (some d) B = ∃ b, truth d = some b ∧ B b := propext ⟨fun ⟨_, b, e, h1, h2⟩ => by cases e; exact ⟨b, h1, h2⟩, fun ⟨b, h1, h2⟩ => ⟨_, b, rfl, h1, h2⟩⟩
theorem v_trub {b : Bool} : truW (some (.bl b)) B = B b := propext ⟨fun ⟨_, b, e, h1, h2⟩ => by cases e; cases h1; exact h2, fun h => ⟨_, _, rfl, rfl, h⟩⟩
theorem v_trui : truW (some (.int i)) B = B (i != 0) := propext ⟨fun ⟨_, b, e, h1, h2⟩ => by cases e; cases h1; exact h2, fun h => ⟨_, _, rfl, rfl, h⟩⟩
theorem v_trul {xs : List D} : truW (some (.lst xs)) B = B (!xs.isEmpty) := propext ⟨fun ⟨_, b, e, h1, h2⟩ => by cases e; cases h1; exact h2, fun h => ⟨_, _, rfl, rfl, h⟩⟩
theorem v_trut {xs : List D} : truW (some (.tup xs)) B = B (!xs.isEmpty) := propext ⟨fun ⟨_, b, e, h1, h2⟩ => by cases e; cases h1; exact h2, fun h => ⟨_, _, rfl, rfl, h⟩⟩
theorem v_trun : truW (some .non) B = B false := propext ⟨fun ⟨_, b, e, h1, h2⟩ => by cases e; cases h1; exact h2, fun h => ⟨_, _, rfl, rfl, h⟩⟩
theorem v_itl {xs : List D} {Z : List D → Prop} : itW (.lst xs) Z = Z xs := propext ⟨fun ⟨_, e, h⟩ => by cases e; exact h, fun h => ⟨_, rfl, h⟩⟩
theorem v_itt {xs : List D} {Z : List D → Prop} : itW (.tup xs) Z = Z xs := propext ⟨fun ⟨_, e, h⟩ => by cases e; exact h, fun h => ⟨_, rfl, h⟩⟩
theorem v_vs {vs : List EV} {ls : List Nat} {Z : List EV → Prop} : vsW (some vs) ls Z = (ls.Nodup ∧ Z vs) := propext ⟨fun ⟨_, e, h⟩ => by cases e; exact h, fun h => ⟨_, rfl, h⟩⟩
theorem v_ty {t : Ty} {d : D} : tyW t (some d) B = B (tyD t d) := propext ⟨fun ⟨_, e, h⟩ => by cases e; exact h, fun h => ⟨_, rfl, h⟩⟩
theorem v_max : biW .max2 [some (.int i), some (.int j)] Q = Q (.val (.int (if j > i then j else i))) := (rfl)
theorem v_min : biW .min2 [some (.int i), some (.int j)] Q = Q (.val (.int (if j < i then j else i))) := (rfl)
theorem v_len {xs : List D} : biW .len [some (.lst xs)] Q = Q (.val (.int xs.length)) := (rfl)
theorem v_lent {xs : List D} : biW .len [some (.tup xs)] Q = Q (.val (.int xs.length)) := (rfl)
theorem v_lens {xs : List Int} : biW .len [some (.scr xs)] Q = Q (.val (.int xs.length)) := (rfl)
theorem v_repr {d : D} : biW .repr [some d] Q = (plain d = true ∧ (toPy d).showable = true ∧ (toPy d).depth ≤ 60 ∧ (showD d).length ≤ line ∧ Q (.val (.str (showD d)))) := (rfl)
theorem v_rng1 {Z : List D → Prop} : rngW [some (.int j)] Z = ((-1000000 ≤ j ∧ j ≤ 1000000) ∧ Z (rngD 0 j)) := (rfl)
theorem v_rng2 {Z : List D → Prop} : rngW [some (.int i), some (.int j)] Z = ((-1000000 ≤ i ∧ i ≤ 1000000 ∧ -1000000 ≤ j ∧ j ≤ 1000000) ∧ Z (rngD i j)) := (rfl)
end
/-! statements -/
section
variable {Γ : Fns} {s : S} {ss : List S} {env : G.Env} {X : XP} {nx : G.Env → Prop} {rt : RV → G.Env → Prop} {bk ct : G.Env → Prop}
theorem cutS {R : (G.Env → Prop) → (RV → G.Env → Prop) → Prop} (h : ∀ nx rt, wS Γ s env X ⟨nx, rt, bk, ct⟩ = R nx rt) (g : R (fun env1 => wSs Γ ss env1 X ⟨nx, rt, bk, ct⟩) rt) : wSs Γ (s :: ss) env X ⟨nx, rt, bk, ct⟩ := (h _ _).mpr g
theorem cutI {c : T} {a b : List S} {R : (Bool → G.Env → Prop) → Prop} (h : ∀ Q, wT Γ c env X Q = R Q)
    (g : R (fun b' env1 => if b' = true then wSs Γ a env1 X ⟨fun env1 => wSs Γ ss env1 X ⟨nx, rt, bk, ct⟩, rt, bk, ct⟩ else wSs Γ b env1 X ⟨fun env1 => wSs Γ ss env1 X ⟨nx, rt, bk, ct⟩, rt, bk, ct⟩)) : wSs Γ (.ite c a b :: ss) env X ⟨nx, rt, bk, ct⟩ := (h _).mpr g
theorem cutF {t : Tg} {it : I} {body : List S} {R : (List D → G.Env → Prop) → Prop} (h : ∀ Q, wI Γ it env X Q = R Q)
    (g : R (fun ds env1 => forW (fun d env2 R => asg t d env2 fun env3 => wSs Γ body env3 X ⟨R, rt, fun env1 => wSs Γ ss env1 X ⟨nx, rt, bk, ct⟩, R⟩) (fun env1 => wSs Γ ss env1 X ⟨nx, rt, bk, ct⟩) ds env1)) : wSs Γ (.for_ t it body :: ss) env X ⟨nx, rt, bk, ct⟩ := (h _).mpr g
theorem cutN (g : nx env) : wSs Γ [] env X ⟨nx, rt, bk, ct⟩ := g
/-- a loop by what holds between two turns -/
theorem for_inv {turn : D → G.Env → (G.Env → Prop) → Prop} {Q : G.Env → Prop} (I : G.Env → Prop) : ∀ {ds : List D} {env : G.Env}, I env → (∀ d ∈ ds, ∀ env R, I env → (∀ env', I env' → R env') → turn d env R) → (∀ env, I env → Q env) → forW turn Q ds env
  | [], env, h, _, q => q env h
  | d :: ds, env, h, t, q => t d (List.mem_cons_self ..) env _ h fun env' h' => for_inv I h' (fun d hd => t d (List.mem_cons_of_mem _ hd)) q
theorem rng_mem {lo hi : Int} {d : D} (h : d ∈ rngD lo hi) : ∃ i, d = .int i ∧ lo ≤ i ∧ i < hi := by
  unfold rngD at h
  obtain ⟨k, hk, rfl⟩ := List.mem_map.mp h
  rw [List.mem_range] at hk
  exact ⟨_, rfl, by omega, by omega⟩
theorem if_d {p : Prop} [Decidable p] {A B : Prop} (h1 : p → A) (h2 : ¬ p → B) : if decide p = true then A else B := by
  by_cases h : p
  · rw [if_pos (decide_eq_true h)]; exact h1 h
  · rw [if_neg (by simpa using h)]; exact h2 h
theorem if_n {p : Prop} [Decidable p] {A B : Prop} (h1 : ¬ p → A) (h2 : p → B) : if (!decide p) = true then A else B := by
  by_cases h : p
  · rw [if_neg (by simpa using h)]; exact h2 h
  · rw [if_pos (by simpa using h)]; exact h1 h
theorem if_b {c : Bool} {A B : Prop} (h1 : c = true → A) (h2 : c = false → B) : if c = true then A else B := by
  cases c
  · rw [if_neg (by decide)]; exact h2 rfl
  · rw [if_pos rfl]; exact h1 rfl
end
/-! ### room -/
def Sm (n : Nat) (i : Int) : Prop := i.natAbs < 2 ^ n
theorem sm_mul {a b : Nat} {i j : Int} (h : Sm a i) (k : Sm b j) : Sm (a + b) (i * j) := by
  unfold Sm at *
  rw [Int.natAbs_mul, Nat.pow_add]
  exact Nat.mul_lt_mul_of_lt_of_lt h k
theorem sm_add {a b : Nat} {i j : Int} (h : Sm a i) (k : Sm b j) : Sm (a + b + 1) (i + j) := by
  unfold Sm at *
  have h1 : 2 ^ a ≤ 2 ^ (a + b) := Nat.pow_le_pow_right (by decide) (by omega)
  have h2 : 2 ^ b ≤ 2 ^ (a + b) := Nat.pow_le_pow_right (by decide) (by omega)
  rw [Nat.pow_succ]
  omega
theorem sm_sub {a b : Nat} {i j : Int} (h : Sm a i) (k : Sm b j) : Sm (a + b + 1) (i - j) := by
  unfold Sm at *
  have h1 : 2 ^ a ≤ 2 ^ (a + b) := Nat.pow_le_pow_right (by decide) (by omega)
  have h2 : 2 ^ b ≤ 2 ^ (a + b) := Nat.pow_le_pow_right (by decide) (by omega)
  rw [Nat.pow_succ]
  omega
theorem sm_mod {a : Nat} {i j : Int} (h : Sm a j) (p : 0 < j) : Sm a (i % j) := by
  unfold Sm at *
  have := Int.emod_nonneg i (by omega : j ≠ 0)
  have := Int.emod_lt_of_pos i p
  omega
theorem sm_of (n : Nat) {i : Int} (h1 : -(2 ^ n : Int) < i) (h2 : i < (2 ^ n : Int)) : Sm n i := by
  unfold Sm
  have : ((2 ^ n : Nat) : Int) = (2 : Int) ^ n := by simp
  omega
theorem sm_log {n : Nat} {i : Int} (h : Sm n i) : i.natAbs.log2 ≤ n := by
  by_cases z : i.natAbs = 0
  · rw [z]; exact Nat.zero_le _
  · exact Nat.le_of_lt ((Nat.log2_lt z).mpr h)
theorem cmul {a b : Nat} {i j : Int} (h : Sm a i) (k : Sm b j) (l : a + b < 1000000) : L2.CMulW i j := by
  unfold L2.CMulW
  have := sm_log h
  have := sm_log k
  omega
theorem cdiv {b : Nat} {i j : Int} (p : 0 < j) (k : Sm b j) (l : b < 9000) : L2.CDivW i j := ⟨p, Nat.lt_of_le_of_lt (sm_log k) l⟩
/-! statements, worked out -/
def putV (v : Option (Option EV)) (n : Int) (d : D) (Z : EV → Prop) : Prop := match v with
  | some (some (.own (.lst xs))) => ∃ j, L2.ixN xs.length n = some j ∧ Z (.own (.lst (xs.set j d)))
  | some (some (.bor (.lst xs))) => ∃ j, L2.ixN xs.length n = some j ∧ Z (.bor (.lst (xs.set j d)))
  | _ => False
theorem q_put {env : G.Env} {i : Nat} {n : Int} {d : D} {R : G.Env → Prop} : putW env i n d R = putV env[i]? n d fun e => R (env.set i (some e)) := by
  unfold putW putV
  cases env[i]? with
  | none => rfl
  | some v => cases v with
    | none => rfl
    | some e => cases e with
      | val d => rfl
      | own o => cases o <;> rfl
      | bor o => cases o <;> rfl
theorem jx {xs : List D} {k : Nat} {Z : Nat → Prop} (hk : k < xs.length) : (∃ j, L2.ixN xs.length (k : Int) = some j ∧ Z j) = Z k := by
  have e : L2.ixN xs.length (k : Int) = some k := by
    unfold L2.ixN
    rw [if_pos (by omega), if_pos (by omega)]
    simp
  exact propext ⟨fun ⟨j, h1, h2⟩ => by rw [e] at h1; cases h1; exact h2, fun h => ⟨k, e, h⟩⟩
section
variable {a b c d : D} {xs : List D} {Z : EV → Prop}
theorem pb0 : putV (some (some (.bor (.lst (a :: xs))))) 0 d Z = Z (.bor (.lst (d :: xs))) := jx (k := 0) (xs := a :: xs) (Z := fun j => Z (.bor (.lst ((a :: xs).set j d)))) (by simp)
theorem pb1 : putV (some (some (.bor (.lst (a :: b :: xs))))) 1 d Z = Z (.bor (.lst (a :: d :: xs))) := jx (k := 1) (xs := a :: b :: xs) (Z := fun j => Z (.bor (.lst ((a :: b :: xs).set j d)))) (by simp)
theorem pb2 : putV (some (some (.bor (.lst (a :: b :: c :: xs))))) 2 d Z = Z (.bor (.lst (a :: b :: d :: xs))) := jx (k := 2) (xs := a :: b :: c :: xs) (Z := fun j => Z (.bor (.lst ((a :: b :: c :: xs).set j d)))) (by simp)
theorem po0 : putV (some (some (.own (.lst (a :: xs))))) 0 d Z = Z (.own (.lst (d :: xs))) := jx (k := 0) (xs := a :: xs) (Z := fun j => Z (.own (.lst ((a :: xs).set j d)))) (by simp)
theorem po1 : putV (some (some (.own (.lst (a :: b :: xs))))) 1 d Z = Z (.own (.lst (a :: d :: xs))) := jx (k := 1) (xs := a :: b :: xs) (Z := fun j => Z (.own (.lst ((a :: b :: xs).set j d)))) (by simp)
theorem po2 : putV (some (some (.own (.lst (a :: b :: c :: xs))))) 2 d Z = Z (.own (.lst (a :: b :: d :: xs))) := jx (k := 2) (xs := a :: b :: c :: xs) (Z := fun j => Z (.own (.lst ((a :: b :: c :: xs).set j d)))) (by simp)
end
section
variable {Γ : Fns} {env : G.Env} {X : XP} {k : K} {a b c e : E}
def putD (x : Option D) (Z : Int → Prop) : Prop := match x with
  | some (.int n) => Z n
  | _ => False
theorem v_putD {i : Int} {Z : Int → Prop} : putD (some (.int i)) Z = Z i := (rfl)
theorem q_asg {i : Nat} : wS Γ (.asg i e) env X k = wE Γ e env X fun r env1 => setS env1 i r.toEV k.nx := by rw [wS.eq_def]
theorem q_puts {i : Nat} {ix : E} : wS Γ (.put i ix e) env X k = wE Γ e env X fun r env1 => match env1[i]? with
    | some (some _) => opd ix (wE Γ ix) env1 X fun x env2 => putD (res env2 x) fun n => putW env2 i n r.toD k.nx
    | _ => False := by rw [wS.eq_def] <;> rfl
theorem q_ex : wS Γ (.ex e) env X k = wE Γ e env X fun _ env1 => k.nx env1 := by rw [wS.eq_def]
theorem q_retn : wS Γ .retN env X k = k.rt (.val .non) env := by rw [wS.eq_def]
theorem q_pass : wS Γ .pass env X k = k.nx env := by rw [wS.eq_def]
theorem q_brk : wS Γ .brk env X k = k.bk env := by rw [wS.eq_def]
theorem q_cnt : wS Γ .cnt env X k = k.ct env := by rw [wS.eq_def]
theorem q_par {is : List Nat} {es : List E} : wS Γ (.par is es) env X k = wRs Γ es env X fun rs env1 => setAll env1 is rs k.nx := by rw [wS.eq_def]
theorem q_asgT {t : Tg} : wS Γ (.asgT t e) env X k = wE Γ e env X fun r env1 => asg t r.toD env1 k.nx := by rw [wS.eq_def]
theorem q_rs0 {R : List RV → G.Env → Prop} : wRs Γ [] env X R = R [] env := (rfl)
theorem q_rs1 {es : List E} {R : List RV → G.Env → Prop} : wRs Γ (e :: es) env X R = wE Γ e env X fun r env1 => wRs Γ es env1 X fun rs env2 => R (r :: rs) env2 := (rfl)
theorem r_var {i : Nat} : wS Γ (.ret (.var i)) env X k = (match env[i]? with
    | some (some (.val d)) => k.rt (.val d) env
    | some (some (.own o)) => k.rt (.fr o) (env.set i none)
    | _ => False) := by rw [wS.eq_def] <;> rfl
theorem r_con {d : D} : wS Γ (.ret (.con d)) env X k = wE Γ (.con d) env X k.rt := by rw [wS.eq_def]
theorem r_glb {g : Str} {d : D} : wS Γ (.ret (.glb g d)) env X k = wE Γ (.glb g d) env X k.rt := by rw [wS.eq_def]
theorem r_bin {op : Operator} : wS Γ (.ret (.bin op a b)) env X k = wE Γ (.bin op a b) env X k.rt := by rw [wS.eq_def]
theorem r_neg : wS Γ (.ret (.neg a)) env X k = wE Γ (.neg a) env X k.rt := by rw [wS.eq_def]
theorem r_cmp {op : CmpOp} : wS Γ (.ret (.cmp op a b)) env X k = wE Γ (.cmp op a b) env X k.rt := by rw [wS.eq_def]
theorem r_chn {o p : CmpOp} : wS Γ (.ret (.chn o p a b c)) env X k = wE Γ (.chn o p a b c) env X k.rt := by rw [wS.eq_def]
theorem r_and : wS Γ (.ret (.and a b)) env X k = wE Γ (.and a b) env X k.rt := by rw [wS.eq_def]
theorem r_or : wS Γ (.ret (.or a b)) env X k = wE Γ (.or a b) env X k.rt := by rw [wS.eq_def]
theorem r_not : wS Γ (.ret (.not a)) env X k = wE Γ (.not a) env X k.rt := by rw [wS.eq_def]
theorem r_ite {t : T} : wS Γ (.ret (.ite t a b)) env X k = wE Γ (.ite t a b) env X k.rt := by rw [wS.eq_def]
theorem r_tup {es : List E} : wS Γ (.ret (.tup es)) env X k = wE Γ (.tup es) env X k.rt := by rw [wS.eq_def]
theorem r_lst {es : List E} : wS Γ (.ret (.lst es)) env X k = wE Γ (.lst es) env X k.rt := by rw [wS.eq_def]
theorem r_sub : wS Γ (.ret (.sub a b)) env X k = wE Γ (.sub a b) env X k.rt := by rw [wS.eq_def]
theorem r_call {f : Nat} {as : List E} {src : List (Sum Nat D)} : wS Γ (.ret (.call f as src)) env X k = wE Γ (.call f as src) env X k.rt := by rw [wS.eq_def]
theorem r_bi {f : BI} {as : List E} : wS Γ (.ret (.bi f as)) env X k = wE Γ (.bi f as) env X k.rt := by rw [wS.eq_def]
theorem r_isi {t : Ty} : wS Γ (.ret (.isi a t)) env X k = wE Γ (.isi a t) env X k.rt := by rw [wS.eq_def]
theorem r_lc {t : Tg} {it : I} {cond : T} {own : List Nat} : wS Γ (.ret (.lc a t it cond own)) env X k = wE Γ (.lc a t it cond own) env X k.rt := by rw [wS.eq_def]
end
/-- a def's meaning, opened -/
theorem w_at {t : Text} {n f : Nat} {as : List EV} {Q : RV → List OV → Prop} {X : Exn → List OV → Prop} {fd : FD} (env : G.Env) (h : t.fds[f]? = some fd) (hl : as.length = fd.np) (he : as.map some ++ List.replicate (fd.ns - fd.np) none = env)
    (g : wSs ⟨W t n, t.pos, t.init⟩ fd.body env (fun x env => X x (bors env)) ⟨fun env => Q (.val .non) (bors env), fun r env => Q r (bors env), fun _ => False, fun _ => False⟩) : W t (n + 1) f as Q X := by
  simp only [W, h]
  rw [he]
  exact ⟨hl, g⟩
/-! slots of which only the kind is known -/
def vO (x : Option D) : Option EV := x.map .val
def oO (x : Option OV) : Option EV := x.map .own
section
variable {xs : G.Env} {v : EV} {Q : G.Env → Prop}
theorem set_s {e : Option EV} {i : Nat} : setS (e :: xs) (i + 1) v Q = setS xs i v fun ys => Q (e :: ys) := (rfl)
theorem set_n : setS (none :: xs) 0 v Q = Q (some v :: xs) := (rfl)
theorem set_v {d : D} : setS (some (.val d) :: xs) 0 v Q = Q (some v :: xs) := (rfl)
theorem set_o {o : OV} : setS (some (.own o) :: xs) 0 v Q = Q (some v :: xs) := (rfl)
theorem set_vO {x : Option D} : setS (vO x :: xs) 0 v Q = Q (some v :: xs) := by cases x <;> rfl
theorem set_oO {x : Option OV} : setS (oO x :: xs) 0 v Q = Q (some v :: xs) := by cases x <;> rfl
end
theorem back_0 {env : G.Env} {os : List OV} : back env [] os = env := by cases os <;> rfl
theorem back_1 {env : G.Env} {i : Nat} {is : List Nat} {o : OV} {os : List OV} : back env (i :: is) (o :: os) = back (env.set i ((env[i]?.getD none).map fun v => v.put o)) is os := rfl
theorem at_int {xs : List Int} {i : Int} {Z : D → Prop} (lo hi : Int) (h1 : 0 ≤ i) (h2 : i < xs.length) (hx : ∀ x ∈ xs, lo ≤ x ∧ x ≤ hi) (h : ∀ x : Int, lo ≤ x → x ≤ hi → Z (.int x)) : atW (L2.atI (xs.map D.int) i) Z := by
  refine at_any h1 (by rw [List.length_map]; exact h2) fun d hd => ?_
  obtain ⟨x, hx', rfl⟩ := List.mem_map.mp hd
  exact h x (hx x hx').1 (hx x hx').2
theorem if_T {A B : Prop} (h : A) : if true = true then A else B := by rw [if_pos rfl]; exact h
theorem if_F {A B : Prop} (h : B) : if false = true then A else B := by rw [if_neg (by decide)]; exact h
end G
namespace Q
open PySem PySem.Spec L2 G

abbrev top (i : Nat) : Stmt := PySem.Challenge.pw_classmarks_k20_points_that_are_late.main.body.getD i (.Pass ⟨0, 0, 0, 0⟩)
/- 0 cut_by(points, days, cut): 0:points 1:days 2:cut -/
def b0 : List S := [.ret (.bi .max2 [(.con (.int 0)), (.bin .Sub (.ref 0) (.bin .FloorDiv (.bin .Mult (.bin .Mult (.ref 0) (.ref 2)) (.ref 1)) (.glb ("HUNDREDTHS" : Str) (.int 100))))])]
def d0 : FD := ⟨3, 3, b0⟩
def N0 : List Str := ["points", "days", "cut"]
/- 1 late_points(points, days, cut): 0:points 1:days 2:cut -/
def b1 : List S := [.ret (.call 0 [(.var 0), (.var 1), (.var 2)] [.inl 0, .inl 1, .inl 2])]
def d1 : FD := ⟨3, 3, b1⟩
def N1 : List Str := ["points", "days", "cut"]
/- 2 _law_cell_at(_law_script, _law_k): 0:_law_script 1:_law_k -/
def b2 : List S := [.ite (.cmp .Lt (.ref 1) (.bi .len [(.ref 0)])) [.ret (.sub (.ref 0) (.ref 1))] [], .ret (.con (.int 0))]
def d2 : FD := ⟨2, 2, b2⟩
def N2 : List Str := ["_law_script", "_law_k"]
/- 3 _law_state(_law_script, _law_k): 0:_law_script 1:_law_k 2:_law_cell -/
def b3 : List S := [.asg 2 (.call 2 [(.var 0), (.var 1)] [.inl 0, .inl 1]), .ite (.cmp .GtE (.ref 2) (.bin .Pow (.con (.int 10)) (.con (.int 18)))) [.ret (.lst [(.bin .Sub (.ref 2) (.bin .Pow (.con (.int 10)) (.con (.int 18)))), (.bin .Add (.bin .Mod (.ref 2) (.con (.int 2147483629))) (.con (.int 1)))])] [], .ret (.lst [(.con (.int 0)), (.bin .Add (.bin .Mod (.ref 2) (.con (.int 2147483647))) (.con (.int 1)))])]
def d3 : FD := ⟨2, 3, b3⟩
def N3 : List Str := ["_law_script", "_law_k", "_law_cell"]
/- 4 _law_take(_law_state_here, _law_many): 0:_law_state_here 1:_law_many 2:_law_found 3:_law_stirred -/
def b4 : List S := [.ite (.cmp .Gt (.sub (.ref 0) (.con (.int 0))) (.con (.int 0))) [.asg 2 (.bin .Mod (.sub (.ref 0) (.con (.int 0))) (.ref 1)), .put 0 (.con (.int 0)) (.bin .FloorDiv (.sub (.ref 0) (.con (.int 0))) (.ref 1)), .ret (.var 2)] [], .put 0 (.con (.int 1)) (.bin .Mod (.bin .Add (.bin .Mult (.sub (.ref 0) (.con (.int 1))) (.con (.int 48271))) (.con (.int 29))) (.con (.int 2147483647))), .asg 3 (.bin .Mod (.bin .Add (.bin .Add (.bin .Mult (.sub (.ref 0) (.con (.int 1))) (.sub (.ref 0) (.con (.int 1)))) (.bin .Mult (.con (.int 39373)) (.sub (.ref 0) (.con (.int 1))))) (.con (.int 7))) (.con (.int 2147483629))), .asg 3 (.bin .Mod (.bin .Add (.bin .Add (.bin .Mult (.ref 3) (.ref 3)) (.bin .Mult (.con (.int 71993)) (.ref 3))) (.con (.int 19))) (.con (.int 2147483587))), .ret (.bin .Mod (.bin .FloorDiv (.ref 3) (.con (.int 8))) (.ref 1))]
def d4 : FD := ⟨2, 4, b4⟩
def N4 : List Str := ["_law_state_here", "_law_many", "_law_found", "_law_stirred"]
/- 5 _law_points(_law_got, _law_dates, _law_loss): 0:_law_got 1:_law_dates 2:_law_loss -/
def b5 : List S := [.ret (.bi .max2 [(.con (.int 0)), (.bin .Sub (.ref 0) (.bin .FloorDiv (.bin .Mult (.bin .Mult (.ref 0) (.ref 2)) (.ref 1)) (.con (.int 100))))])]
def d5 : FD := ⟨3, 3, b5⟩
def N5 : List Str := ["_law_got", "_law_dates", "_law_loss"]
/- 6 _law_same(_law_found, _law_due): 0:_law_found 1:_law_due -/
def b6 : List S := [.ret (.cmp .Eq (.bi .repr [(.ref 0)]) (.bi .repr [(.ref 1)]))]
def d6 : FD := ⟨2, 2, b6⟩
def N6 : List Str := ["_law_found", "_law_due"]
/- 7 law(_law_script): 0:_law_script 1:_law_k 2:_law_state_here 3:_law_turn 4:_law_got 5:_law_dates 6:_law_loss 7:_law_found -/
def b7 : List S := [.for_ (.nm 1) (.rng [(.bi .max2 [(.con (.int 1)), (.bi .min2 [(.bi .len [(.ref 0)]), (.con (.int 6))])])]) [.asg 2 (.call 3 [(.var 0), (.var 1)] [.inl 0, .inl 1]), .for_ (.nm 3) (.rng [(.con (.int 25))]) [.asg 4 (.sub (.lst [(.con (.int 0)), (.con (.int 1)), (.con (.int 100)), (.call 4 [(.ref 2), (.con (.int 101))] [.inl 0, .inl 1])]) (.call 4 [(.ref 2), (.con (.int 4))] [.inl 0, .inl 1])), .asg 5 (.sub (.lst [(.con (.int 0)), (.con (.int 1)), (.con (.int 200)), (.call 4 [(.ref 2), (.con (.int 201))] [.inl 0, .inl 1]), (.call 4 [(.ref 2), (.con (.int 12))] [.inl 0, .inl 1])]) (.call 4 [(.ref 2), (.con (.int 5))] [.inl 0, .inl 1])), .asg 6 (.sub (.lst [(.con (.int 0)), (.con (.int 1)), (.con (.int 100)), (.call 4 [(.ref 2), (.con (.int 101))] [.inl 0, .inl 1])]) (.call 4 [(.ref 2), (.con (.int 4))] [.inl 0, .inl 1])), .asg 7 (.call 1 [(.var 4), (.var 5), (.var 6)] [.inl 0, .inl 1, .inl 2]), .ite (.not (.tv (.call 6 [(.var 7), (.call 5 [(.var 4), (.var 5), (.var 6)] [.inl 0, .inl 1, .inl 2])] [.inl 0, .inl 1]))) [.ret (.con (.bl false))] [], .ite (.cmp .NotEq (.call 1 [(.var 6), (.var 5), (.var 4)] [.inl 2, .inl 1, .inl 0]) (.ref 7)) [.ret (.con (.bl false))] [], .ite (.or (.and (.cmp .Gt (.ref 5) (.con (.int 0))) (.cmp .Lt (.call 1 [(.var 4), (.bin .Sub (.ref 5) (.con (.int 1))), (.var 6)] [.inl 0, .inl 1, .inl 2]) (.ref 7))) (.cmp .NotEq (.call 1 [(.var 4), (.var 5)] [.inl 0, .inl 1, .inr (.int 0)]) (.ref 4))) [.ret (.con (.bl false))] [], .ite (.and (.cmp .Gt (.ref 6) (.con (.int 0))) (.cmp .Lt (.call 1 [(.var 4), (.var 5), (.bin .Sub (.ref 6) (.con (.int 1)))] [.inl 0, .inl 1, .inl 2]) (.ref 7))) [.ret (.con (.bl false))] []]], .ret (.con (.bl true))]
def d7 : FD := ⟨1, 8, b7⟩
def N7 : List Str := ["_law_script", "_law_k", "_law_state_here", "_law_turn", "_law_got", "_law_dates", "_law_loss", "_law_found"]
def tx : Text := ⟨[d0, d1, d2, d3, d4, d5, d6, d7], fun _ _ => none, fun _ => 0⟩
def U : Tx := ⟨["cut_by", "late_points", "_law_cell_at", "_law_state", "_law_take", "_law_points", "_law_same", "law"], [(0, 3, [], [.inl 0, .inl 1, .inl 2]), (2, 2, [], [.inl 0, .inl 1]), (3, 2, [], [.inl 0, .inl 1]), (4, 2, [], [.inl 0, .inl 1]), (1, 3, [], [.inl 0, .inl 1, .inl 2]), (5, 3, [], [.inl 0, .inl 1, .inl 2]), (6, 2, [], [.inl 0, .inl 1]), (1, 0, ["cut", "days", "points"], [.inl 2, .inl 1, .inl 0]), (1, 2, [], [.inl 0, .inl 1, .inr (.int 0)]), (1, 2, ["cut"], [.inl 0, .inl 1, .inl 2])], [("HUNDREDTHS", (.int 100))], ["max", "len", "repr", "range", "min"]⟩
local macro_rules | `(tactic| walk_at "ev") => `(tactic| try simp -implicitDefEqProofs only [q_asg, q_puts, q_put, q_ex, q_retn, q_pass, q_brk, q_cnt, q_par, q_asgT, q_rs0, q_rs1, r_var, r_con, r_glb, r_bin, r_neg, r_cmp, r_chn, r_and, r_or, r_not, r_ite, r_tup, r_lst, r_sub, r_call, r_bi, r_isi, r_lc, m_var, m_con, m_glb, m_bin, m_neg, m_cmp, m_chn, m_and, m_or, m_not, m_ite, m_tup, m_lst, m_sub, m_call, m_bi, m_isi, m_os0, m_os1, m_it, m_rng, m_yes, m_tv, m_tand, m_tor, m_tnot, m_tcmp, m_tchn, p_ref, p_var, p_con, p_glb, p_bin, p_neg, p_cmp, p_chn, p_and, p_or, p_not, p_ite, p_tup, p_lst, p_sub, p_call, p_bi, p_isi, p_lc, v_add, v_sub, v_mul, v_div, v_mod, v_pow, v_adds, v_addl, v_addt, v_lt, v_le, v_gt, v_ge, v_eq, v_ne, v_eqs, v_nes, v_is, v_isn, v_int, v_bl, v_subl, v_subt, v_subs, v_at, at0, at1, at2, at3, at4, v_ds0, v_ds1, v_trub, v_trui, v_trul, v_trut, v_trun, v_itl, v_itt, v_vs, v_ty, v_max, v_min, v_len, v_lent, v_lens, v_repr, v_rng1, v_rng2, pb0, pb1, pb2, po0, po1, po2, v_putD, res, set_s, set_n, set_v, set_o, set_vO, set_oO, back_0, back_1, Option.getD_some, EV.put, Bool.false_eq_true, Bool.not_true, Bool.not_false, if_true, if_false, EV.toD, OV.toD, RV.toD, RV.toEV, List.set_cons_zero, List.set_cons_succ, List.getElem?_cons_zero, List.getElem?_cons_succ, List.map_cons, List.map_nil, bindS, handed, lent, Option.map_some, List.nodup_cons, List.nodup_nil, List.not_mem_nil, not_false_eq_true, and_self, true_and, G.asg])
local macro_rules | `(tactic| walk_at "s") => `(tactic| (refine cutS (fun nx rt => by walk_at "ev"; exact rfl) ?_))
local macro_rules | `(tactic| walk_at "i") => `(tactic| (refine cutI (fun Q => by walk_at "ev"; exact rfl) ?_))
local macro_rules | `(tactic| walk_at "f") => `(tactic| (refine cutF (fun Q => by walk_at "ev"; exact rfl) ?_))
theorem sm64 {i : Int} (h1 : -18446744073709551616 < i) (h2 : i < 18446744073709551616) : Sm 64 i := sm_of 64 (by simpa using h1) (by simpa using h2)
local macro_rules | `(tactic| walk_at "sm") => `(tactic| first | (exact sm64 (by omega) (by omega)) | (refine' sm_mul ?h ?k; (case h => walk_at "sm"); (case k => walk_at "sm")) | (refine' sm_add ?h ?k; (case h => walk_at "sm"); (case k => walk_at "sm")) | (refine' sm_sub ?h ?k; (case h => walk_at "sm"); (case k => walk_at "sm")) | (refine' sm_mod ?h (by omega); (case h => walk_at "sm")))
local macro_rules | `(tactic| walk_at "mul") => `(tactic| (refine' cmul ?h ?k ?l; (case h => walk_at "sm"); (case k => walk_at "sm"); (case l => decide)))
theorem same_int {i : Int} (h : Sm 1919 i) : plain (.int i) = true ∧ (toPy (.int i)).showable = true ∧ (toPy (.int i)).depth ≤ 60 ∧ (showD (.int i)).length ≤ line := by
  have h2 : i.natAbs.log2 < 1920 := Nat.lt_of_le_of_lt (sm_log h) (by decide)
  refine ⟨rfl, ?_, by show (PyData.int i).depth ≤ 60; simp [PyData.depth], ?_⟩
  · show decide (i.natAbs.log2 < 1920) = true
    exact decide_eq_true h2
  · exact int_text_fits h2
theorem w0 {n : Nat} {p d c : Int} {Q : RV → List OV → Prop} {X : Exn → List OV → Prop} (hp : 0 ≤ p ∧ p ≤ 100) (hd : 0 ≤ d ∧ d ≤ 200) (hc : 0 ≤ c ∧ c ≤ 100)
    (h : Q (.val (.int (if p - p * c * d / 100 > 0 then p - p * c * d / 100 else 0))) []) : W tx (n + 1) 0 [.val (.int p), .val (.int d), .val (.int c)] Q X := by
  refine w_at (fd := d0) [some (.val (.int p)), some (.val (.int d)), some (.val (.int c))] rfl rfl rfl ?_
  unfold d0 b0
  walk_at "s"
  refine ⟨by walk_at "mul", by walk_at "mul", cdiv (by decide) (sm64 (by decide) (by decide)) (by decide), h⟩
theorem w1 {n : Nat} {p d c : Int} {Q : RV → List OV → Prop} {X : Exn → List OV → Prop} (hp : 0 ≤ p ∧ p ≤ 100) (hd : 0 ≤ d ∧ d ≤ 200) (hc : 0 ≤ c ∧ c ≤ 100)
    (h : Q (.val (.int (if p - p * c * d / 100 > 0 then p - p * c * d / 100 else 0))) []) : W tx (n + 2) 1 [.val (.int p), .val (.int d), .val (.int c)] Q X := by
  refine w_at (fd := d1) [some (.val (.int p)), some (.val (.int d)), some (.val (.int c))] rfl rfl rfl ?_
  unfold d1 b1
  walk_at "s"
  exact w0 hp hd hc h
theorem w5 {n : Nat} {p d c : Int} {Q : RV → List OV → Prop} {X : Exn → List OV → Prop} (hp : 0 ≤ p ∧ p ≤ 100) (hd : 0 ≤ d ∧ d ≤ 200) (hc : 0 ≤ c ∧ c ≤ 100)
    (h : Q (.val (.int (if p - p * c * d / 100 > 0 then p - p * c * d / 100 else 0))) []) : W tx (n + 1) 5 [.val (.int p), .val (.int d), .val (.int c)] Q X := by
  refine w_at (fd := d5) [some (.val (.int p)), some (.val (.int d)), some (.val (.int c))] rfl rfl rfl ?_
  unfold d5 b5
  walk_at "s"
  refine ⟨by walk_at "mul", by walk_at "mul", cdiv (by decide) (sm64 (by decide) (by decide)) (by decide), h⟩
theorem w2 {n : Nat} {ns : List Int} {k : Int} {Q : RV → List OV → Prop} {X : Exn → List OV → Prop} (hk : 0 ≤ k) (h : ∀ v, Q (.val (.int v)) []) : W tx (n + 1) 2 [.val (.scr ns), .val (.int k)] Q X := by
  refine w_at (fd := d2) [some (.val (.scr ns)), some (.val (.int k))] rfl rfl rfl ?_
  unfold d2 b2
  walk_at "i"
  refine if_d (fun h0 => ?_) (fun h0 => ?_)
  · walk_at "s"
    exact at_scr hk h0 fun x => h x
  · refine cutN ?_
    walk_at "s"
    exact h 0
theorem w3 {n : Nat} {ns : List Int} {k : Int} {Q : RV → List OV → Prop} {X : Exn → List OV → Prop} (hk : 0 ≤ k) (h : ∀ a b : Int, 0 ≤ b → b ≤ 2147483647 → Q (.fr (.lst [.int a, .int b])) []) : W tx (n + 2) 3 [.val (.scr ns), .val (.int k)] Q X := by
  refine w_at (fd := d3) [some (.val (.scr ns)), some (.val (.int k)), none] rfl rfl rfl ?_
  unfold d3 b3
  walk_at "s"
  refine w2 hk fun v => ?_
  have e18 : ((10 : Int) ^ (18 : Int).toNat) = 1000000000000000000 := by decide
  walk_at "i"
  refine ⟨⟨by decide, by decide, by decide⟩, ?_⟩
  refine if_d (fun h0 => ?_) (fun h0 => ?_)
  · walk_at "s"
    have := Int.emod_nonneg v (by decide : (2147483629 : Int) ≠ 0)
    have := Int.emod_lt_of_pos v (by decide : (0 : Int) < 2147483629)
    exact ⟨⟨by decide, by decide, by decide⟩, by decide, h _ _ (by omega) (by omega)⟩
  · refine cutN ?_
    walk_at "s"
    have := Int.emod_nonneg v (by decide : (2147483647 : Int) ≠ 0)
    have := Int.emod_lt_of_pos v (by decide : (0 : Int) < 2147483647)
    exact ⟨by decide, h _ _ (by omega) (by omega)⟩
theorem w4 {n : Nat} {a b m : Int} {Q : RV → List OV → Prop} {X : Exn → List OV → Prop} (hb : 0 ≤ b) (hb2 : b ≤ 2147483647) (hm : 0 < m) (hm2 : m < 1000)
    (h : ∀ v a' b' : Int, 0 ≤ v → v < m → 0 ≤ b' → b' ≤ 2147483647 → Q (.val (.int v)) [.lst [.int a', .int b']]) : W tx (n + 1) 4 [.bor (.lst [.int a, .int b]), .val (.int m)] Q X := by
  refine w_at (fd := d4) [some (.bor (.lst [.int a, .int b])), some (.val (.int m)), none, none] rfl rfl rfl ?_
  unfold d4 b4
  walk_at "i"
  refine if_d (fun h0 => ?_) (fun h0 => ?_)
  · walk_at "s"
    refine ⟨hm, ?_⟩
    walk_at "s"
    refine ⟨cdiv hm (sm64 (by omega) (by omega)) (by decide), ?_⟩
    walk_at "s"
    exact h _ _ _ (Int.emod_nonneg _ (by omega)) (Int.emod_lt_of_pos _ hm) hb hb2
  · refine cutN ?_
    walk_at "s"
    refine ⟨by walk_at "mul", by decide, ?_⟩
    generalize hc : (b * 48271 + 29) % 2147483647 = c
    have hc1 : 0 ≤ c := by rw [← hc]; exact Int.emod_nonneg _ (by decide)
    have hc2 : c < 2147483647 := by rw [← hc]; exact Int.emod_lt_of_pos _ (by decide)
    walk_at "s"
    refine ⟨by walk_at "mul", by walk_at "mul", by decide, ?_⟩
    generalize he : (c * c + 39373 * c + 7) % 2147483629 = e
    have he1 : 0 ≤ e := by rw [← he]; exact Int.emod_nonneg _ (by decide)
    have he2 : e < 2147483629 := by rw [← he]; exact Int.emod_lt_of_pos _ (by decide)
    walk_at "s"
    refine ⟨by walk_at "mul", by walk_at "mul", by decide, ?_⟩
    walk_at "s"
    exact ⟨cdiv (by decide) (sm64 (by decide) (by decide)) (by decide), hm, h _ _ _ (Int.emod_nonneg _ (by omega)) (Int.emod_lt_of_pos _ hm) hc1 (by omega)⟩
theorem w6 {n : Nat} {i j : Int} {Q : RV → List OV → Prop} {X : Exn → List OV → Prop} (hi : Sm 1919 i) (e : i = j) (h : Q (.val (.bl true)) []) : W tx (n + 1) 6 [.val (.int i), .val (.int j)] Q X := by
  subst e
  refine w_at (fd := d6) [some (.val (.int i)), some (.val (.int i))] rfl rfl rfl ?_
  unfold d6 b6
  walk_at "s"
  obtain ⟨h1, h2, h3, h4⟩ := same_int hi
  refine ⟨h1, h2, h3, h4, h1, h2, h3, h4, ?_⟩
  exact h
def lt (p d c : Int) : Int := if p - p * c * d / 100 > 0 then p - p * c * d / 100 else 0
theorem lt_le {p a b : Int} (h : a ≤ b) : (if p - b / 100 > 0 then p - b / 100 else 0) ≤ if p - a / 100 > 0 then p - a / 100 else 0 := by
  have := Int.ediv_le_ediv (by decide : (0 : Int) < 100) h
  split <;> split <;> omega
theorem lt_d {p d c : Int} (hp : 0 ≤ p) (hc : 0 ≤ c) : lt p d c ≤ lt p (d - 1) c := by
  refine lt_le ?_
  have := Int.mul_nonneg hp hc
  rw [Int.mul_sub]
  omega
theorem lt_c {p d c : Int} (hp : 0 ≤ p) (hd : 0 ≤ d) : lt p d c ≤ lt p d (c - 1) := by
  refine lt_le ?_
  have := Int.mul_nonneg hp hd
  have e : p * (c - 1) * d = p * c * d - p * d := by rw [Int.mul_sub, Int.sub_mul]; simp
  rw [e]
  omega
theorem lt_0 {p d : Int} (hp : 0 ≤ p) : lt p d 0 = p := by
  unfold lt
  simp
  omega
theorem lt_sm {p d c : Int} (hp : 0 ≤ p ∧ p ≤ 100) (hd : 0 ≤ d) (hc : 0 ≤ c) : Sm 1919 (lt p d c) := by
  have h1 : 0 ≤ p * c * d := Int.mul_nonneg (Int.mul_nonneg hp.1 hc) hd
  have h2 : 0 ≤ p * c * d / 100 := Int.ediv_nonneg h1 (by decide)
  have h3 : 0 ≤ lt p d c ∧ lt p d c ≤ 100 := by
    unfold lt
    split <;> omega
  unfold Sm
  have : (lt p d c).natAbs < 2 ^ 64 := by omega
  exact Nat.lt_of_lt_of_le this (Nat.pow_le_pow_right (by decide) (by decide))
theorem w1' {n : Nat} {p d c : Int} {Q : RV → List OV → Prop} {X : Exn → List OV → Prop} (hp : 0 ≤ p ∧ p ≤ 100) (hd : 0 ≤ d ∧ d ≤ 200) (hc : 0 ≤ c ∧ c ≤ 100) (h : Q (.val (.int (lt p d c))) []) : W tx (n + 2) 1 [.val (.int p), .val (.int d), .val (.int c)] Q X := w1 hp hd hc h
theorem w5' {n : Nat} {p d c : Int} {Q : RV → List OV → Prop} {X : Exn → List OV → Prop} (hp : 0 ≤ p ∧ p ≤ 100) (hd : 0 ≤ d ∧ d ≤ 200) (hc : 0 ≤ c ∧ c ≤ 100) (h : Q (.val (.int (lt p d c))) []) : W tx (n + 1) 5 [.val (.int p), .val (.int d), .val (.int c)] Q X := w5 hp hd hc h
theorem rest20 {ns : List Int} {k t p d c a b : Int} {R' : G.Env → Prop} {X : XP} {rt : RV → G.Env → Prop} {bk ct bk2 ct2 : G.Env → Prop} (hp : 0 ≤ p) (hp2 : p ≤ 100) (hd : 0 ≤ d) (hd2 : d ≤ 200) (hc : 0 ≤ c) (hc2 : c ≤ 100) (hb : 0 ≤ b) (hb2 : b ≤ 2147483647)
    (hR' : ∀ env' : G.Env, (∃ (a b : Int) (x3 x4 x5 x6 x7 : Option D), 0 ≤ b ∧ b ≤ 2147483647 ∧ env' = [some (.val (.scr ns)), some (.val (.int k)), some (.own (.lst [.int a, .int b])), vO x3, vO x4, vO x5, vO x6, vO x7]) → R' env') :
    wSs ⟨W tx 4, tx.pos, tx.init⟩ [] [some (.val (.scr ns)), some (.val (.int k)), some (.own (.lst [.int a, .int b])), some (.val (.int t)), some (.val (.int p)), some (.val (.int d)), some (.val (.int c)), some (.val (.int (lt p d c)))] X
      ⟨fun env1 => wSs ⟨W tx 4, tx.pos, tx.init⟩ [.ite (.and (.cmp .Gt (.ref 6) (.con (.int 0))) (.cmp .Lt (.call 1 [.var 4, .var 5, .bin .Sub (.ref 6) (.con (.int 1))] [.inl 0, .inl 1, .inl 2]) (.ref 7))) [.ret (.con (.bl false))] []] env1 X ⟨R', rt, bk, ct⟩, rt, bk2, ct2⟩ := by
  refine cutN ?_
  have fin : R' [some (.val (.scr ns)), some (.val (.int k)), some (.own (.lst [.int a, .int b])), some (.val (.int t)), some (.val (.int p)), some (.val (.int d)), some (.val (.int c)), some (.val (.int (lt p d c)))] :=
    hR' _ ⟨a, b, some _, some _, some _, some _, some _, hb, hb2, rfl⟩
  walk_at "i"
  refine if_d (fun h0 => ?_) (fun h0 => ?_)
  · refine w1' ⟨hp, hp2⟩ ⟨hd, hd2⟩ ⟨by omega, by omega⟩ ?_
    walk_at "ev"
    refine if_d (fun h1 => absurd h1 (by have := lt_c (p := p) (d := d) (c := c) hp hd; omega)) (fun _ => ?_)
    exact cutN (cutN fin)
  · exact if_F (cutN (cutN fin))
theorem law_holds : ∀ ns : List Int, ns.length ≤ 63 → W tx 5 7 [.val (.scr ns)] (fun r _ => r = .val (.bl true)) (fun _ _ => False) := by
  intro ns hns
  refine w_at (fd := d7) [some (.val (.scr ns)), none, none, none, none, none, none, none] rfl rfl rfl ?_
  unfold d7 b7
  walk_at "f"
  refine ⟨⟨by split <;> (try split) <;> omega, by split <;> (try split) <;> omega⟩, ?_⟩
  refine for_inv (fun env => ∃ x1 o2 x3 x4 x5 x6 x7, env = [some (.val (.scr ns)), vO x1, oO o2, vO x3, vO x4, vO x5, vO x6, vO x7]) ⟨none, none, none, none, none, none, none, rfl⟩ ?_ ?_
  · rintro d hd env R ⟨x1, o2, x3, x4, x5, x6, x7, rfl⟩ hR
    obtain ⟨k, rfl, hk, _⟩ := rng_mem hd
    walk_at "ev"
    walk_at "s"
    refine w3 hk fun a b hb hb2 => ?_
    walk_at "ev"
    walk_at "f"
    refine ⟨by decide, ?_⟩
    refine for_inv (fun env => ∃ (a b : Int) (x3 x4 x5 x6 x7 : Option D), 0 ≤ b ∧ b ≤ 2147483647 ∧ env = [some (.val (.scr ns)), some (.val (.int k)), some (.own (.lst [.int a, .int b])), vO x3, vO x4, vO x5, vO x6, vO x7]) ⟨a, b, x3, x4, x5, x6, x7, hb, hb2, rfl⟩ ?_ ?_
    · clear hd
      rintro d hd env R' ⟨a, b, x3, x4, x5, x6, x7, hb, hb2, rfl⟩ hR'
      obtain ⟨t, rfl, _, _⟩ := rng_mem hd
      walk_at "ev"
      walk_at "s"
      refine w4 hb hb2 (by decide) (by decide) fun u a b hu hu2 hb hb2 => ?_
      walk_at "ev"
      refine w4 hb hb2 (by decide) (by decide) fun v a b hv hv2 hb hb2 => ?_
      walk_at "ev"
      refine at_int (xs := [0, 1, 100, u]) 0 100 hv (by simpa using hv2) (by simp; omega) fun p hp hp2 => ?_
      walk_at "ev"
      walk_at "s"
      refine w4 hb hb2 (by decide) (by decide) fun u a b hu hu2 hb hb2 => ?_
      walk_at "ev"
      refine w4 hb hb2 (by decide) (by decide) fun u' a b hu' hu2' hb hb2 => ?_
      walk_at "ev"
      refine w4 hb hb2 (by decide) (by decide) fun v a b hv hv2 hb hb2 => ?_
      walk_at "ev"
      refine at_int (xs := [0, 1, 200, u, u']) 0 200 hv (by simpa using hv2) (by simp; omega) fun d hd hd2 => ?_
      walk_at "ev"
      walk_at "s"
      refine w4 hb hb2 (by decide) (by decide) fun u a b hu hu2 hb hb2 => ?_
      walk_at "ev"
      refine w4 hb hb2 (by decide) (by decide) fun v a b hv hv2 hb hb2 => ?_
      walk_at "ev"
      refine at_int (xs := [0, 1, 100, u]) 0 100 hv (by simpa using hv2) (by simp; omega) fun c hc hc2 => ?_
      walk_at "ev"
      walk_at "s"
      refine w1' ⟨hp, hp2⟩ ⟨hd, hd2⟩ ⟨hc, hc2⟩ ?_
      walk_at "ev"
      walk_at "i"
      refine w5' ⟨hp, hp2⟩ ⟨hd, hd2⟩ ⟨hc, hc2⟩ ?_
      walk_at "ev"
      refine w6 (lt_sm ⟨hp, hp2⟩ hd hc) rfl ?_
      walk_at "ev"
      refine cutN ?_
      walk_at "i"
      refine w1' ⟨hp, hp2⟩ ⟨hd, hd2⟩ ⟨hc, hc2⟩ ?_
      walk_at "ev"
      refine if_n (fun h => absurd trivial h) fun _ => ?_
      refine cutN ?_
      walk_at "i"
      refine if_d (fun h0 => ?_) (fun h0 => ?_)
      · refine w1' ⟨hp, hp2⟩ ⟨by omega, by omega⟩ ⟨hc, hc2⟩ ?_
        walk_at "ev"
        refine if_d (fun h1 => absurd h1 (by have := lt_d (p := p) (d := d) (c := c) hp hc; omega)) (fun _ => ?_)
        refine w1' ⟨hp, hp2⟩ ⟨hd, hd2⟩ ⟨by decide, by decide⟩ ?_
        rw [lt_0 hp]
        walk_at "ev"
        refine if_n (fun h => absurd trivial h) fun _ => ?_
        exact rest20 hp hp2 hd hd2 hc hc2 hb hb2 hR'
      · refine w1' ⟨hp, hp2⟩ ⟨hd, hd2⟩ ⟨by decide, by decide⟩ ?_
        rw [lt_0 hp]
        walk_at "ev"
        refine if_n (fun h => absurd trivial h) fun _ => ?_
        exact rest20 hp hp2 hd hd2 hc hc2 hb hb2 hR'
    · rintro env ⟨a, b, x3, x4, x5, x6, x7, hb, hb2, rfl⟩
      exact cutN (hR _ ⟨some _, some _, x3, x4, x5, x6, x7, rfl⟩)
  · rintro env ⟨x1, o2, x3, x4, x5, x6, x7, rfl⟩
    walk_at "s"
    trivial

theorem ck0 : chkSs U N0 d0.body (defScope (top 2)) (defBody (top 2)) = true := by decide +kernel
theorem sc0 : C8.scC N0 ["points", "days", "cut"] (defScope (top 2)) = true := by decide +kernel
theorem ck1 : chkSs U N1 d1.body (defScope (top 3)) (defBody (top 3)) = true := by decide +kernel
theorem sc1 : C8.scC N1 ["points", "days", "cut"] (defScope (top 3)) = true := by decide +kernel
theorem ck2 : chkSs U N2 d2.body (defScope (top 5)) (defBody (top 5)) = true := by decide +kernel
theorem sc2 : C8.scC N2 ["_law_script", "_law_k"] (defScope (top 5)) = true := by decide +kernel
theorem ck3 : chkSs U N3 d3.body (defScope (top 6)) (defBody (top 6)) = true := by decide +kernel
theorem sc3 : C8.scC N3 ["_law_script", "_law_k"] (defScope (top 6)) = true := by decide +kernel
theorem ck4 : chkSs U N4 d4.body (defScope (top 7)) (defBody (top 7)) = true := by decide +kernel
theorem sc4 : C8.scC N4 ["_law_state_here", "_law_many"] (defScope (top 7)) = true := by decide +kernel
theorem ck5 : chkSs U N5 d5.body (defScope (top 8)) (defBody (top 8)) = true := by decide +kernel
theorem sc5 : C8.scC N5 ["_law_got", "_law_dates", "_law_loss"] (defScope (top 8)) = true := by decide +kernel
theorem ck6 : chkSs U N6 d6.body (defScope (top 9)) (defBody (top 9)) = true := by decide +kernel
theorem sc6 : C8.scC N6 ["_law_found", "_law_due"] (defScope (top 9)) = true := by decide +kernel
theorem ck7 : chkSs U N7 d7.body (defScope (top 10)) (defBody (top 10)) = true := by decide +kernel
theorem sc7 : C8.scC N7 ["_law_script"] (defScope (top 10)) = true := by decide +kernel
theorem facts {K : PySem.W.Frag} {h : Heap} {mg : Str → Option Value} {fa : Addr} (X : K.In h) (Gn : h.Ns mainGlobals mg) (hfa : mg "law" = some (.ref fa))
    {f0 : Addr} {od0 an0 : Option Addr} {sl0 : Array (Option Value)} {oc0 kV0 dc0 pm0 cd0 ct0 : Value}
    {f1 : Addr} {od1 an1 : Option Addr} {sl1 : Array (Option Value)} {oc1 kV1 dc1 pm1 cd1 ct1 : Value}
    {tk1_0 : Nat}
    {T1 : Addr} {tc1 : Value} {td1 : Option Addr} {ts1 : Array (Option Value)} {tm1 : Nat}
    {f2 : Addr} {od2 an2 : Option Addr} {sl2 : Array (Option Value)} {oc2 kV2 dc2 pm2 cd2 ct2 : Value}
    {f3 : Addr} {od3 an3 : Option Addr} {sl3 : Array (Option Value)} {oc3 kV3 dc3 pm3 cd3 ct3 : Value}
    {f4 : Addr} {od4 an4 : Option Addr} {sl4 : Array (Option Value)} {oc4 kV4 dc4 pm4 cd4 ct4 : Value}
    {f5 : Addr} {od5 an5 : Option Addr} {sl5 : Array (Option Value)} {oc5 kV5 dc5 pm5 cd5 ct5 : Value}
    {f6 : Addr} {od6 an6 : Option Addr} {sl6 : Array (Option Value)} {oc6 kV6 dc6 pm6 cd6 ct6 : Value}
    {f7 : Addr} {od7 an7 : Option Addr} {sl7 : Array (Option Value)} {oc7 kV7 dc7 pm7 cd7 ct7 : Value}
    {cc0 : Nat}
    (a0 : PySem.W.nsIn K mainGlobals "cut_by" = some (some (.ref f0)))
    (l0 : K.lookup f0 = some ⟨oc0, od0, .func (PySem.W.fnOf "cut_by" "cut_by" (defArgs (top 2)) (defBody (top 2)) (defScope (top 2)) .none kV0 dc0 pm0 an0 cd0 ct0), sl0⟩)
    (c0 : PySem.W.codeIn K cd0 "cut_by" = true)
    (k0 : PySem.W.keepIn K (.ref f0) = true)
    (a1 : PySem.W.nsIn K mainGlobals "late_points" = some (some (.ref f1)))
    (l1 : K.lookup f1 = some ⟨oc1, od1, .func (PySem.W.fnOf "late_points" "late_points" (defArgs (top 3)) (defBody (top 3)) (defScope (top 3)) (.ref T1) kV1 dc1 pm1 an1 cd1 ct1), sl1⟩)
    (c1 : PySem.W.codeIn K cd1 "late_points" = true)
    (k1 : PySem.W.keepIn K (.ref f1) = true)
    (a2 : PySem.W.nsIn K mainGlobals "_law_cell_at" = some (some (.ref f2)))
    (l2 : K.lookup f2 = some ⟨oc2, od2, .func (PySem.W.fnOf "_law_cell_at" "_law_cell_at" (defArgs (top 5)) (defBody (top 5)) (defScope (top 5)) .none kV2 dc2 pm2 an2 cd2 ct2), sl2⟩)
    (c2 : PySem.W.codeIn K cd2 "_law_cell_at" = true)
    (k2 : PySem.W.keepIn K (.ref f2) = true)
    (a3 : PySem.W.nsIn K mainGlobals "_law_state" = some (some (.ref f3)))
    (l3 : K.lookup f3 = some ⟨oc3, od3, .func (PySem.W.fnOf "_law_state" "_law_state" (defArgs (top 6)) (defBody (top 6)) (defScope (top 6)) .none kV3 dc3 pm3 an3 cd3 ct3), sl3⟩)
    (c3 : PySem.W.codeIn K cd3 "_law_state" = true)
    (k3 : PySem.W.keepIn K (.ref f3) = true)
    (a4 : PySem.W.nsIn K mainGlobals "_law_take" = some (some (.ref f4)))
    (l4 : K.lookup f4 = some ⟨oc4, od4, .func (PySem.W.fnOf "_law_take" "_law_take" (defArgs (top 7)) (defBody (top 7)) (defScope (top 7)) .none kV4 dc4 pm4 an4 cd4 ct4), sl4⟩)
    (c4 : PySem.W.codeIn K cd4 "_law_take" = true)
    (k4 : PySem.W.keepIn K (.ref f4) = true)
    (a5 : PySem.W.nsIn K mainGlobals "_law_points" = some (some (.ref f5)))
    (l5 : K.lookup f5 = some ⟨oc5, od5, .func (PySem.W.fnOf "_law_points" "_law_points" (defArgs (top 8)) (defBody (top 8)) (defScope (top 8)) .none kV5 dc5 pm5 an5 cd5 ct5), sl5⟩)
    (c5 : PySem.W.codeIn K cd5 "_law_points" = true)
    (k5 : PySem.W.keepIn K (.ref f5) = true)
    (a6 : PySem.W.nsIn K mainGlobals "_law_same" = some (some (.ref f6)))
    (l6 : K.lookup f6 = some ⟨oc6, od6, .func (PySem.W.fnOf "_law_same" "_law_same" (defArgs (top 9)) (defBody (top 9)) (defScope (top 9)) .none kV6 dc6 pm6 an6 cd6 ct6), sl6⟩)
    (c6 : PySem.W.codeIn K cd6 "_law_same" = true)
    (k6 : PySem.W.keepIn K (.ref f6) = true)
    (a7 : PySem.W.nsIn K mainGlobals "law" = some (some (.ref f7)))
    (l7 : K.lookup f7 = some ⟨oc7, od7, .func (PySem.W.fnOf "law" "law" (defArgs (top 10)) (defBody (top 10)) (defScope (top 10)) .none kV7 dc7 pm7 an7 cd7 ct7), sl7⟩)
    (c7 : PySem.W.codeIn K cd7 "law" = true)
    (k7 : PySem.W.keepIn K (.ref f7) = true)
    (z0 : PySem.W.nsIn K mainGlobals "max" = some none)
    (z1 : PySem.W.nsIn K mainGlobals "len" = some none)
    (z2 : PySem.W.nsIn K mainGlobals "repr" = some none)
    (z3 : PySem.W.nsIn K mainGlobals "range" = some none)
    (z4 : PySem.W.nsIn K mainGlobals "min" = some none)
    (cst0 : PySem.W.nsIn K mainGlobals "HUNDREDTHS" = some (some (.int 100 cc0)))
    (t1 : K.lookup T1 = some ⟨tc1, td1, .seq #[.int 0 tk1_0] tm1, ts1⟩) :
    ∃ L : Lay, L.K = K ∧ L.fn 7 = fa ∧ GR0 U L tx mg ∧ ∃ fd ps, DefAt U L tx 7 fd ps ∧ BindOk L.K fd ps 1 [] [.inl 0] := by
  obtain rfl : f7 = fa := by
    have e := hfa.symm.trans (PySem.W.mg_of X Gn a7)
    cases e
    rfl
  let L : Lay := ⟨K, fun _ => 0, fun i => [f0, f1, f2, f3, f4, f5, f6, f7].getD i 0, fun _ => [], fun _ => 0⟩
  have D0 := defAt (U := U) (L := L) (t := tx) (f := 0) N0 ["points", "days", "cut"] d0 l0 c0 rfl sc0 rfl rfl ck0
  have D1 := defAt (U := U) (L := L) (t := tx) (f := 1) N1 ["points", "days", "cut"] d1 l1 c1 rfl sc1 rfl rfl ck1
  have D2 := defAt (U := U) (L := L) (t := tx) (f := 2) N2 ["_law_script", "_law_k"] d2 l2 c2 rfl sc2 rfl rfl ck2
  have D3 := defAt (U := U) (L := L) (t := tx) (f := 3) N3 ["_law_script", "_law_k"] d3 l3 c3 rfl sc3 rfl rfl ck3
  have D4 := defAt (U := U) (L := L) (t := tx) (f := 4) N4 ["_law_state_here", "_law_many"] d4 l4 c4 rfl sc4 rfl rfl ck4
  have D5 := defAt (U := U) (L := L) (t := tx) (f := 5) N5 ["_law_got", "_law_dates", "_law_loss"] d5 l5 c5 rfl sc5 rfl rfl ck5
  have D6 := defAt (U := U) (L := L) (t := tx) (f := 6) N6 ["_law_found", "_law_due"] d6 l6 c6 rfl sc6 rfl rfl ck6
  have D7 := defAt (U := U) (L := L) (t := tx) (f := 7) N7 ["_law_script"] d7 l7 c7 rfl sc7 rfl rfl ck7
  refine ⟨L, rfl, rfl, ⟨fa_cons (PySem.W.mg_none_of X Gn z0) (fa_cons (PySem.W.mg_none_of X Gn z1) (fa_cons (PySem.W.mg_none_of X Gn z2) (fa_cons (PySem.W.mg_none_of X Gn z3) (fa_cons (PySem.W.mg_none_of X Gn z4) (fa_nil))))), fa_cons (rep_int (PySem.W.mg_of X Gn cst0)) (fa_nil), ?_⟩, _, _, D7, (bind_no (src := [0]) rfl (by decide) (fun us ws h1 h2 => match us, ws, h1, h2 with | [_], [], _, _ => rfl))⟩
  exact (all_cons ⟨PySem.W.mg_of X Gn a0, k0, _, _, D0, pats_at rfl (fa_cons (bind_no (src := [0, 1, 2]) rfl (by decide) (fun us ws h1 h2 => match us, ws, h1, h2 with | [_, _, _], [], _, _ => rfl)) (fa_nil))⟩
    (all_cons ⟨PySem.W.mg_of X Gn a1, k1, _, _, D1, pats_at rfl (fa_cons (bind_tup (src := [.inl 0, .inl 1, .inl 2]) (ds := [(.int 0)]) t1 rfl (.cons dfl_int .nil) rfl (by decide) (fun us ws h1 h2 => match us, ws, h1, h2 with | [_, _, _], [], _, _ => ⟨_, rfl, rfl⟩)) (fa_cons (bind_tup (src := [.inl 2, .inl 1, .inl 0]) (ds := [(.int 0)]) t1 rfl (.cons dfl_int .nil) rfl (by decide) (fun us ws h1 h2 => match us, ws, h1, h2 with | [], [_, _, _], _, _ => ⟨_, rfl, rfl⟩)) (fa_cons (bind_tup (src := [.inl 0, .inl 1, .inr 0]) (ds := [(.int 0)]) t1 rfl (.cons dfl_int .nil) rfl (by decide) (fun us ws h1 h2 => match us, ws, h1, h2 with | [_, _], [], _, _ => ⟨_, rfl, rfl⟩)) (fa_cons (bind_tup (src := [.inl 0, .inl 1, .inl 2]) (ds := [(.int 0)]) t1 rfl (.cons dfl_int .nil) rfl (by decide) (fun us ws h1 h2 => match us, ws, h1, h2 with | [_, _], [_], _, _ => ⟨_, rfl, rfl⟩)) (fa_nil)))))⟩
    (all_cons ⟨PySem.W.mg_of X Gn a2, k2, _, _, D2, pats_at rfl (fa_cons (bind_no (src := [0, 1]) rfl (by decide) (fun us ws h1 h2 => match us, ws, h1, h2 with | [_, _], [], _, _ => rfl)) (fa_nil))⟩
    (all_cons ⟨PySem.W.mg_of X Gn a3, k3, _, _, D3, pats_at rfl (fa_cons (bind_no (src := [0, 1]) rfl (by decide) (fun us ws h1 h2 => match us, ws, h1, h2 with | [_, _], [], _, _ => rfl)) (fa_nil))⟩
    (all_cons ⟨PySem.W.mg_of X Gn a4, k4, _, _, D4, pats_at rfl (fa_cons (bind_no (src := [0, 1]) rfl (by decide) (fun us ws h1 h2 => match us, ws, h1, h2 with | [_, _], [], _, _ => rfl)) (fa_nil))⟩
    (all_cons ⟨PySem.W.mg_of X Gn a5, k5, _, _, D5, pats_at rfl (fa_cons (bind_no (src := [0, 1, 2]) rfl (by decide) (fun us ws h1 h2 => match us, ws, h1, h2 with | [_, _, _], [], _, _ => rfl)) (fa_nil))⟩
    (all_cons ⟨PySem.W.mg_of X Gn a6, k6, _, _, D6, pats_at rfl (fa_cons (bind_no (src := [0, 1]) rfl (by decide) (fun us ws h1 h2 => match us, ws, h1, h2 with | [_, _], [], _, _ => rfl)) (fa_nil))⟩
    (all_cons ⟨PySem.W.mg_of X Gn a7, k7, _, _, D7, pats_at rfl (fa_nil)⟩
    all_nil))))))))
theorem walk {l : PySem.W.OpenLaw} {q : Program} {loose : List Str} {XP : (Str → Option Value) → Heap → Prop} {YP : World → Heap → Prop} {d : DefRec} {K : Params → PySem.W.Frag} (hn : l.most = some 63) (hdf : d.params.defaults = [])
    (hY : ∀ (w : World) (h : Heap), YP w h → (K w.params).In h)
    (F : ∀ (w : World) (mg : Str → Option Value) (fa : Addr) (h : Heap), (K w.params).In h → h.Ns mainGlobals mg → mg d.name = some (.ref fa) →
      ∃ L : Lay, L.K = K w.params ∧ L.fn 7 = fa ∧ GR0 U L tx mg ∧ ∃ fd ps, DefAt U L tx 7 fd ps ∧ BindOk L.K fd ps 1 [] [.inl 0]) :
    PySem.W.WalkO q loose XP YP l.row.toRowW d [] (fun f vs => PySem.call f vs) := walkG (x := "_law_script") hn hdf ⟨rfl, by decide, by decide⟩ hY F law_holds
end Q

open PySem PySem.W PyProof.Rows in
set_option maxRecDepth 100000 in
set_option maxHeartbeats 0 in
theorem PySem.Challenge.cw_classmarks_k20_points_that_are_late_holds : PySem.Challenge.rw_classmarks_k20_points_that_are_late.Holds := by
  w_on; o_law; k_head; (case hw => w_witness2)
  k_fill
  refine Q.walk (l := PySem.Challenge.rw_classmarks_k20_points_that_are_late) rfl rfl (fun w h Y => PySem.W.kIn_of Y) ?F
  case F =>
    intro w mg fa h KX Gn hmg
    refine' Q.facts KX Gn hmg ?a0 ?l0 ?c0 ?k0 ?a1 ?l1 ?c1 ?k1 ?a2 ?l2 ?c2 ?k2 ?a3 ?l3 ?c3 ?k3 ?a4 ?l4 ?c4 ?k4 ?a5 ?l5 ?c5 ?k5 ?a6 ?l6 ?c6 ?k6 ?a7 ?l7 ?c7 ?k7 ?z0 ?z1 ?z2 ?z3 ?z4 ?cst0 ?t1
    (case a0 => k_is)
    (case l0 => k_is)
    (case c0 => k_is)
    (case k0 => k_is)
    (case a1 => k_is)
    (case l1 => k_is)
    (case c1 => k_is)
    (case k1 => k_is)
    (case a2 => k_is)
    (case l2 => k_is)
    (case c2 => k_is)
    (case k2 => k_is)
    (case a3 => k_is)
    (case l3 => k_is)
    (case c3 => k_is)
    (case k3 => k_is)
    (case a4 => k_is)
    (case l4 => k_is)
    (case c4 => k_is)
    (case k4 => k_is)
    (case a5 => k_is)
    (case l5 => k_is)
    (case c5 => k_is)
    (case k5 => k_is)
    (case a6 => k_is)
    (case l6 => k_is)
    (case c6 => k_is)
    (case k6 => k_is)
    (case a7 => k_is)
    (case l7 => k_is)
    (case c7 => k_is)
    (case k7 => k_is)
    (case z0 => k_is)
    (case z1 => k_is)
    (case z2 => k_is)
    (case z3 => k_is)
    (case z4 => k_is)
    (case cst0 => k_is)
    (case t1 => k_is)
