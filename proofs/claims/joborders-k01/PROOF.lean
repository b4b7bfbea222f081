import PyProof.Rows.All
import Wide.All
import OpenK.AllK
import Wide.FinOn
import HandS.ForMost
import HandS.Exc
import HandS.TryOnly
import HandS.ExcOwn
import HandS.WordsExc
import HandS.Defaults
import HandS.Wide
import HandS.WideBits
import HandS.IsInst
import HandS.Style
import HandS.TupAny
import HandS.Zip
import HandS.Flow
import HandS.CallLocal
import HandS.Deep
import HandS.Head1
import HandS.HeadEnd
import HandS.HeadHook1
import HandS.HeadHook2
import KE.KStateDown
import Lean
import HandS.Head0
import HandS.Head2
import PySem.Challenge.RW_joborders_k01_fractions_of_jobs
set_option Elab.async false
set_option linter.all false
set_option maxRecDepth 100000
set_option maxHeartbeats 0
set_option exponentiation.threshold 10000
/-! VIa: pure data, the small language, its meaning. -/
namespace VI
open PySem PySem.Spec PyProof.Rows L2

/-- pure data: what a value tells, without addresses. scr: the list handed in to the law -/
inductive D where
  | non | bl (b : Bool) | int (i : Int) | str (x : Str) | ty (n : String) | fn (g : Nat)
  | lst (xs : List D) | tup (xs : List D) | scr (ns : List Int)
  deriving Inhabited

abbrev Env := List (Option D)
/-- how an expression ends -/
inductive Res (α : Type) where
  | ok (a : α) (env : Env) | exc (k : Nat) (d : D) | bad
/-- how a block ends -/
inductive SRes where
  | next (env : Env) | ret (d : D) (env : Env) | brk (env : Env) | cnt (env : Env) | exc (k : Nat) (d : D) | bad
/-- how a call ends: the value, what the lists of its own hold -/
inductive COut where
  | ret (d : D) (outs : List D) | exc (k : Nat) (d : D) | bad
abbrev CT := Nat → List D → COut

def Res.bind {α β : Type} (r : Res α) (f : α → Env → Res β) : Res β := match r with
  | .ok a env => f a env
  | .exc k d => .exc k d
  | .bad => .bad
def Res.sbind {α : Type} (r : Res α) (f : α → Env → SRes) : SRes := match r with
  | .ok a env => f a env
  | .exc k d => .exc k d
  | .bad => .bad
def lift {α : Type} (o : Option α) (env : Env) : Res α := match o with
  | some a => .ok a env
  | none => .bad
@[simp] theorem Res.bind_ok {α β : Type} (a : α) (env : Env) (f : α → Env → Res β) : (Res.ok a env).bind f = f a env := rfl
@[simp] theorem Res.bind_exc {α β : Type} (k : Nat) (d : D) (f : α → Env → Res β) : (Res.exc k d : Res α).bind f = .exc k d := rfl
@[simp] theorem Res.bind_bad {α β : Type} (f : α → Env → Res β) : (Res.bad : Res α).bind f = .bad := rfl
@[simp] theorem Res.sbind_ok {α : Type} (a : α) (env : Env) (f : α → Env → SRes) : (Res.ok a env).sbind f = f a env := rfl
@[simp] theorem Res.sbind_exc {α : Type} (k : Nat) (d : D) (f : α → Env → SRes) : (Res.exc k d : Res α).sbind f = .exc k d := rfl
@[simp] theorem Res.sbind_bad {α : Type} (f : α → Env → SRes) : (Res.bad : Res α).sbind f = .bad := rfl
@[simp] theorem lift_some {α : Type} (a : α) (env : Env) : lift (some a) env = .ok a env := rfl
@[simp] theorem lift_none {α : Type} (env : Env) : lift (none : Option α) env = .bad := rfl

/-! ### the language -/
inductive BI where
  | abs | int | max | min | len | sum | isi | list | tuple | bool
  deriving DecidableEq
/-- a target: a name, a tuple of names -/
inductive IT where
  | nm (i : Nat) | tp (is : List Nat)
  deriving DecidableEq
mutual
inductive IE where
  | var (i : Nat) | own (i : Nat) | int (z : Int) | bl (b : Bool) | non | str (s : Str) | ty (n : String) | fn (g : Nat)
  | scal (e : IE) | bin (op : Operator) (a b : IE) | neg (a : IE) | not (a : IE) | and (a b : IE) | or (a b : IE) | ife (c a b : IE)
  | cmp (op : CmpOp) (a b : IE) | chn (o1 o2 : CmpOp) (a b c : IE)
  | lst (es : IEs) | tup (es : IEs) | idx (a b : IE) | idxo (i : Nat) (b : IE) | sl (a : IE) (lo hi : IO)
  | call (g : Nat) (es : IEs) | callk (g : Nat) (perm : List Nat) (es ks : IEs) | callv (i : Nat) (es : IEs)
  | bi (b : BI) (es : IEs) | bits (a : IE) | pop (i : Nat) (es : IEs)
  | lc (vs : List Nat) (tg : IT) (it : II) (c : IO) (e : IE)
inductive IEs where
  | nil | cons (e : IE) (es : IEs)
inductive IO where
  | none | some (e : IE)
/-- what is walked -/
inductive II where
  | val (e : IE) | rng (e : IE) | rng2 (a b : IE) | enum (e : IE) | zip (a b : IE)
end
mutual
inductive IS where
  | set (t : IT) (fr : Bool) (e : IE) | par (i j : Nat) (a b : IE) | par3 (i j l : Nat) (a b c : IE) | app (i : Nat) (e : IE) | seti (i : Nat) (e1 e2 : IE) | expr (e : IE) | ret (e : IE)
  | ifs (c : IE) (a b : ISs) | whl (c : IE) (a : ISs) | for_ (t : IT) (it : II) (a : ISs) | pass | brk | cnt | frz (i : Nat) | raise (k : Nat) (e : IE) | never | retOwn (i : Nat)
inductive ISs where
  | nil | cons (s : IS) (ss : ISs)
end
instance : Inhabited IE := ⟨.non⟩
instance : Inhabited IS := ⟨.pass⟩
instance : Inhabited ISs := ⟨.nil⟩

/-! ### data -/
mutual
def toPy : D → Option PyData
  | .non => some .none
  | .bl b => some (.bool b)
  | .int i => some (.int i)
  | .str x => some (.str x)
  | .lst xs => (toPys xs).map .list
  | .tup xs => (toPys xs).map .tuple
  | .scr ns => some (.list (ns.map .int))
  | .ty _ => none
  | .fn _ => none
def toPys : List D → Option (List PyData)
  | [] => some []
  | x :: xs => match toPy x, toPys xs with
    | some d, some ds => some (d :: ds)
    | _, _ => none
end
def isL : D → Bool
  | .lst _ => true
  | _ => false
/-- a datum without objects -/
def scalar : D → Bool
  | .non => true
  | .bl _ => true
  | .int _ => true
  | .str _ => true
  | .ty _ => true
  | .fn _ => true
  | _ => false
def truD : D → Option Bool
  | .non => some false
  | .bl b => some b
  | .int i => some (i != 0)
  | .lst xs => some (!xs.isEmpty)
  | .tup xs => some (!xs.isEmpty)
  | .str x => if x.length ≤ sizeLine then some ((x.length : Int) != 0) else none
  | _ => none
def mulOk (i j : Int) : Bool := decide (i.natAbs.log2 + j.natAbs.log2 < 1000000)
def addD : D → D → Option D
  | .int i, .int j => some (.int (i + j))
  | .str x, .str y => if x.length + y.length ≤ sizeLine then some (.str (x ++ y)) else none
  | .lst x, .lst y => if x.length + y.length ≤ sizeLine then some (.lst (x ++ y)) else none
  | .tup x, .tup y => if x.length + y.length ≤ sizeLine then some (.tup (x ++ y)) else none
  | _, _ => none
def subD : D → D → Option D
  | .int i, .int j => some (.int (i - j))
  | _, _ => none
def mulD : D → D → Option D
  | .int i, .int j => if mulOk i j then some (.int (i * j)) else none
  | .lst x, .int k => if -(2 ^ 63) ≤ k ∧ k < 2 ^ 63 ∧ x.length * k.toNat ≤ sizeLine then some (.lst (List.replicate k.toNat x).flatten) else none
  | _, _ => none
def fdivD : D → D → Option D
  | .int i, .int j => if j ≠ 0 ∧ j.natAbs.log2 < 9000 then some (.int (i.fdiv j)) else none
  | _, _ => none
def modD : D → D → Option D
  | .int i, .int j => if j ≠ 0 then some (.int (i.fmod j)) else none
  | _, _ => none
def powD : D → D → Option D
  | .int i, .int j => if 0 ≤ j ∧ ((i.natAbs.log2 + 1 : Nat) : Int) * j ≤ 134217728 then some (.int (i ^ j.toNat)) else none
  | _, _ => none
def binD (op : Operator) (x y : D) : Option D := match op with
  | .Add => addD x y
  | .Sub => subD x y
  | .Mult => mulD x y
  | .FloorDiv => fdivD x y
  | .Mod => modD x y
  | .Pow => powD x y
  | _ => none
def negD : D → Option D
  | .int i => some (.int (-i))
  | _ => none
def notD : D → Option D
  | .bl b => some (.bl (!b))
  | _ => none
def eqD (x y : D) : Option Bool := match toPy x, toPy y with
  | some d, some e => if SeqAt.shaped d && SeqAt.shaped e then some (PyData.eqv d e) else none
  | _, _ => none
/-- x is y, y one of None, True, False -/
def isD : D → D → Option Bool
  | .non, .non => some true
  | .bl _, .non => some false
  | .int _, .non => some false
  | .str _, .non => some false
  | .lst _, .non => some false
  | .tup _, .non => some false
  | .fn _, .non => some false
  | .bl a, .bl b => some (a == b)
  | .non, .bl _ => some false
  | .int _, .bl _ => some false
  | .str _, .bl _ => some false
  | .lst _, .bl _ => some false
  | .tup _, .bl _ => some false
  | .fn _, .bl _ => some false
  | _, _ => none
def intsOf : List D → Option (List Int)
  | [] => some []
  | .int i :: r => (intsOf r).map (i :: ·)
  | _ => none
def ltD : D → D → Option Bool
  | .int i, .int j => some (decide (i < j))
  | .str x, .str y => some (decide (x.cps.toList < y.cps.toList))
  | .tup x, .tup y => match intsOf x, intsOf y with
    | some a, some b => some (HT.lexLt a b)
    | _, _ => none
  | _, _ => none
def leD : D → D → Option Bool
  | .int i, .int j => some (decide (i ≤ j))
  | _, _ => none
/-- y in x -/
def inD (y : D) (x : D) : Option Bool := match toPy y, toPy x with
  | some d, some (.list es) => if SeqAt.shaped d && SeqAt.shaped (.list es) then some (es.any fun z => PyData.eqv z d) else none
  | _, _ => none
def cmpD (op : CmpOp) (x y : D) : Option Bool := match op with
  | .Eq => eqD x y
  | .NotEq => (eqD x y).map (!·)
  | .Lt => ltD x y
  | .LtE => leD x y
  | .Gt => match x, y with
    | .int i, .int j => some (decide (j < i))
    | _, _ => none
  | .GtE => match x, y with
    | .int i, .int j => some (decide (j ≤ i))
    | _, _ => none
  | .Is => isD x y
  | .IsNot => (isD x y).map (!·)
  | .In => inD x y
  | .NotIn => (inD x y).map (!·)
def idxD : D → D → Option D
  | .lst xs, .int i => atI xs i
  | .tup xs, .int i => atI xs i
  | .scr ns, .int i => (atI ns i).map .int
  | .str z, .int i => if z.length ≤ sizeLine then (atI z.cps.toList i).map fun c => .str ⟨#[c]⟩ else none
  | _, _ => none
def cutL {α : Type} (xs : List α) (lo hi : Option Int) : List α := (xs.drop (HT.sIx xs.length 0 lo)).take (HT.sIx xs.length xs.length hi - HT.sIx xs.length 0 lo)
def slD (x : D) (lo hi : Option Int) : Option D := match x with
  | .lst xs => some (.lst (cutL xs lo hi))
  | .scr ns => if ns.length ≤ sizeLine then some (.lst ((cutL ns lo hi).map .int)) else none
  | .tup xs => some (.tup (cutL xs lo hi))
  | .str z => if z.length ≤ sizeLine then some (.str (cutS z lo hi)) else none
  | _ => none
def lenD : D → Option D
  | .lst xs => some (.int xs.length)
  | .tup xs => some (.int xs.length)
  | .scr ns => some (.int ns.length)
  | .str z => if z.length ≤ sizeLine then some (.int z.length) else none
  | _ => none
/-- isinstance(x, n) -/
def isiD (x : D) (n : String) : Option Bool := match x with
  | .non => kitB "NoneType" n
  | .bl _ => kitB "bool" n
  | .int _ => kitB "int" n
  | .str _ => kitB "str" n
  | .lst _ => kitB "list" n
  | .scr _ => kitB "list" n
  | .tup _ => kitB "tuple" n
  | _ => none
def tysOf : List D → Option (List String)
  | [] => some []
  | .ty n :: r => (tysOf r).map (n :: ·)
  | _ => none
def anyIsi (x : D) : List String → Option Bool
  | [] => some false
  | n :: r => match isiD x n with
    | some true => some true
    | some false => anyIsi x r
    | none => none
/-- isinstance(x, ts), ts a tuple of classes -/
def isisD (x : D) (ts : List D) : Option Bool := match tysOf ts with
  | some ns => if ns = [] then none else anyIsi x ns
  | none => none
def biD (b : BI) (xs : List D) : Option D := match b with
  | .abs => match xs with
    | [.int i] => some (.int (if i < 0 then -i else i))
    | _ => none
  | .int => match xs with
    | [.int i] => some (.int i)
    | [.bl k] => some (.int (if k then 1 else 0))
    | _ => none
  | .bool => match xs with
    | [.int i] => some (.bl (i != 0))
    | [.bl k] => some (.bl k)
    | _ => none
  | .max => match xs with
    | [.int i, .int j] => some (.int (if j > i then j else i))
    | _ => none
  | .min => match xs with
    | [.int i, .int j] => some (.int (if j < i then j else i))
    | _ => none
  | .len => match xs with
    | [x] => lenD x
    | _ => none
  | .sum => match xs with
    | [.lst ds] => (intsOf ds).map fun ns => .int ns.sum
    | [.scr ns] => some (.int ns.sum)
    | _ => none
  | .isi => match xs with
    | [x, .ty n] => (isiD x n).map .bl
    | [x, .tup ts] => (isisD x ts).map .bl
    | _ => none
  | .list => match xs with
    | [.lst ds] => some (.lst ds)
    | [.tup ds] => some (.lst ds)
    | _ => none
  | .tuple => match xs with
    | [.lst ds] => some (.tup ds)
    | [.tup ds] => some (.tup ds)
    | _ => none

/-! ### its meaning -/
def getE (env : Env) (i : Nat) : Option D := (env[i]?).bind id
def IEs.owns : IEs → List (Option Nat)
  | .nil => []
  | .cons (.own i) es => some i :: es.owns
  | .cons _ es => none :: es.owns
/-- the arguments as they stand at the call -/
def argsAt : List (Option Nat) → List D → Env → Option (List D)
  | [], [], _ => some []
  | some i :: os, _ :: ds, env => match getE env i, argsAt os ds env with
    | some d, some r => some (d :: r)
    | _, _ => none
  | none :: os, d :: ds, env => (argsAt os ds env).map (d :: ·)
  | _, _, _ => none
/-- the owned lists behind the call -/
def outsAt : List (Option Nat) → List D → Env → Option Env
  | [], [], env => some env
  | none :: os, outs, env => outsAt os outs env
  | some i :: os, d :: outs, env => outsAt os outs (env.set i (some d))
  | _, _, _ => none
def callD (C : CT) (g : Nat) (os : List (Option Nat)) (ds : List D) (env : Env) : Res D := match argsAt os ds env with
  | none => .bad
  | some args => match C g args with
    | .ret d outs => (match outsAt os outs env with
      | some env' => .ok d env'
      | none => .bad)
    | .exc k d => .exc k d
    | .bad => .bad
def permL {α : Type} (perm : List Nat) (xs : List α) : Option (List α) := perm.mapM fun i => xs[i]?
def bindT (t : IT) (d : D) (env : Env) : Option Env := match t with
  | .nm i => if i < env.length then some (env.set i (some d)) else none
  | .tp is => match d with
    | .tup ds => if ds.length = is.length ∧ is.all (· < env.length) then some ((is.zip ds).foldl (fun e p => e.set p.1 (some p.2)) env) else none
    | _ => none
def wipeE (env : Env) : List Nat → Env
  | [] => env
  | v :: vs => (wipeE env vs).set v none
/-- the slots vs of env' as in env -/
def backE (env env' : Env) : List Nat → Env
  | [] => env'
  | v :: vs => (backE env env' vs).set v (getE env v)
def itemsD : D → Option (List D)
  | .lst xs => some xs
  | .tup xs => some xs
  | .scr ns => some (ns.map .int)
  | .str x => some (x.cps.toList.map fun c => .str ⟨#[c]⟩)
  | _ => none
def rangeD (lo : Int) : Nat → List D
  | 0 => []
  | n + 1 => .int lo :: rangeD (lo + 1) n
def rngOk (i : Int) : Bool := decide (-(2 ^ 62) ≤ i) && decide (i < 2 ^ 62)
def enumD (i : Nat) : List D → List D
  | [] => []
  | x :: xs => .tup [.int i, x] :: enumD (i + 1) xs
def zipD : List D → List D → List D
  | x :: xs, y :: ys => .tup [x, y] :: zipD xs ys
  | _, _ => []
/-- the items of a comprehension, one behind another -/
def lcD (tg : IT) (vs : List Nat) (c : Env → Res Bool) (f : Env → Res D) : List D → Nat → Env → Res (List D)
  | [], _, env => .ok [] env
  | x :: xs, n, env => match bindT tg x (wipeE env vs) with
    | none => .bad
    | some env1 => (c env1).bind fun b env2 => match b with
      | false => lcD tg vs c f xs n env2
      | true => (f env2).bind fun d env3 => if n < sizeLine then (lcD tg vs c f xs (n + 1) env3).bind fun r env4 => .ok (d :: r) env4 else .bad
def exck (r : Res D) : Res D := match r with
  | .exc _ _ => .bad
  | r => r
mutual
def ev (C : CT) : IE → Env → Res D
  | .var i, env => lift (getE env i) env
  | .own i, env => lift (getE env i) env
  | .int z, env => .ok (.int z) env
  | .bl b, env => .ok (.bl b) env
  | .non, env => .ok .non env
  | .str s, env => .ok (.str s) env
  | .ty n, env => .ok (.ty n) env
  | .fn g, env => .ok (.fn g) env
  | .scal e, env => (ev C e env).bind fun d _ => if scalar d then .ok d env else .bad
  | .bin op a b, env => (ev C a env).bind fun x env1 => (ev C b env1).bind fun y env2 => lift (binD op x y) env2
  | .neg a, env => (ev C a env).bind fun x env1 => lift (negD x) env1
  | .not a, env => (ev C a env).bind fun x env1 => lift ((truD x).map fun b => .bl (!b)) env1
  | .and a b, env => (ev C a env).bind fun x env1 => match truD x with
    | some true => ev C b env1
    | some false => .ok x env1
    | none => .bad
  | .or a b, env => (ev C a env).bind fun x env1 => match truD x with
    | some true => .ok x env1
    | some false => ev C b env1
    | none => .bad
  | .ife c a b, env => (ev C c env).bind fun x env1 => match truD x with
    | some true => ev C a env1
    | some false => ev C b env1
    | none => .bad
  | .cmp op a b, env => (ev C a env).bind fun x env1 => (ev C b env1).bind fun y env2 => lift ((cmpD op x y).map .bl) env2
  | .chn o1 o2 a b c, env => (ev C a env).bind fun x env1 => (ev C b env1).bind fun y env2 => match cmpD o1 x y with
    | some true => (ev C c env2).bind fun z env3 => lift ((cmpD o2 y z).map .bl) env3
    | some false => .ok (.bl false) env2
    | none => .bad
  | .lst es, env => (evs C es env).bind fun ds env1 => if ds.length ≤ sizeLine then .ok (.lst ds) env1 else .bad
  | .tup es, env => (evs C es env).bind fun ds env1 => if ds.length ≤ sizeLine then .ok (.tup ds) env1 else .bad
  | .idx a b, env => (ev C a env).bind fun x env1 => (ev C b env1).bind fun y env2 => lift (idxD x y) env2
  | .idxo i b, env => match getE env i with
    | none => .bad
    | some _ => (ev C b env).bind fun y env1 => lift ((getE env1 i).bind fun x => idxD x y) env1
  | .sl a lo hi, env => (ev C a env).bind fun x env1 => (evo C lo env1).bind fun l env2 => (evo C hi env2).bind fun h env3 => lift (slD x l h) env3
  | .call g es, env => (evs C es env).bind fun ds env1 => callD C g es.owns ds env1
  | .callk g perm es ks, env => (evs C es env).bind fun ds env1 => (evs C ks env1).bind fun zs env2 => match permL perm (ds ++ zs), permL perm (es.owns ++ ks.owns) with
    | some ds', some os => callD C g os ds' env2
    | _, _ => .bad
  | .callv i es, env => match getE env i with
    | some (.fn g) => (evs C es env).bind fun ds env1 => callD C g es.owns ds env1
    | _ => .bad
  | .bi b es, env => (evs C es env).bind fun ds env1 => lift (biD b ds) env1
  | .bits a, env => (ev C a env).bind fun x env1 => match x with
    | .int i => .ok (.int (Builtin.Int.intBits i : Nat)) env1
    | _ => .bad
  | .pop i es, env => (evs C es env).bind fun ds env1 => match getE env1 i, ds with
    | some (.lst xs), [] => (match xs[xs.length - 1]? with
      | some d => .ok d (env1.set i (some (.lst xs.dropLast)))
      | none => .bad)
    | some (.lst xs), [.int k] => if -(2 ^ 63) ≤ k ∧ k < 2 ^ 63 then (match seqIndex? k xs.length with
      | some j => (match xs[j]? with
        | some d => .ok d (env1.set i (some (.lst (xs.eraseIdx j))))
        | none => .bad)
      | none => .bad) else .bad
    | _, _ => .bad
  | .lc vs tg it c e, env => (evi C it env).bind fun ds env1 => match lcD tg vs (evc C c) (ev C e) ds 0 env1 with
    | .ok r env2 => .ok (.lst r) (backE env1 env2 vs)
    | _ => .bad
def evs (C : CT) : IEs → Env → Res (List D)
  | .nil, env => .ok [] env
  | .cons e es, env => (ev C e env).bind fun x env1 => (evs C es env1).bind fun xs env2 => .ok (x :: xs) env2
/-- a part of a slice -/
def evo (C : CT) : IO → Env → Res (Option Int)
  | .none, env => .ok none env
  | .some e, env => (ev C e env).bind fun x env1 => match x with
    | .int i => .ok (some i) env1
    | _ => .bad
/-- a comprehension's test -/
def evc (C : CT) : IO → Env → Res Bool
  | .none, env => .ok true env
  | .some e, env => (ev C e env).bind fun x env1 => lift (truD x) env1
def evi (C : CT) : II → Env → Res (List D)
  | .val e, env => (ev C e env).bind fun x env1 => lift (itemsD x) env1
  | .rng e, env => (ev C e env).bind fun x env1 => match x with
    | .int n => if rngOk n then .ok (rangeD 0 n.toNat) env1 else .bad
    | _ => .bad
  | .rng2 a b, env => (ev C a env).bind fun x env1 => (ev C b env1).bind fun y env2 => match x, y with
    | .int i, .int j => if rngOk i && rngOk j then .ok (rangeD i (j - i).toNat) env2 else .bad
    | _, _ => .bad
  | .enum e, env => (ev C e env).bind fun x env1 => match x with
    | .lst xs => .ok (enumD 0 xs) env1
    | _ => .bad
  | .zip a b, env => (ev C a env).bind fun x env1 => (ev C b env1).bind fun y env2 => match x, y with
    | .lst xs, .lst ys => .ok (zipD xs ys) env2
    | _, _ => .bad
end
/-- an expression as a test -/
def evb (C : CT) (e : IE) (env : Env) : Res Bool := (ev C e env).bind fun x env1 => lift (truD x) env1

/-- a while loop of at most n turns -/
def whN (c : Env → Res Bool) (b : Env → SRes) : Nat → Env → Option SRes
  | 0, _ => none
  | n + 1, env => match c env with
    | .ok false env1 => some (.next env1)
    | .ok true env1 => (match b env1 with
      | .next env2 => whN c b n env2
      | .cnt env2 => whN c b n env2
      | .brk env2 => some (.next env2)
      | .ret d env2 => some (.ret d env2)
      | .exc k d => some (.exc k d)
      | .bad => some .bad)
    | .exc k d => some (.exc k d)
    | .bad => some .bad
open Classical in
noncomputable def whD (c : Env → Res Bool) (b : Env → SRes) (env : Env) : SRes :=
  if h : ∃ n r, whN c b n env = some r then (Classical.choose_spec h).choose else .bad
theorem whN_det {c : Env → Res Bool} {b : Env → SRes} : ∀ {n m : Nat} {env : Env} {r q : SRes}, whN c b n env = some r → whN c b m env = some q → r = q
  | 0, _, _, _, _, h, _ => by simp [whN] at h
  | _, 0, _, _, _, _, h => by simp [whN] at h
  | n + 1, m + 1, env, r, q, h1, h2 => by
    unfold whN at h1 h2
    split at h1 <;> rename_i hc <;> rw [hc] at h2 <;> simp only at h1 h2
    · exact Option.some.inj (h1.symm.trans h2)
    · split at h1 <;> rename_i hb <;> rw [hb] at h2 <;> simp only at h1 h2
      · exact whN_det h1 h2
      · exact whN_det h1 h2
      all_goals exact Option.some.inj (h1.symm.trans h2)
    · exact Option.some.inj (h1.symm.trans h2)
    · exact Option.some.inj (h1.symm.trans h2)
theorem whD_of {c : Env → Res Bool} {b : Env → SRes} {n : Nat} {env : Env} {r : SRes} (h : whN c b n env = some r) : whD c b env = r := by
  have e : ∃ n r, whN c b n env = some r := ⟨n, r, h⟩
  unfold whD
  rw [dif_pos e]
  exact whN_det (Classical.choose_spec e).choose_spec h
/-- one turn of a while loop -/
theorem whD_eq (c : Env → Res Bool) (b : Env → SRes) (env : Env) : whD c b env = (match c env with
    | .ok false env1 => .next env1
    | .ok true env1 => (match b env1 with
      | .next env2 => whD c b env2
      | .cnt env2 => whD c b env2
      | .brk env2 => .next env2
      | .ret d env2 => .ret d env2
      | .exc k d => .exc k d
      | .bad => .bad)
    | .exc k d => .exc k d
    | .bad => .bad) := by
  have step : ∀ (env2 : Env), (∀ n, whN c b (n + 1) env = whN c b n env2) → whD c b env = whD c b env2 := fun env2 h => by
    by_cases e : ∃ n r, whN c b n env2 = some r
    · obtain ⟨n, r, e⟩ := e
      rw [whD_of e, whD_of ((h n).trans e)]
    · have e' : ¬ ∃ n r, whN c b n env = some r := fun ⟨n, r, q⟩ => by
        cases n with
        | zero => simp [whN] at q
        | succ n => exact e ⟨n, r, (h n).symm.trans q⟩
      unfold whD
      rw [dif_neg e, dif_neg e']
  cases hc : c env with
  | ok t env1 =>
    cases t with
    | false => exact whD_of (n := 1) (by unfold whN; rw [hc])
    | true =>
      simp only
      cases hb : b env1 with
      | next env2 => exact step env2 fun n => by rw [whN]; simp only [hc, hb]
      | cnt env2 => exact step env2 fun n => by rw [whN]; simp only [hc, hb]
      | brk env2 => exact whD_of (n := 1) (by unfold whN; simp only [hc, hb])
      | ret d env2 => exact whD_of (n := 1) (by unfold whN; simp only [hc, hb])
      | exc k d => exact whD_of (n := 1) (by unfold whN; simp only [hc, hb])
      | bad => exact whD_of (n := 1) (by unfold whN; simp only [hc, hb])
  | exc k d => exact whD_of (n := 1) (by unfold whN; rw [hc])
  | bad => exact whD_of (n := 1) (by unfold whN; rw [hc])
theorem whD_bad {c : Env → Res Bool} {b : Env → SRes} {env : Env} (h : ¬ ∃ n r, whN c b n env = some r) : whD c b env = .bad := by
  unfold whD
  rw [dif_neg h]

def forD (t : IT) (b : Env → SRes) : List D → Env → SRes
  | [], env => .next env
  | x :: xs, env => match bindT t x env with
    | none => .bad
    | some env1 => (match b env1 with
      | .next env2 => forD t b xs env2
      | .cnt env2 => forD t b xs env2
      | .brk env2 => .next env2
      | r => r)
mutual
noncomputable def ex (C : CT) : IS → Env → SRes
  | .set t fr e, env => (ev C e env).sbind fun d env1 => if fr && !isL d then .bad else match bindT t d env1 with
    | some env2 => .next env2
    | none => .bad
  | .par i j a b, env => (ev C a env).sbind fun x env1 => (ev C b env1).sbind fun y env2 => if i < env2.length ∧ j < env2.length then .next ((env2.set i (some x)).set j (some y)) else .bad
  | .par3 i j l a b c, env => (ev C a env).sbind fun x env1 => (ev C b env1).sbind fun y env2 => (ev C c env2).sbind fun z env3 =>
      if i < env3.length ∧ j < env3.length ∧ l < env3.length then .next (((env3.set i (some x)).set j (some y)).set l (some z)) else .bad
  | .app i e, env => match getE env i with
    | none => .bad
    | some _ => (ev C e env).sbind fun d env1 => match getE env1 i with
      | some (.lst xs) => if xs.length < sizeLine then .next (env1.set i (some (.lst (xs ++ [d])))) else .bad
      | _ => .bad
  | .seti i e1 e2, env => (ev C e2 env).sbind fun d env1 => match getE env1 i with
    | none => .bad
    | some _ => (ev C e1 env1).sbind fun k env2 => match getE env2 i, k with
      | some (.lst xs), .int z => (match ixN xs.length z with
        | some j => .next (env2.set i (some (.lst (xs.set j d))))
        | none => .bad)
      | _, _ => .bad
  | .expr e, env => (ev C e env).sbind fun _ env1 => .next env1
  | .ret e, env => (ev C e env).sbind fun d env1 => .ret d env1
  | .ifs c a b, env => (evb C c env).sbind fun t env1 => match t with
    | true => exs C a env1
    | false => exs C b env1
  | .whl c a, env => whD (evb C c) (exs C a) env
  | .for_ t it a, env => (evi C it env).sbind fun ds env1 => forD t (exs C a) ds env1
  | .pass, env => .next env
  | .brk, env => .brk env
  | .cnt, env => .cnt env
  | .frz _, env => .next env
  | .raise k e, env => (ev C e env).sbind fun d _ => .exc k d
  | .never, _ => .bad
  | .retOwn i, env => match getE env i with
    | some d => .ret d env
    | none => .bad
noncomputable def exs (C : CT) : ISs → Env → SRes
  | .nil, env => .next env
  | .cons s ss, env => match ex C s env with
    | .next env1 => exs C ss env1
    | r => r
end
/-- a def: its name, how many parameters, how many names, which parameters are lists that it may change, whether what it gives is a list of the caller's own, its body -/
structure Fn where
  name : Str
  np : Nat
  nn : Nat
  msk : List Bool
  fr : Bool
  body : ISs
def outsOf (msk : List Bool) (env : Env) : Option (List D) := match msk, env with
  | [], _ => some []
  | true :: m, some d :: e => (outsOf m e).map (d :: ·)
  | true :: _, _ => none
  | false :: m, _ :: e => outsOf m e
  | false :: _, [] => none
/-- a call of a def over what its own calls do -/
noncomputable def runF (C : CT) (f : Fn) (args : List D) : COut :=
  if args.length = f.np then
    match exs C f.body (args.map some ++ List.replicate (f.nn - f.np) none) with
    | .ret d env => if f.fr && !isL d then .bad else (match outsOf f.msk env with
      | some outs => .ret d outs
      | none => .bad)
    | .next env => if f.fr then .bad else (match outsOf f.msk env with
      | some outs => .ret .non outs
      | none => .bad)
    | .exc k d => .exc k d
    | _ => .bad
  else .bad
/-- what the defs of a table do, k calls deep -/
noncomputable def CF (T : List Fn) : Nat → CT
  | 0 => fun _ _ => .bad
  | k + 1 => fun g args => match T[g]? with
    | some f => runF (CF T k) f args
    | none => .bad
end VI
/-! VIb: how data lie in the heap; operators, built-ins on values. -/
namespace VI
open PySem PySem.Spec PyProof.Rows L2

/-- the fixed part: the written objects, where each def stands, which defs change no argument -/
structure Wd where
  K : PySem.W.Frag
  fa : Nat → Addr
  pl : Nat → Bool
abbrev Sub (S H : Hp) : Prop := ∀ b o, S b = some o → H b = some o
theorem Sub.refl (S : Hp) : Sub S S := fun _ _ h => h
theorem Sub.trans {S T U : Hp} (a : Sub S T) (b : Sub T U) : Sub S U := fun x o h => b x o (a x o h)
theorem Sub.upd {S : Hp} {p : Addr} {o : HO} (h : S p = none) : Sub S (upd S p o) := fun b u e => by
  rw [upd_ne (ne_of_none e h)]; exact e
theorem Sub.upd2 {S H : Hp} {p : Addr} {o : HO} (h : Sub S H) : Sub (L2.upd S p o) (L2.upd H p o) := fun b u e => by
  by_cases z : b = p
  · subst z; rw [upd_same] at e ⊢; exact e
  · rw [upd_ne z] at e ⊢; exact h b u e
theorem Sub.none {S H : Hp} {p : Addr} (h : Sub S H) (n : H p = none) : S p = none := by
  cases e : S p with
  | none => rfl
  | some o => rw [h p o e] at n; cases n
theorem Sub.seq {K : PySem.W.Frag} {S H : Hp} {a : Addr} {xs : List V} (e : Sub S H) (h : SqL K S a xs) : SqL K H a xs := by
  rcases h with (h | ⟨o, h⟩) | h
  · exact .inl (.inl (e _ _ h))
  · exact .inl (.inr ⟨o, e _ _ h⟩)
  · exact .inr h

section
variable (W : Wd) (S : Hp)
mutual
def Rep : D → V → Prop
  | .non, v => v = .non
  | .bl b, v => v = .bl b
  | .int i, v => v = .int i
  | .str x, v => v = .str x
  | .ty n, v => v = .ty n
  | .fn g, v => v = .ref (W.fa g) ∧ W.pl g = true
  | .lst ds, v => ∃ a vs, v = .ref a ∧ S a = some (.lst vs) ∧ Reps ds vs
  | .tup ds, v => ∃ a vs, v = .ref a ∧ S a = some (.tup vs) ∧ Reps ds vs
  | .scr ns, v => ∃ a, v = .ref a ∧ SqL W.K S a (ns.map V.int)
def Reps : List D → List V → Prop
  | [], vs => vs = []
  | d :: ds, vs => ∃ v r, vs = v :: r ∧ Rep d v ∧ Reps ds r
end
end
section
variable {W : Wd} {S S' H : Hp}
mutual
theorem Rep.mono (h : Sub S S') : ∀ {d : D} {v : V}, Rep W S d v → Rep W S' d v
  | .non, _, r => by unfold Rep at r ⊢; exact r
  | .bl _, _, r => by unfold Rep at r ⊢; exact r
  | .int _, _, r => by unfold Rep at r ⊢; exact r
  | .str _, _, r => by unfold Rep at r ⊢; exact r
  | .ty _, _, r => by unfold Rep at r ⊢; exact r
  | .fn _, _, r => by unfold Rep at r ⊢; exact r
  | .lst ds, _, r => by
    unfold Rep at r ⊢
    obtain ⟨a, vs, e, x, q⟩ := r
    exact ⟨a, vs, e, h _ _ x, Reps.mono h q⟩
  | .tup ds, _, r => by
    unfold Rep at r ⊢
    obtain ⟨a, vs, e, x, q⟩ := r
    exact ⟨a, vs, e, h _ _ x, Reps.mono h q⟩
  | .scr ns, _, r => by
    unfold Rep at r ⊢
    obtain ⟨a, e, x⟩ := r
    exact ⟨a, e, h.seq x⟩
theorem Reps.mono (h : Sub S S') : ∀ {ds : List D} {vs : List V}, Reps W S ds vs → Reps W S' ds vs
  | [], _, r => by unfold Reps at r ⊢; exact r
  | d :: ds, _, r => by
    unfold Reps at r ⊢
    obtain ⟨v, q, e, x, y⟩ := r
    exact ⟨v, q, e, Rep.mono h x, Reps.mono h y⟩
end
theorem rep_non {v : V} : Rep W S .non v ↔ v = .non := by unfold Rep; exact Iff.rfl
theorem rep_bl {b : Bool} {v : V} : Rep W S (.bl b) v ↔ v = .bl b := by unfold Rep; exact Iff.rfl
theorem rep_int {i : Int} {v : V} : Rep W S (.int i) v ↔ v = .int i := by unfold Rep; exact Iff.rfl
theorem rep_str {i : Str} {v : V} : Rep W S (.str i) v ↔ v = .str i := by unfold Rep; exact Iff.rfl
theorem rep_ty {i : String} {v : V} : Rep W S (.ty i) v ↔ v = .ty i := by unfold Rep; exact Iff.rfl
theorem rep_fn {g : Nat} {v : V} : Rep W S (.fn g) v ↔ v = .ref (W.fa g) ∧ W.pl g = true := by unfold Rep; exact Iff.rfl
theorem rep_lst {ds : List D} {v : V} : Rep W S (.lst ds) v ↔ ∃ a vs, v = .ref a ∧ S a = some (.lst vs) ∧ Reps W S ds vs := by unfold Rep; exact Iff.rfl
theorem rep_tup {ds : List D} {v : V} : Rep W S (.tup ds) v ↔ ∃ a vs, v = .ref a ∧ S a = some (.tup vs) ∧ Reps W S ds vs := by unfold Rep; exact Iff.rfl
theorem rep_scr {ns : List Int} {v : V} : Rep W S (.scr ns) v ↔ ∃ a, v = .ref a ∧ SqL W.K S a (ns.map V.int) := by unfold Rep; exact Iff.rfl
theorem reps_nil {vs : List V} : Reps W S [] vs ↔ vs = [] := by unfold Reps; exact Iff.rfl
theorem reps_cons {d : D} {ds : List D} {vs : List V} : Reps W S (d :: ds) vs ↔ ∃ v r, vs = v :: r ∧ Rep W S d v ∧ Reps W S ds r := by
  constructor
  · intro h; unfold Reps at h; exact h
  · intro h; unfold Reps; exact h
theorem Reps.length : ∀ {ds : List D} {vs : List V}, Reps W S ds vs → ds.length = vs.length
  | [], _, r => by rw [reps_nil] at r; subst r; rfl
  | d :: ds, _, r => by
    rw [reps_cons] at r
    obtain ⟨v, q, rfl, _, y⟩ := r
    simp [y.length]
theorem Reps.append : ∀ {ds es : List D} {vs ws : List V}, Reps W S ds vs → Reps W S es ws → Reps W S (ds ++ es) (vs ++ ws)
  | [], _, _, _, r, q => by rw [reps_nil] at r; subst r; exact q
  | d :: ds, _, _, _, r, q => by
    rw [reps_cons] at r
    obtain ⟨v, z, rfl, x, y⟩ := r
    exact reps_cons.mpr ⟨v, _, rfl, x, y.append q⟩
theorem Reps.get : ∀ {ds : List D} {vs : List V} {i : Nat} {d : D}, Reps W S ds vs → ds[i]? = some d → ∃ v, vs[i]? = some v ∧ Rep W S d v
  | [], _, _, _, _, e => by simp at e
  | x :: xs, _, 0, d, r, e => by
    rw [reps_cons] at r
    obtain ⟨v, z, rfl, x, y⟩ := r
    simp at e; subst e
    exact ⟨v, by simp, x⟩
  | x :: xs, _, i + 1, d, r, e => by
    rw [reps_cons] at r
    obtain ⟨v, z, rfl, x, y⟩ := r
    obtain ⟨w, h1, h2⟩ := y.get (i := i) (by simpa using e)
    exact ⟨w, by simpa using h1, h2⟩
theorem Reps.get2 {ds : List D} {vs : List V} {i : Nat} {v : V} (r : Reps W S ds vs) (e : vs[i]? = some v) : ∃ d, ds[i]? = some d ∧ Rep W S d v := by
  have h : i < ds.length := by
    rw [r.length]
    exact (List.getElem?_eq_some_iff.mp e).1
  obtain ⟨w, h1, h2⟩ := r.get (i := i) (List.getElem?_eq_getElem h)
  rw [e] at h1; cases h1
  exact ⟨_, List.getElem?_eq_getElem h, h2⟩
theorem Reps.set : ∀ {ds : List D} {vs : List V} {d : D} {v : V} (i : Nat), Reps W S ds vs → Rep W S d v → Reps W S (ds.set i d) (vs.set i v)
  | [], _, _, _, _, r, _ => by rw [reps_nil] at r; subst r; exact reps_nil.mpr rfl
  | x :: xs, _, d, v, 0, r, q => by
    rw [reps_cons] at r
    obtain ⟨w, z, rfl, x, y⟩ := r
    exact reps_cons.mpr ⟨v, z, rfl, q, y⟩
  | x :: xs, _, d, v, i + 1, r, q => by
    rw [reps_cons] at r
    obtain ⟨w, z, rfl, x, y⟩ := r
    exact reps_cons.mpr ⟨w, _, rfl, x, y.set i q⟩
theorem Reps.drop : ∀ {ds : List D} {vs : List V} (n : Nat), Reps W S ds vs → Reps W S (ds.drop n) (vs.drop n)
  | _, _, 0, r => r
  | [], _, n + 1, r => by rw [reps_nil] at r; subst r; exact reps_nil.mpr rfl
  | x :: xs, _, n + 1, r => by
    rw [reps_cons] at r
    obtain ⟨w, z, rfl, x, y⟩ := r
    exact y.drop n
theorem Reps.take : ∀ {ds : List D} {vs : List V} (n : Nat), Reps W S ds vs → Reps W S (ds.take n) (vs.take n)
  | _, _, 0, r => reps_nil.mpr rfl
  | [], _, n + 1, r => by rw [reps_nil] at r; subst r; exact reps_nil.mpr rfl
  | x :: xs, _, n + 1, r => by
    rw [reps_cons] at r
    obtain ⟨w, z, rfl, x, y⟩ := r
    exact reps_cons.mpr ⟨w, _, rfl, x, y.take n⟩
theorem Reps.erase : ∀ {ds : List D} {vs : List V} (n : Nat), Reps W S ds vs → Reps W S (ds.eraseIdx n) (vs.eraseIdx n)
  | [], _, n, r => by rw [reps_nil] at r; subst r; exact reps_nil.mpr rfl
  | x :: xs, _, 0, r => by
    rw [reps_cons] at r
    obtain ⟨w, z, rfl, x, y⟩ := r
    exact y
  | x :: xs, _, n + 1, r => by
    rw [reps_cons] at r
    obtain ⟨w, z, rfl, x, y⟩ := r
    exact reps_cons.mpr ⟨w, _, rfl, x, y.erase n⟩
theorem Reps.dropLast {ds : List D} {vs : List V} (r : Reps W S ds vs) : Reps W S ds.dropLast vs.dropLast := by
  rw [List.dropLast_eq_take, List.dropLast_eq_take, r.length]
  exact r.take _
theorem Reps.rep {ds : List D} {vs : List V} (r : Reps W S ds vs) : ∀ n : Nat, Reps W S (List.replicate n ds).flatten (List.replicate n vs).flatten
  | 0 => reps_nil.mpr rfl
  | n + 1 => by
    rw [List.replicate_succ, List.replicate_succ, List.flatten_cons, List.flatten_cons]
    exact r.append (r.rep n)
theorem Reps.ints : ∀ {ds : List D} {vs : List V} {ns : List Int}, Reps W S ds vs → intsOf ds = some ns → vs = ns.map V.int
  | [], _, ns, r, e => by
    rw [reps_nil] at r
    unfold intsOf at e
    cases e
    exact r
  | d :: ds, vs, ns, r, e => by
    rw [reps_cons] at r
    obtain ⟨v, q, rfl, x, y⟩ := r
    cases d with
    | int i =>
      unfold intsOf at e
      cases h : intsOf ds with
      | none => rw [h] at e; cases e
      | some ms =>
        rw [h] at e; cases e
        rw [rep_int] at x
        subst x
        rw [y.ints h]
        rfl
    | _ => unfold intsOf at e; cases e
theorem reps_ints (W : Wd) (S : Hp) : ∀ ns : List Int, Reps W S (ns.map D.int) (ns.map V.int)
  | [] => reps_nil.mpr rfl
  | n :: ns => reps_cons.mpr ⟨_, _, rfl, rep_int.mpr rfl, reps_ints W S ns⟩
mutual
theorem Rep.dp : ∀ {d : D} {v : V} {p : PyData}, Rep W S d v → toPy d = some p → Dp W.K S v p
  | .non, _, _, r, e => by rw [rep_non] at r; unfold toPy at e; subst r; cases e; exact .non
  | .bl b, _, _, r, e => by rw [rep_bl] at r; unfold toPy at e; subst r; cases e; exact .bl b
  | .int b, _, _, r, e => by rw [rep_int] at r; unfold toPy at e; subst r; cases e; exact .int b
  | .str b, _, _, r, e => by rw [rep_str] at r; unfold toPy at e; subst r; cases e; exact .str b
  | .ty _, _, _, _, e => by unfold toPy at e; cases e
  | .fn _, _, _, _, e => by unfold toPy at e; cases e
  | .lst ds, _, _, r, e => by
    rw [rep_lst] at r
    obtain ⟨a, vs, rfl, x, q⟩ := r
    unfold toPy at e
    cases h : toPys ds with
    | none => rw [h] at e; cases e
    | some ps => rw [h] at e; cases e; exact .lst (SqL.of x) (Reps.dp q h)
  | .tup ds, _, _, r, e => by
    rw [rep_tup] at r
    obtain ⟨a, vs, rfl, x, q⟩ := r
    unfold toPy at e
    cases h : toPys ds with
    | none => rw [h] at e; cases e
    | some ps => rw [h] at e; cases e; exact .tup (SqT.of x) (Reps.dp q h)
  | .scr ns, _, _, r, e => by
    rw [rep_scr] at r
    obtain ⟨a, rfl, x⟩ := r
    unfold toPy at e
    cases e
    refine .lst x ?_
    clear x
    induction ns with
    | nil => exact .nil
    | cons n ns ih => exact .cons (.int n) ih
theorem Reps.dp : ∀ {ds : List D} {vs : List V} {ps : List PyData}, Reps W S ds vs → toPys ds = some ps → DpAll W.K S vs ps
  | [], _, _, r, e => by rw [reps_nil] at r; unfold toPys at e; subst r; cases e; exact .nil
  | d :: ds, _, _, r, e => by
    rw [reps_cons] at r
    obtain ⟨v, q, rfl, x, y⟩ := r
    unfold toPys at e
    cases h1 : toPy d with
    | none => rw [h1] at e; cases e
    | some p =>
      cases h2 : toPys ds with
      | none => rw [h1, h2] at e; cases e
      | some ps => rw [h1, h2] at e; cases e; exact .cons (Rep.dp x h1) (Reps.dp y h2)
end
end

/-- what an operation gives: a datum that stood, or a new object at p -/
inductive Mk (W : Wd) (S H : Hp) : D → V → Hp → Prop where
  | old {d : D} {v : V} (n : ∀ ds, d ≠ .lst ds) (r : Rep W S d v) : Mk W S H d v H
  | lst {ds : List D} {vs : List V} (p : Addr) (h : H p = none) (r : Reps W S ds vs) (z : vs.length ≤ sizeLine) : Mk W S H (.lst ds) (.ref p) (upd H p (.lst vs))
  | tup {ds : List D} {vs : List V} (p : Addr) (h : H p = none) (r : Reps W S ds vs) (z : vs.length ≤ sizeLine) : Mk W S H (.tup ds) (.ref p) (upd H p (.tup vs))

section
variable {X : Cx} {W : Wd} {S H : Hp}
theorem log2_lt {i j : Int} (h : mulOk i j = true) : CMulW i j := by
  unfold mulOk at h
  unfold CMulW
  exact of_decide_eq_true h
theorem bits_log (i : Int) : Builtin.Int.intBits i ≤ i.natAbs.log2 + 1 := by
  unfold Builtin.Int.intBits
  split <;> omega
/-- a op b of values -/
theorem bin_ok {op : Operator} {x y d : D} {a b : V} (sub : Sub S H) (hx : Rep W S x a) (hy : Rep W S y b) (h : binD op x y = some d) {Q : VK} (hQ : ∀ v H', Mk W S H d v H' → Q v H') :
    ∃ r, OpR X (binaryOp op) r ∧ r a b H Q := by
  unfold binD at h
  cases op with
  | Add =>
    simp only at h
    unfold addD at h
    split at h
    · cases h
      rw [rep_int] at hx hy
      subst hx hy
      exact ⟨_, op_add, _, _, rfl, rfl, hQ _ _ (.old (fun _ z => by cases z) (rep_int.mpr rfl))⟩
    · rw [rep_str] at hx hy
      subst hx hy
      split at h
      · rename_i hz
        cases h
        exact ⟨_, op_add_str, _, _, rfl, rfl, hz, hQ _ _ (.old (fun _ z => by cases z) (rep_str.mpr rfl))⟩
      · cases h
    · split at h
      · rename_i hz
        cases h
        rw [rep_lst] at hx hy
        obtain ⟨p, vs, rfl, e1, r1⟩ := hx
        obtain ⟨q, ws, rfl, e2, r2⟩ := hy
        have z : vs.length + ws.length ≤ sizeLine := by rw [← r1.length, ← r2.length]; exact hz
        exact ⟨_, op_cat, _, _, _, _, rfl, rfl, sub _ _ e1, sub _ _ e2, z, fun t ht => hQ _ _ (.lst t ht (r1.append r2) (by rw [List.length_append]; exact z))⟩
      · cases h
    · split at h
      · rename_i hz
        cases h
        have hx' := hx
        have hy' := hy
        rw [rep_tup] at hx hy
        obtain ⟨p, vs, rfl, e1, r1⟩ := hx
        obtain ⟨q, ws, rfl, e2, r2⟩ := hy
        have z : vs.length + ws.length ≤ sizeLine := by rw [← r1.length, ← r2.length]; exact hz
        refine ⟨_, op_catA, _, _, _, _, rfl, rfl, SqT.of (sub _ _ e1), SqT.of (sub _ _ e2), z, fun e => ?_, fun _ e => ?_, fun _ _ t ht => hQ _ _ (.tup t ht (r1.append r2) (by rw [List.length_append]; exact z))⟩
        · subst e
          have q := r1.length
          rw [List.length_nil, List.length_eq_zero_iff] at q
          subst q
          exact hQ _ _ (.old (fun _ z => by cases z) hy')
        · subst e
          have q := r2.length
          rw [List.length_nil, List.length_eq_zero_iff] at q
          subst q
          refine hQ _ _ (.old (fun _ z => by cases z) ?_)
          rw [List.append_nil]
          exact hx'
      · cases h
    · cases h
  | Sub =>
    simp only at h
    unfold subD at h
    split at h
    · cases h
      rw [rep_int] at hx hy
      subst hx hy
      exact ⟨_, op_sub, _, _, rfl, rfl, hQ _ _ (.old (fun _ z => by cases z) (rep_int.mpr rfl))⟩
    · cases h
  | Mult =>
    simp only at h
    unfold mulD at h
    split at h
    · split at h
      · rename_i hz
        cases h
        rw [rep_int] at hx hy
        subst hx hy
        exact ⟨_, op_mulW, _, _, rfl, rfl, log2_lt hz, hQ _ _ (.old (fun _ z => by cases z) (rep_int.mpr rfl))⟩
      · cases h
    · split at h
      · rename_i hz
        cases h
        rw [rep_lst] at hx
        rw [rep_int] at hy
        obtain ⟨p, vs, rfl, e1, r1⟩ := hx
        subst hy
        refine ⟨_, op_rep, _, _, _, rfl, rfl, sub _ _ e1, hz.1, hz.2.1, by rw [← r1.length]; exact hz.2.2, fun t ht => hQ _ _ (.lst t ht (r1.rep _) ?_)⟩
        rw [List.length_flatten, List.map_replicate, List.sum_replicate_nat, Nat.mul_comm, ← r1.length]
        exact hz.2.2
      · cases h
    · cases h
  | FloorDiv =>
    simp only at h
    unfold fdivD at h
    split at h
    · split at h
      · rename_i hz
        cases h
        rw [rep_int] at hx hy
        subst hx hy
        have ho : OpR X (binaryOp .FloorDiv) (rI (fun _ j => j ≠ 0 ∧ j.natAbs.log2 < 9000) fun i j => .int (i.fdiv j)) := opI fun i j _ _ _ _ _ hc q => floordiv_int hc.1 q (.inl (PyProof.noPylong_of_log2 hc.2))
        exact ⟨_, ho, _, _, rfl, rfl, hz, hQ _ _ (.old (fun _ z => by cases z) (rep_int.mpr rfl))⟩
      · cases h
    · cases h
  | Mod =>
    simp only at h
    unfold modD at h
    split at h
    · split at h
      · rename_i hz
        cases h
        rw [rep_int] at hx hy
        subst hx hy
        exact ⟨_, op_modN, _, _, rfl, rfl, hz, hQ _ _ (.old (fun _ z => by cases z) (rep_int.mpr rfl))⟩
      · cases h
    · cases h
  | Pow =>
    simp only at h
    unfold powD at h
    split at h
    · split at h
      · rename_i hz
        cases h
        rw [rep_int] at hx hy
        subst hx hy
        have ho : OpR X (binaryOp .Pow) (rI (fun i j => 0 ≤ j ∧ (Builtin.Int.intBits i : Int) * j ≤ 2 ^ 27) fun i j => .int (i ^ j.toNat)) := opI fun i j _ _ _ _ _ hc q => pow_int hc.1 hc.2 q
        refine ⟨_, ho, _, _, rfl, rfl, ⟨hz.1, ?_⟩, hQ _ _ (.old (fun _ z => by cases z) (rep_int.mpr rfl))⟩
        rename_i i j
        have e : (2 : Int) ^ 27 = 134217728 := by decide
        rw [e]
        refine Int.le_trans ?_ hz.2
        exact Int.mul_le_mul_of_nonneg_right (by have := bits_log i; omega) hz.1
      · cases h
    · cases h
  | MatMult => cases h
  | Div => cases h
  | LShift => cases h
  | RShift => cases h
  | BitOr => cases h
  | BitXor => cases h
  | BitAnd => cases h
theorem neg_ok {x d : D} {a : V} (hx : Rep W S x a) (h : negD x = some d) {Q : VK} (hQ : ∀ v H', Mk W S H d v H' → Q v H') : ∃ i, a = .int i ∧ Q (.int (-i)) H := by
  unfold negD at h
  split at h
  · cases h
    rw [rep_int] at hx
    subst hx
    exact ⟨_, rfl, hQ _ _ (.old (fun _ z => by cases z) (rep_int.mpr rfl))⟩
  · cases h
/-- a value's truth -/
theorem tru_D {K : PySem.W.Frag} {x : D} {a : V} {k : Bool} (sub : Sub S H) (hx : Rep W S x a) (h : truD x = some k) : TruV K a H k := by
  unfold truD at h
  split at h
  · cases h; rw [rep_non] at hx; subst hx; rfl
  · cases h; rw [rep_bl] at hx; subst hx; rfl
  · cases h; rw [rep_int] at hx; subst hx; rfl
  · cases h
    rw [rep_lst] at hx
    obtain ⟨p, vs, rfl, e1, r1⟩ := hx
    refine .inl ⟨vs, SqL.of (sub _ _ e1), ?_⟩
    have := r1.length
    rename_i xs
    cases xs <;> cases vs <;> first | rfl | simp at this
  · cases h
    rw [rep_tup] at hx
    obtain ⟨p, vs, rfl, e1, r1⟩ := hx
    refine .inr (.inl ⟨vs, SqT.of (sub _ _ e1), ?_⟩)
    have := r1.length
    rename_i xs
    cases xs <;> cases vs <;> first | rfl | simp at this
  · split at h
    · rename_i hz
      cases h
      rw [rep_str] at hx
      subst hx
      exact ⟨hz, rfl⟩
    · cases h
  · cases h
theorem op_isBx : OpR X (compareOp .Is) (fun x y H Q => ∃ b, y = .bl b ∧ Q (.bl (decide (x = .bl b))) H) := by
  intro pins s σ H x y v u Q I rx ry h
  obtain ⟨b, rfl, q⟩ := h
  cases (show u = Value.bool b from ry)
  cases x with
  | bl a =>
    cases (show v = Value.bool a from rx)
    by_cases e : a = b
    · subst e
      exact wpAny_is_self rfl ⟨.bl true, H, I, rfl, by simpa using q⟩
    · exact wpAny_is_other rfl (fun z => e (Value.bool.inj z)) ⟨.bl false, H, I, rfl, by simpa [e] using q⟩
  | non => cases (show v = Value.none from rx); exact wpAny_is_other rfl (fun z => by cases z) ⟨.bl false, H, I, rfl, by simpa using q⟩
  | int i => obtain ⟨t, rfl⟩ := (show ∃ t, v = Value.int i t from rx); exact wpAny_is_other rfl (fun z => by cases z) ⟨.bl false, H, I, rfl, by simpa using q⟩
  | str i => obtain ⟨t, rfl⟩ := (show ∃ t, v = Value.str i t from rx); exact wpAny_is_other rfl (fun z => by cases z) ⟨.bl false, H, I, rfl, by simpa using q⟩
  | byt i => obtain ⟨t, rfl⟩ := (show ∃ t, v = Value.bytes i t from rx); exact wpAny_is_other rfl (fun z => by cases z) ⟨.bl false, H, I, rfl, by simpa using q⟩
  | flt i => obtain ⟨t, rfl⟩ := (show ∃ t, v = Value.float i t from rx); exact wpAny_is_other rfl (fun z => by cases z) ⟨.bl false, H, I, rfl, by simpa using q⟩
  | ref i => cases (show v = Value.ref i from rx); exact wpAny_is_other rfl (fun z => by cases z) ⟨.bl false, H, I, rfl, by simpa using q⟩
  | ty i => cases (show v = Value.type i from rx); exact wpAny_is_other rfl (fun z => by cases z) ⟨.bl false, H, I, rfl, by simpa using q⟩
theorem op_notBx : OpR X (compareOp .IsNot) (fun x y H Q => ∃ b, y = .bl b ∧ Q (.bl (!decide (x = .bl b))) H) := by
  intro pins s σ H x y v u Q I rx ry h
  obtain ⟨b, rfl, q⟩ := h
  cases (show u = Value.bool b from ry)
  cases x with
  | bl a =>
    cases (show v = Value.bool a from rx)
    by_cases e : a = b
    · subst e
      exact wpAny_isNot_self rfl ⟨.bl false, H, I, rfl, by simpa using q⟩
    · exact wpAny_isNot_other rfl (fun z => e (Value.bool.inj z)) ⟨.bl true, H, I, rfl, by simpa [e] using q⟩
  | non => cases (show v = Value.none from rx); exact wpAny_isNot_other rfl (fun z => by cases z) ⟨.bl true, H, I, rfl, by simpa using q⟩
  | int i => obtain ⟨t, rfl⟩ := (show ∃ t, v = Value.int i t from rx); exact wpAny_isNot_other rfl (fun z => by cases z) ⟨.bl true, H, I, rfl, by simpa using q⟩
  | str i => obtain ⟨t, rfl⟩ := (show ∃ t, v = Value.str i t from rx); exact wpAny_isNot_other rfl (fun z => by cases z) ⟨.bl true, H, I, rfl, by simpa using q⟩
  | byt i => obtain ⟨t, rfl⟩ := (show ∃ t, v = Value.bytes i t from rx); exact wpAny_isNot_other rfl (fun z => by cases z) ⟨.bl true, H, I, rfl, by simpa using q⟩
  | flt i => obtain ⟨t, rfl⟩ := (show ∃ t, v = Value.float i t from rx); exact wpAny_isNot_other rfl (fun z => by cases z) ⟨.bl true, H, I, rfl, by simpa using q⟩
  | ref i => cases (show v = Value.ref i from rx); exact wpAny_isNot_other rfl (fun z => by cases z) ⟨.bl true, H, I, rfl, by simpa using q⟩
  | ty i => cases (show v = Value.type i from rx); exact wpAny_isNot_other rfl (fun z => by cases z) ⟨.bl true, H, I, rfl, by simpa using q⟩
/-- is, by values -/
theorem is_vals {x y : D} {a b : V} {k : Bool} (hx : Rep W S x a) (hy : Rep W S y b) (h : isD x y = some k) : (b = .non ∧ k = decide (a = .non)) ∨ ∃ c, b = .bl c ∧ k = decide (a = .bl c) := by
  unfold isD at h
  split at h <;> cases h
  all_goals first
    | rw [rep_non] at hy; subst hy
      refine .inl ⟨rfl, ?_⟩
      first
        | rw [rep_non] at hx; subst hx; rfl
        | rw [rep_bl] at hx; subst hx; rfl
        | rw [rep_int] at hx; subst hx; rfl
        | rw [rep_str] at hx; subst hx; rfl
        | (rw [rep_lst] at hx; obtain ⟨_, _, rfl, _⟩ := hx; rfl)
        | (rw [rep_tup] at hx; obtain ⟨_, _, rfl, _⟩ := hx; rfl)
        | (rw [rep_fn] at hx; obtain ⟨rfl, _⟩ := hx; rfl)
    | rw [rep_bl] at hy; subst hy
      refine .inr ⟨_, rfl, ?_⟩
      first
        | rw [rep_non] at hx; subst hx; rfl
        | (rw [rep_bl] at hx; subst hx; exact dec_bl.symm)
        | (rw [rep_int] at hx; subst hx; rfl)
        | (rw [rep_str] at hx; subst hx; rfl)
        | (rw [rep_lst] at hx; obtain ⟨_, _, rfl, _⟩ := hx; rfl)
        | (rw [rep_tup] at hx; obtain ⟨_, _, rfl, _⟩ := hx; rfl)
        | (rw [rep_fn] at hx; obtain ⟨rfl, _⟩ := hx; rfl)
theorem Dp.sub {K : PySem.W.Frag} {S H : Hp} (sub : Sub S H) : ∀ (d : PyData) (v : V), Dp K S v d → Dp K H v d := by
  have seqT : ∀ {a : Addr} {xs : List V}, SqT K S a xs → SqT K H a xs := fun {a xs} h => by
    rcases h with (h | ⟨o, h⟩) | h
    · exact .inl (.inl (sub _ _ h))
    · exact .inl (.inr ⟨o, sub _ _ h⟩)
    · exact .inr h
  have main : ∀ n : Nat, (∀ (d : PyData) (v : V), sizeOf d < n → Dp K S v d → Dp K H v d) ∧ ∀ (ds : List PyData) (vs : List V), sizeOf ds < n → DpAll K S vs ds → DpAll K H vs ds := by
    intro n
    induction n with
    | zero => exact ⟨fun _ _ h => absurd h (Nat.not_lt_zero _), fun _ _ h => absurd h (Nat.not_lt_zero _)⟩
    | succ n ih =>
      refine ⟨fun d v hn h => ?_, fun ds vs hn h => ?_⟩
      · cases h with
        | non => exact .non
        | bl b => exact .bl b
        | int i => exact .int i
        | str x => exact .str x
        | lst a q => exact .lst (sub.seq a) (ih.2 _ _ (by simp at hn; omega) q)
        | tup a q => exact .tup (seqT a) (ih.2 _ _ (by simp at hn; omega) q)
      · cases h with
        | nil => exact .nil
        | cons a q => exact .cons (ih.1 _ _ (by simp at hn; omega) a) (ih.2 _ _ (by simp at hn; omega) q)
  exact fun d v h => (main (sizeOf d + 1)).1 d v (Nat.lt_succ_self _) h
theorem op_inTD (hu : X.A.units + 65 < cLine) : OpR X (compareOp .In) (fun x y H Q => ∃ d ds, Dp X.K H x d ∧ Dp X.K H y (.tuple ds) ∧ SeqAt.shaped d = true ∧ SeqAt.shaped (.tuple ds) = true ∧ Q (.bl (ds.any fun z => PyData.eqv z d)) H) := by
  intro pins s σ H x y v u Q I rx ry h
  obtain ⟨d, ds, hd, he, sd, se, q⟩ := h
  obtain ⟨as, r1⟩ := Dp.reads I d x v hd rx
  obtain ⟨bs, r2⟩ := Dp.reads I (.tuple ds) y u he ry
  exact SeqAt.in_tuple_reads r2 r1 (SeqAt.canLay_of_shaped se) (SeqAt.canLay_of_shaped sd) (room_in_shaped sd hu) ⟨.bl _, H, I, rfl, q⟩
/-- a comparison of values -/
theorem cmp_ok {op : CmpOp} {x y : D} {a b : V} {k : Bool} (hK : W.K = X.K) (hu : X.A.units + 65 < cLine) (sub : Sub S H) (hx : Rep W S x a) (hy : Rep W S y b) (h : cmpD op x y = some k) {Q : VK} (hQ : Q (.bl k) H) :
    ∃ r, OpR X (compareOp op) r ∧ r a b H Q := by
  have hu0 : X.A.units + 64 < cLine := by omega
  have hu1 : X.A.units < cLine := by omega
  have hu2 : X.A.units + 65 < cLine := hu
  unfold cmpD at h
  have eqv : ∀ {k : Bool}, eqD x y = some k → ∃ d e, Dp X.K H a d ∧ Dp X.K H b e ∧ SeqAt.shaped d = true ∧ SeqAt.shaped e = true ∧ k = PyData.eqv d e := fun {k} h => by
    unfold eqD at h
    split at h
    · rename_i d e h1 h2
      split at h
      · rename_i hz
        cases h
        rw [Bool.and_eq_true] at hz
        rw [← hK]
        exact ⟨d, e, Dp.sub sub _ _ (hx.dp h1), Dp.sub sub _ _ (hy.dp h2), hz.1, hz.2, rfl⟩
      · cases h
    · cases h
  have inv : ∀ {k : Bool}, inD x y = some k → ∃ d ds, Dp X.K H a d ∧ Dp X.K H b (.list ds) ∧ SeqAt.shaped d = true ∧ SeqAt.shaped (.list ds) = true ∧ k = ds.any fun z => PyData.eqv z d := fun {k} h => by
    unfold inD at h
    split at h
    · rename_i d es h1 h2
      split at h
      · rename_i hz
        cases h
        rw [Bool.and_eq_true] at hz
        rw [← hK]
        exact ⟨d, es, Dp.sub sub _ _ (hx.dp h1), Dp.sub sub _ _ (hy.dp h2), hz.1, hz.2, rfl⟩
      · cases h
    · cases h
  cases op with
  | Eq =>
    obtain ⟨d, e, h1, h2, h3, h4, rfl⟩ := eqv h
    exact ⟨_, op_eqD hu0, d, e, h1, h2, h3, h4, hQ⟩
  | NotEq =>
    simp only at h
    cases hk : eqD x y with
    | none => rw [hk] at h; cases h
    | some k' =>
      rw [hk] at h
      cases h
      obtain ⟨d, e, h1, h2, h3, h4, rfl⟩ := eqv hk
      exact ⟨_, op_neD hu0, d, e, h1, h2, h3, h4, hQ⟩
  | Lt =>
    simp only at h
    unfold ltD at h
    split at h
    · cases h
      rw [rep_int] at hx hy
      subst hx hy
      exact ⟨_, op_lt, _, _, rfl, rfl, hQ⟩
    · cases h
      rw [rep_str] at hx hy
      subst hx hy
      exact ⟨_, op_lt_str, _, _, rfl, rfl, hQ⟩
    · split at h
      · rename_i h1 h2
        cases h
        rw [rep_tup] at hx hy
        obtain ⟨p, vs, rfl, e1, r1⟩ := hx
        obtain ⟨q, ws, rfl, e2, r2⟩ := hy
        have z1 := r1.ints h1
        have z2 := r2.ints h2
        subst z1 z2
        exact ⟨_, op_ltT hu1, _, _, _, _, rfl, rfl, SqT.of (sub _ _ e1), SqT.of (sub _ _ e2), hQ⟩
      · cases h
    · cases h
  | LtE =>
    simp only at h
    unfold leD at h
    split at h
    · cases h
      rw [rep_int] at hx hy
      subst hx hy
      exact ⟨_, op_le, _, _, rfl, rfl, hQ⟩
    · cases h
  | Gt =>
    simp only at h
    split at h
    · cases h
      rw [rep_int] at hx hy
      subst hx hy
      exact ⟨_, op_gt, _, _, rfl, rfl, hQ⟩
    · cases h
  | GtE =>
    simp only at h
    split at h
    · cases h
      rw [rep_int] at hx hy
      subst hx hy
      exact ⟨_, op_ge, _, _, rfl, rfl, hQ⟩
    · cases h
  | Is =>
    rcases is_vals hx hy h with ⟨rfl, rfl⟩ | ⟨c, rfl, rfl⟩
    · exact ⟨_, op_isN, rfl, hQ⟩
    · exact ⟨_, op_isBx, c, rfl, hQ⟩
  | IsNot =>
    simp only at h
    cases hk : isD x y with
    | none => rw [hk] at h; cases h
    | some k' =>
      rw [hk] at h
      cases h
      rcases is_vals hx hy hk with ⟨rfl, rfl⟩ | ⟨c, rfl, rfl⟩
      · exact ⟨_, op_notN, rfl, hQ⟩
      · exact ⟨_, op_notBx, c, rfl, hQ⟩
  | In =>
    obtain ⟨d, ds, h1, h2, h3, h4, rfl⟩ := inv h
    exact ⟨_, op_inD hu2, d, ds, h1, h2, h3, h4, hQ⟩
  | NotIn =>
    simp only at h
    cases hk : inD x y with
    | none => rw [hk] at h; cases h
    | some k' =>
      rw [hk] at h
      cases h
      obtain ⟨d, ds, h1, h2, h3, h4, rfl⟩ := inv hk
      exact ⟨_, op_notInD hu2, d, ds, h1, h2, h3, h4, hQ⟩
theorem atI_len {α β : Type} {xs : List α} {ys : List β} {i : Int} {x : α} (hl : xs.length = ys.length) (h : atI xs i = some x) : ∃ j : Nat, xs[j]? = some x ∧ ∀ y, ys[j]? = some y → atI ys i = some y := by
  unfold atI at h
  cases e : ixN xs.length i with
  | none => rw [e] at h; cases h
  | some j =>
    rw [e] at h
    refine ⟨j, h, fun y hy => ?_⟩
    unfold atI
    rw [← hl, e]
    exact hy
theorem rep_atI {ds : List D} {vs : List V} {i : Int} {d : D} (r : Reps W S ds vs) (h : atI ds i = some d) : ∃ v, atI vs i = some v ∧ Rep W S d v := by
  obtain ⟨j, e, k⟩ := atI_len (ys := vs) r.length h
  obtain ⟨v, h1, h2⟩ := r.get e
  exact ⟨v, k v h1, h2⟩
/-- x[i]: what is told stands already -/
theorem idx_ok {x y d : D} {a b : V} (hK : W.K = X.K) (sub : Sub S H) (hx : Rep W S x a) (hy : Rep W S y b) (h : idxD x y = some d) {Q : VK} (hQ : ∀ v, Rep W S d v → Q v H) : ∃ r, IxR X r ∧ r a b H Q := by
  unfold idxD at h
  split at h
  · rw [rep_lst] at hx
    rw [rep_int] at hy
    obtain ⟨p, vs, rfl, e1, r1⟩ := hx
    subst hy
    obtain ⟨v, h1, h2⟩ := rep_atI r1 h
    exact ⟨_, ix_list, p, vs, _, v, rfl, rfl, SqL.of (sub _ _ e1), h1, hQ v h2⟩
  · rw [rep_tup] at hx
    rw [rep_int] at hy
    obtain ⟨p, vs, rfl, e1, r1⟩ := hx
    subst hy
    obtain ⟨v, h1, h2⟩ := rep_atI r1 h
    exact ⟨_, ix_tup, p, vs, _, v, rfl, rfl, SqT.of (sub _ _ e1), h1, hQ v h2⟩
  · rename_i ns i
    rw [rep_scr] at hx
    rw [rep_int] at hy
    obtain ⟨p, rfl, e1⟩ := hx
    subst hy
    cases hn : atI ns i with
    | none => rw [hn] at h; cases h
    | some n =>
      rw [hn] at h
      cases h
      obtain ⟨j, e, k⟩ := atI_len (ys := ns.map V.int) (by simp) hn
      refine ⟨_, ix_list, p, _, _, .int n, rfl, rfl, by rw [← hK]; exact sub.seq e1, k _ (by rw [List.getElem?_map, e]; rfl), hQ _ (rep_int.mpr rfl)⟩
  · rename_i z i
    split at h
    · rename_i hz
      rw [rep_str] at hx
      rw [rep_int] at hy
      subst hx hy
      cases hn : atI z.cps.toList i with
      | none => rw [hn] at h; cases h
      | some c =>
        rw [hn] at h
        cases h
        exact ⟨_, ix_str, _, _, c, rfl, rfl, hz, hn, hQ _ (rep_str.mpr rfl)⟩
    · cases h
  · cases h
theorem cut_map {α β : Type} (f : α → β) (xs : List α) (lo hi : Option Int) : cutL (xs.map f) lo hi = (cutL xs lo hi).map f := by
  unfold cutL
  rw [List.length_map, List.map_take, List.map_drop]
theorem cut_len {α : Type} (xs : List α) (lo hi : Option Int) : (cutL xs lo hi).length ≤ xs.length := by
  unfold cutL
  rw [List.length_take, List.length_drop]
  omega
theorem reps_cut {ds : List D} {vs : List V} (r : Reps W S ds vs) (lo hi : Option Int) : Reps W S (cutL ds lo hi) (cutL vs lo hi) := by
  unfold cutL
  rw [r.length]
  exact (r.drop _).take _
/-- x[lo:hi] -/
theorem sl_ok {x d : D} {a : V} {lo hi : Option Int} (hK : W.K = X.K) (hz : ∀ p vs, H p = some (.lst vs) ∨ H p = some (.tup vs) → vs.length ≤ sizeLine) (sub : Sub S H) (hx : Rep W S x a) (h : slD x lo hi = some d) {Q : VK} (hQ : ∀ v H', Mk W S H d v H' → Q v H') :
    ∃ r, SlR X r ∧ r a lo hi H Q := by
  unfold slD at h
  split at h
  · cases h
    rw [rep_lst] at hx
    obtain ⟨p, vs, rfl, e1, r1⟩ := hx
    exact ⟨_, sl_list, p, vs, rfl, SqL.of (sub _ _ e1), fun t ht => hQ _ _ (.lst t ht (reps_cut r1 lo hi) (Nat.le_trans (cut_len vs lo hi) (hz p vs (.inl (sub _ _ e1)))))⟩
  · split at h
    · rename_i ns hlen
      cases h
      rw [rep_scr] at hx
      obtain ⟨p, rfl, e1⟩ := hx
      have e2 := sub.seq e1
      rw [hK] at e2
      refine ⟨_, sl_list, p, _, rfl, e2, fun t ht => ?_⟩
      have z : cutV (ns.map V.int) lo hi = (cutL ns lo hi).map V.int := cut_map V.int ns lo hi
      rw [z]
      refine hQ _ _ (.lst t ht (reps_ints W S _) ?_)
      rw [List.length_map]
      exact Nat.le_trans (cut_len ns lo hi) hlen
    · cases h
  · cases h
    have hx' := hx
    rename_i xs
    rw [rep_tup] at hx
    obtain ⟨p, vs, rfl, e1, r1⟩ := hx
    refine ⟨_, sl_tupA, p, vs, rfl, SqT.of (sub _ _ e1), fun ⟨z1, z2⟩ => ?_, fun _ t ht => hQ _ _ (.tup t ht (reps_cut r1 lo hi) (Nat.le_trans (cut_len vs lo hi) (hz p vs (.inr (sub _ _ e1)))))⟩
    refine hQ _ _ (.old (fun _ z => by cases z) ?_)
    have e : cutL xs lo hi = xs := by
      unfold cutL
      rw [r1.length, z1, z2, ← r1.length]
      simp
    rw [e]
    exact hx'
  · split at h
    · rename_i hz
      cases h
      rw [rep_str] at hx
      subst hx
      exact ⟨_, sl_str, _, rfl, hz, hQ _ _ (.old (fun _ z => by cases z) (rep_str.mpr rfl))⟩
    · cases h
  · cases h

/-! ### built-ins -/
/-- the call of a built-in, by values -/
theorem OpRid {f : Value} : CallR X f (fun _ _ _ => False) := fun _ _ _ _ _ _ _ _ _ h => h.elim
theorem ty_ok {x : D} {a : V} {n : String} {k : Bool} (hK : W.K = X.K) (sub : Sub S H) (hx : Rep W S x a) (h : isiD x n = some k) : ∃ t, TyX X.K H a t ∧ PySem.W.kitOne X.K t (.type n) = some k := by
  unfold isiD at h
  split at h
  · rw [rep_non] at hx; subst hx; exact ⟨_, .base .non, kit_ty h⟩
  · rw [rep_bl] at hx; subst hx; exact ⟨_, .base (.bl _), kit_ty h⟩
  · rw [rep_int] at hx; subst hx; exact ⟨_, .base (.int _), kit_ty h⟩
  · rw [rep_str] at hx; subst hx; exact ⟨_, .base (.str _), kit_ty h⟩
  · rw [rep_lst] at hx
    obtain ⟨p, vs, rfl, e1, r1⟩ := hx
    exact ⟨_, .base (.lst (sub _ _ e1)), kit_ty h⟩
  · rw [rep_scr] at hx
    obtain ⟨p, rfl, e1⟩ := hx
    have e2 := sub.seq e1
    rw [hK] at e2
    rcases e2 with (e | ⟨o, e⟩) | ⟨o, its, m, e, c, _⟩
    · exact ⟨_, .base (.lst e), kit_ty h⟩
    · exact ⟨_, .base (.frz e), kit_ty h⟩
    · exact ⟨_, .kList e c, kit_ty h⟩
  · rw [rep_tup] at hx
    obtain ⟨p, vs, rfl, e1, r1⟩ := hx
    exact ⟨_, .base (.tup (sub _ _ e1)), kit_ty h⟩
  · cases h
theorem ty_all {x : D} {a : V} {n : String} {k : Bool} (hK : W.K = X.K) (sub : Sub S H) (hx : Rep W S x a) (h : isiD x n = some k) : ∃ t, TyX X.K H a t ∧ ∀ m j, isiD x m = some j → PySem.W.kitOne X.K t (.type m) = some j := by
  unfold isiD at h
  split at h
  · rw [rep_non] at hx; subst hx; exact ⟨_, .base .non, fun m j q => kit_ty q⟩
  · rw [rep_bl] at hx; subst hx; exact ⟨_, .base (.bl _), fun m j q => kit_ty q⟩
  · rw [rep_int] at hx; subst hx; exact ⟨_, .base (.int _), fun m j q => kit_ty q⟩
  · rw [rep_str] at hx; subst hx; exact ⟨_, .base (.str _), fun m j q => kit_ty q⟩
  · rw [rep_lst] at hx
    obtain ⟨p, vs, rfl, e1, r1⟩ := hx
    exact ⟨_, .base (.lst (sub _ _ e1)), fun m j q => kit_ty q⟩
  · rw [rep_scr] at hx
    obtain ⟨p, rfl, e1⟩ := hx
    have e2 := sub.seq e1
    rw [hK] at e2
    rcases e2 with (e | ⟨o, e⟩) | ⟨o, its, m, e, c, _⟩
    · exact ⟨_, .base (.lst e), fun m j q => kit_ty q⟩
    · exact ⟨_, .base (.frz e), fun m j q => kit_ty q⟩
    · exact ⟨_, .kList e c, fun m j q => kit_ty q⟩
  · rw [rep_tup] at hx
    obtain ⟨p, vs, rfl, e1, r1⟩ := hx
    exact ⟨_, .base (.tup (sub _ _ e1)), fun m j q => kit_ty q⟩
  · cases h
theorem cls_all : ∀ {ts : List D} {vs : List V} {ns : List String}, Reps W S ts vs → tysOf ts = some ns → Paired ClsV vs (ns.map Value.type)
  | [], _, _, r, e => by
    rw [reps_nil] at r
    unfold tysOf at e
    subst r
    cases e
    exact .nil
  | d :: ds, _, _, r, e => by
    rw [reps_cons] at r
    obtain ⟨v, q, rfl, x, y⟩ := r
    cases d with
    | ty n =>
      unfold tysOf at e
      cases h : tysOf ds with
      | none => rw [h] at e; cases e
      | some ms =>
        rw [h] at e; cases e
        rw [rep_ty] at x
        subst x
        exact .cons (.ty n) (cls_all y h)
    | _ => unfold tysOf at e; cases e
theorem any_all {K : PySem.W.Frag} {x : D} {t : Value} (ht : ∀ m j, isiD x m = some j → PySem.W.kitOne K t (.type m) = some j) : ∀ {ns : List String} {k : Bool}, anyIsi x ns = some k → PySem.W.kitAny K t (ns.map Value.type) = some k
  | [], k, h => by
    unfold anyIsi at h
    cases h
    exact kitAny_nil
  | n :: ns, k, h => by
    unfold anyIsi at h
    split at h
    · rename_i he
      cases h
      show PySem.W.kitAny K t (Value.type n :: ns.map Value.type) = some true
      unfold PySem.W.kitAny
      rw [ht n true he]
    · rename_i he
      exact kitAny_cons (ht n false he) (fun _ => any_all ht h) (fun z => by cases z)
    · cases h
theorem len_ok {x d : D} {a : V} (hK : W.K = X.K) (sub : Sub S H) (hx : Rep W S x a) (h : lenD x = some d) : ∃ n : Nat, LenV X.K a H n ∧ d = .int n := by
  unfold lenD at h
  split at h
  · cases h
    rw [rep_lst] at hx
    obtain ⟨p, vs, rfl, e1, r1⟩ := hx
    exact ⟨vs.length, .inl ⟨vs, SqL.of (sub _ _ e1), rfl⟩, by rw [r1.length]⟩
  · cases h
    rw [rep_tup] at hx
    obtain ⟨p, vs, rfl, e1, r1⟩ := hx
    exact ⟨vs.length, .inr ⟨vs, SqT.of (sub _ _ e1), rfl⟩, by rw [r1.length]⟩
  · cases h
    rw [rep_scr] at hx
    obtain ⟨p, rfl, e1⟩ := hx
    have e2 := sub.seq e1
    rw [hK] at e2
    exact ⟨_, .inl ⟨_, e2, rfl⟩, by simp⟩
  · split at h
    · rename_i hz
      cases h
      rw [rep_str] at hx
      subst hx
      exact ⟨_, ⟨hz, rfl⟩, rfl⟩
    · cases h
  · cases h
/-- the function or class that a built-in's name stands for -/
def biV : BI → Value
  | .abs => .builtin "abs"
  | .int => .type "int"
  | .max => .builtin "max"
  | .min => .builtin "min"
  | .len => .builtin "len"
  | .sum => .builtin "sum"
  | .isi => .builtin "isinstance"
  | .list => .type "list"
  | .tuple => .type "tuple"
  | .bool => .type "bool"
theorem reps1 {d : D} {vs : List V} (r : Reps W S [d] vs) : ∃ v, vs = [v] ∧ Rep W S d v := by
  rw [reps_cons] at r
  obtain ⟨v, q, rfl, x, y⟩ := r
  rw [reps_nil] at y
  subst y
  exact ⟨v, rfl, x⟩
theorem reps2 {d e : D} {vs : List V} (r : Reps W S [d, e] vs) : ∃ v w, vs = [v, w] ∧ Rep W S d v ∧ Rep W S e w := by
  rw [reps_cons] at r
  obtain ⟨v, q, rfl, x, y⟩ := r
  obtain ⟨w, rfl, z⟩ := reps1 y
  exact ⟨v, w, rfl, x, z⟩
theorem bi_ok {b : BI} {xs : List D} {d : D} {vs : List V} (hK : W.K = X.K) (hc : X.calm = true) (hz : ∀ p vs, H p = some (.lst vs) ∨ H p = some (.tup vs) → vs.length ≤ sizeLine) (sub : Sub S H) (hx : Reps W S xs vs) (h : biD b xs = some d) {Q : VK} (hQ : ∀ v H', Mk W S H d v H' → Q v H') :
    ∃ r, CallR X (biV b) r ∧ r vs H Q := by
  have hi : ∀ {i : Int}, Mk W S H (.int i) (.int i) H := .old (fun _ z => by cases z) (rep_int.mpr rfl)
  have hb : ∀ {i : Bool}, Mk W S H (.bl i) (.bl i) H := .old (fun _ z => by cases z) (rep_bl.mpr rfl)
  unfold biD at h
  cases b <;> simp only at h
  case abs =>
    split at h
    · cases h
      obtain ⟨v, rfl, r⟩ := reps1 hx
      rw [rep_int] at r
      subst r
      exact ⟨_, call_abs, _, rfl, hQ _ _ hi⟩
    · cases h
  case int =>
    split at h
    · cases h
      obtain ⟨v, rfl, r⟩ := reps1 hx
      rw [rep_int] at r
      subst r
      exact ⟨_, call_int1, .inl ⟨_, rfl, hQ _ _ hi⟩⟩
    · cases h
      obtain ⟨v, rfl, r⟩ := reps1 hx
      rw [rep_bl] at r
      subst r
      exact ⟨_, call_int1, .inr ⟨_, rfl, hQ _ _ hi⟩⟩
    · cases h
  case bool =>
    split at h
    · cases h
      obtain ⟨v, rfl, r⟩ := reps1 hx
      rw [rep_int] at r
      subst r
      exact ⟨_, call_bool1, .inl ⟨_, rfl, hQ _ _ hb⟩⟩
    · cases h
      obtain ⟨v, rfl, r⟩ := reps1 hx
      rw [rep_bl] at r
      subst r
      exact ⟨_, call_bool1, .inr ⟨_, rfl, hQ _ _ hb⟩⟩
    · cases h
  case max =>
    split at h
    · cases h
      obtain ⟨v, w, rfl, r1, r2⟩ := reps2 hx
      rw [rep_int] at r1 r2
      subst r1 r2
      exact ⟨_, call_max2 hc, _, _, rfl, hQ _ _ hi⟩
    · cases h
  case min =>
    split at h
    · cases h
      obtain ⟨v, w, rfl, r1, r2⟩ := reps2 hx
      rw [rep_int] at r1 r2
      subst r1 r2
      exact ⟨_, call_min2 hc, _, _, rfl, hQ _ _ hi⟩
    · cases h
  case len =>
    split at h
    · obtain ⟨v, rfl, r⟩ := reps1 hx
      obtain ⟨n, q, rfl⟩ := len_ok hK sub r h
      exact ⟨_, call_len, v, n, rfl, q, hQ _ _ hi⟩
    · cases h
  case sum =>
    split at h
    · rename_i ds
      obtain ⟨v, rfl, r⟩ := reps1 hx
      rw [rep_lst] at r
      obtain ⟨p, ws, rfl, e1, r1⟩ := r
      cases hn : intsOf ds with
      | none => rw [hn] at h; cases h
      | some ns =>
        rw [hn] at h
        cases h
        have e := r1.ints hn
        subst e
        exact ⟨_, cr_sum hc, p, ns, rfl, SqL.of (sub _ _ e1), hQ _ _ hi⟩
    · cases h
      obtain ⟨v, rfl, r⟩ := reps1 hx
      rw [rep_scr] at r
      obtain ⟨p, rfl, e1⟩ := r
      have e2 := sub.seq e1
      rw [hK] at e2
      exact ⟨_, cr_sum hc, p, _, rfl, e2, hQ _ _ hi⟩
    · cases h
  case isi =>
    split at h
    · rename_i x n
      obtain ⟨v, w, rfl, r1, r2⟩ := reps2 hx
      rw [rep_ty] at r2
      subst r2
      cases hk : isiD x n with
      | none => rw [hk] at h; cases h
      | some k =>
        rw [hk] at h
        cases h
        obtain ⟨t, h1, h2⟩ := ty_ok hK sub r1 hk
        exact ⟨_, call_isi, v, _, t, _, k, rfl, .ty n, h1, h2, hQ _ _ hb⟩
    · rename_i x ts
      obtain ⟨v, w, rfl, r1, r2⟩ := reps2 hx
      rw [rep_tup] at r2
      obtain ⟨p, ws, rfl, e1, r3⟩ := r2
      cases hk : isisD x ts with
      | none => rw [hk] at h; cases h
      | some k =>
        rw [hk] at h
        cases h
        unfold isisD at hk
        split at hk
        · rename_i ns hns
          split at hk
          · cases hk
          · rename_i hne
            cases ns with
            | nil => exact absurd rfl hne
            | cons n ns =>
              have hsome : ∃ j, isiD x n = some j := by
                cases hj : isiD x n with
                | none => unfold anyIsi at hk; rw [hj] at hk; cases hk
                | some j => exact ⟨j, rfl⟩
              obtain ⟨j, hj⟩ := hsome
              obtain ⟨t, h1, h2⟩ := ty_all hK sub r1 hj
              exact ⟨_, call_isiT, v, p, ws, t, _, k, rfl, sub _ _ e1, cls_all r3 hns, h1, any_all h2 hk, hQ _ _ hb⟩
        · cases hk
    · cases h
  case list =>
    split at h
    · cases h
      obtain ⟨v, rfl, r⟩ := reps1 hx
      rw [rep_lst] at r
      obtain ⟨p, ws, rfl, e1, r1⟩ := r
      exact ⟨_, call_list_of, p, ws, rfl, .inl (SqL.of (sub _ _ e1)), fun t ht => hQ _ _ (.lst t ht r1 (hz p ws (.inl (sub _ _ e1))))⟩
    · cases h
      obtain ⟨v, rfl, r⟩ := reps1 hx
      rw [rep_tup] at r
      obtain ⟨p, ws, rfl, e1, r1⟩ := r
      exact ⟨_, call_list_of, p, ws, rfl, .inr (SqT.of (sub _ _ e1)), fun t ht => hQ _ _ (.lst t ht r1 (hz p ws (.inr (sub _ _ e1))))⟩
    · cases h
  case tuple =>
    split at h
    · cases h
      obtain ⟨v, rfl, r⟩ := reps1 hx
      rw [rep_lst] at r
      obtain ⟨p, ws, rfl, e1, r1⟩ := r
      exact ⟨_, call_tuple_of, p, ws, rfl, .inl ⟨SqL.of (sub _ _ e1), fun t ht => hQ _ _ (.tup t ht r1 (hz p ws (.inl (sub _ _ e1))))⟩⟩
    · cases h
      obtain ⟨v, rfl, r⟩ := reps1 hx
      have r' := r
      rw [rep_tup] at r
      obtain ⟨p, ws, rfl, e1, r1⟩ := r
      exact ⟨_, call_tuple_of, p, ws, rfl, .inr ⟨SqT.of (sub _ _ e1), hQ _ _ (.old (fun _ z => by cases z) r')⟩⟩
    · cases h
end
end VI
/-! VIc: the state of a body, and what keeps it. -/
namespace VI
open PySem PySem.Spec PyProof.Rows L2

/-- sizes of what is tracked -/
def SzO : HO → Prop
  | .lst xs => xs.length ≤ sizeLine
  | .tup xs => xs.length ≤ sizeLine
  | _ => True
def SzH (H : Hp) : Prop := ∀ a o, H a = some o → SzO o
theorem SzH.upd {H : Hp} {p : Addr} {o : HO} (h : SzH H) (z : SzO o) : SzH (L2.upd H p o) := fun a u e => by
  by_cases q : a = p
  · subst q; rw [upd_same] at e; cases e; exact z
  · rw [upd_ne q] at e; exact h a u e
theorem SzH.two {H : Hp} (h : SzH H) : ∀ p vs, H p = some (.lst vs) ∨ H p = some (.tup vs) → vs.length ≤ sizeLine := fun p vs e => by
  rcases e with e | e
  · exact h _ _ e
  · exact h _ _ e

/-- where a body runs: own: the slots whose lists are of its own; S0, H0: what was shared, what stood at the entry; P: the parameters that it may change, with their lists -/
structure Stt where
  W : Wd
  own : List Nat
  S0 : Hp
  H0 : Hp
  P : List (Nat × Addr)
def OwnV (Z : Stt) (S H : Hp) (d : D) (v : V) : Prop := ∃ a ds vs, d = .lst ds ∧ v = .ref a ∧ H a = some (.lst vs) ∧ S a = none ∧ Reps Z.W S ds vs ∧ (Z.H0 a = none ∨ ∃ p ∈ Z.P, p.2 = a)
/-- a new list that nobody else holds -/
def FreshV (Z : Stt) (σ : L2.St) (S H : Hp) (env : Env) (d : D) (v : V) : Prop := ∃ p ds vs, d = .lst ds ∧ v = .ref p ∧ H p = some (.lst vs) ∧ S p = none ∧ Reps Z.W S ds vs ∧ Z.H0 p = none ∧
  ∀ i, i ∈ Z.own → getE env i ≠ none → σ[i]? ≠ some (some (.ref p))
structure Rel (Z : Stt) (σ : L2.St) (S H : Hp) (env : Env) : Prop where
  sub : Sub S H
  s0 : Sub Z.S0 S
  fr : ∀ b o, Z.H0 b = some o → (∀ p ∈ Z.P, p.2 ≠ b) → H b = some o
  gr : ∀ b o, Z.H0 b = some o → S b = Z.S0 b
  sl : ∀ i d, getE env i = some d → ∃ v, σ[i]? = some (some v) ∧ ((i ∈ Z.own → OwnV Z S H d v) ∧ (i ∉ Z.own → Rep Z.W S d v))
  dj : ∀ i j a, i ∈ Z.own → j ∈ Z.own → getE env i ≠ none → getE env j ≠ none → σ[i]? = some (some (.ref a)) → σ[j]? = some (some (.ref a)) → i = j
  pa : ∀ p ∈ Z.P, p.1 ∈ Z.own ∧ σ[p.1]? = some (some (.ref p.2)) ∧ getE env p.1 ≠ none
  ln : σ.length = env.length
  sz : SzH H

section
variable {Z : Stt} {σ : L2.St} {S S' H H' : Hp} {env : Env}
/-- an owned slot's list -/
theorem Rel.owned (R : Rel Z σ S H env) {i : Nat} {d : D} (ho : i ∈ Z.own) (e : getE env i = some d) : ∃ a ds vs, d = .lst ds ∧ σ[i]? = some (some (.ref a)) ∧ H a = some (.lst vs) ∧ S a = none ∧ Reps Z.W S ds vs ∧ (Z.H0 a = none ∨ ∃ p ∈ Z.P, p.2 = a) := by
  obtain ⟨v, h1, h2, _⟩ := R.sl i d e
  obtain ⟨a, ds, vs, rfl, rfl, r⟩ := h2 ho
  exact ⟨a, ds, vs, rfl, h1, r⟩
theorem Rel.ownSome (R : Rel Z σ S H env) {i : Nat} {a : Addr} (ho : i ∈ Z.own) (e : getE env i ≠ none) (h : σ[i]? = some (some (.ref a))) : (∃ vs, H a = some (.lst vs)) ∧ S a = none ∧ (Z.H0 a = none ∨ ∃ p ∈ Z.P, p.2 = a) := by
  cases q : getE env i with
  | none => exact absurd q e
  | some d =>
    obtain ⟨b, ds, vs, _, h1, h2, h3, _, h4⟩ := R.owned ho q
    rw [h] at h1; cases h1
    exact ⟨⟨vs, h2⟩, h3, h4⟩
/-- a heap that holds more, a shared part that holds more, the owned lists as they were -/
theorem Rel.up (R : Rel Z σ S H env) (h1 : Sub S S') (h2 : Sub S' H') (h3 : ∀ b o, H b = some o → H' b = some o) (h4 : ∀ b o, H b = some o → S' b = S b) (h5 : SzH H') : Rel Z σ S' H' env where
  sub := h2
  s0 := R.s0.trans h1
  fr := fun b o e p => h3 b o (R.fr b o e p)
  gr := fun b o e => by
    by_cases q : ∀ p ∈ Z.P, p.2 ≠ b
    · rw [h4 b o (R.fr b o e q)]; exact R.gr b o e
    · obtain ⟨p, hp, rfl⟩ : ∃ p ∈ Z.P, p.2 = b := by
        refine Classical.byContradiction fun z => q fun p hp e => z ⟨p, hp, e⟩
      obtain ⟨a1, a2, a3⟩ := R.pa p hp
      obtain ⟨⟨vs, e1⟩, _⟩ := R.ownSome a1 a3 a2
      rw [h4 _ _ e1]; exact R.gr _ o e
  sl := fun i d e => by
    obtain ⟨v, e1, e2, e3⟩ := R.sl i d e
    refine ⟨v, e1, fun z => ?_, fun z => (e3 z).mono h1⟩
    obtain ⟨a, ds, vs, x1, x2, x3, x4, x5, x6⟩ := e2 z
    exact ⟨a, ds, vs, x1, x2, h3 _ _ x3, by rw [h4 _ _ x3]; exact x4, x5.mono h1, x6⟩
  dj := R.dj
  pa := R.pa
  ln := R.ln
  sz := h5
/-- a new object -/
theorem Rel.new (R : Rel Z σ S H env) {p : Addr} {o : HO} (h : H p = none) (z : SzO o) : Rel Z σ S (upd H p o) env :=
  R.up (Sub.refl S) (R.sub.trans (Sub.upd h)) (Sub.upd h) (fun _ _ _ => rfl) (R.sz.upd z)
/-- .. that is shared -/
theorem Rel.both (R : Rel Z σ S H env) {p : Addr} {o : HO} (h : H p = none) (z : SzO o) : Rel Z σ (upd S p o) (upd H p o) env :=
  R.up (Sub.upd (R.sub.none h)) R.sub.upd2 (Sub.upd h) (fun b u e => upd_ne (ne_of_none e h)) (R.sz.upd z)
/-- a new list becomes a shared one -/
theorem Rel.give (R : Rel Z σ S H env) {d : D} {v : V} (f : FreshV Z σ S H env d v) : ∃ S', Sub S S' ∧ Rel Z σ S' H env ∧ Rep Z.W S' d v := by
  obtain ⟨p, ds, vs, rfl, rfl, e1, e2, r, e3, e4⟩ := f
  have hs : Sub S (upd S p (.lst vs)) := Sub.upd e2
  refine ⟨upd S p (.lst vs), hs, ⟨fun b o e => ?_, R.s0.trans hs, R.fr, fun b o e => ?_, fun i d e => ?_, R.dj, R.pa, R.ln, R.sz⟩, rep_lst.mpr ⟨p, vs, rfl, upd_same, r.mono hs⟩⟩
  · by_cases z : b = p
    · subst z; rw [upd_same] at e; rw [← e]; exact e1
    · rw [upd_ne z] at e; exact R.sub b o e
  · rw [upd_ne (ne_of_none e e3)]; exact R.gr b o e
  · obtain ⟨v, x1, x2, x3⟩ := R.sl i d e
    refine ⟨v, x1, fun z => ?_, fun z => (x3 z).mono hs⟩
    obtain ⟨a, ds', vs', rfl, rfl, y3, y4, y5, y6⟩ := x2 z
    have ne : a ≠ p := fun q => by
      subst q
      exact e4 i z (by rw [e]; exact fun q => by cases q) x1
    exact ⟨a, ds', vs', rfl, rfl, y3, by rw [upd_ne ne]; exact y4, y5.mono hs, y6⟩
theorem getE_set {env : Env} {i j : Nat} {d : D} : getE (env.set i (some d)) j = if i = j ∧ i < env.length then some d else getE env j := by
  unfold getE
  by_cases h : i = j
  · subst h
    by_cases hl : i < env.length
    · rw [List.getElem?_set_self hl, if_pos ⟨rfl, hl⟩]; rfl
    · rw [if_neg (fun z => hl z.2), List.getElem?_eq_none (by simpa using hl), List.getElem?_eq_none (by simpa using hl)]
  · rw [List.getElem?_set_ne h, if_neg (fun z => h z.1)]
theorem getE_setN {env : Env} {i j : Nat} : getE (env.set i none) j = if i = j then none else getE env j := by
  unfold getE
  by_cases h : i = j
  · subst h
    rw [if_pos rfl]
    by_cases hl : i < env.length
    · rw [List.getElem?_set_self hl]; rfl
    · rw [List.getElem?_eq_none (by simpa using hl)]; rfl
  · rw [List.getElem?_set_ne h, if_neg h]
theorem getE_lt {env : Env} {i : Nat} {d : D} (h : getE env i = some d) : i < env.length := by
  unfold getE at h
  cases e : env[i]? with
  | none => rw [e] at h; cases h
  | some o => exact (List.getElem?_eq_some_iff.mp e).1
theorem getE_lt' {env : Env} {i : Nat} (h : getE env i ≠ none) : i < env.length := by
  cases e : getE env i with
  | none => exact absurd e h
  | some d => exact getE_lt e
/-- an owned list is changed -/
theorem Rel.mut (R : Rel Z σ S H env) {i : Nat} {a : Addr} {ds : List D} {vs : List V} (ho : i ∈ Z.own) (hd : getE env i ≠ none) (hs : σ[i]? = some (some (.ref a))) (r : Reps Z.W S ds vs) (hz : vs.length ≤ sizeLine) :
    Rel Z σ S (upd H a (.lst vs)) (env.set i (some (.lst ds))) := by
  have hl := getE_lt' hd
  obtain ⟨⟨ws, e1⟩, e2, e3⟩ := R.ownSome ho hd hs
  refine ⟨fun b o e => ?_, R.s0, fun b o e p => ?_, R.gr, fun j d e => ?_, fun j k b hj hk e4 e5 => ?_, fun p hp => ?_, by rw [List.length_set]; exact R.ln, R.sz.upd hz⟩
  · rw [upd_ne (ne_of_none e e2)]; exact R.sub b o e
  · have ne : b ≠ a := by
      rintro rfl
      rcases e3 with z | ⟨q, hq, z⟩
      · rw [z] at e; cases e
      · exact p q hq z
    rw [upd_ne ne]; exact R.fr b o e p
  · rw [getE_set] at e
    split at e
    · rename_i hj
      obtain ⟨rfl, _⟩ := hj
      cases e
      exact ⟨_, hs, fun _ => ⟨a, ds, vs, rfl, rfl, upd_same, e2, r, e3⟩, fun z => absurd ho z⟩
    · rename_i hj
      obtain ⟨v, x1, x2, x3⟩ := R.sl j d e
      refine ⟨v, x1, fun z => ?_, x3⟩
      obtain ⟨b, ds', vs', rfl, rfl, y3, y4, y5, y6⟩ := x2 z
      have ne : b ≠ a := by
        rintro rfl
        exact hj ⟨R.dj i j _ ho z hd (by rw [e]; exact fun q => by cases q) hs x1, hl⟩
      exact ⟨b, ds', vs', rfl, rfl, by rw [upd_ne ne]; exact y3, y4, y5, y6⟩
  · have key : ∀ j, getE (env.set i (some (.lst ds))) j ≠ none → getE env j ≠ none := fun j q => by
      rw [getE_set] at q
      split at q
      · rename_i z; rw [← z.1]; exact hd
      · exact q
    exact R.dj j k b hj hk (key j e4) (key k e5)
  · obtain ⟨x1, x2, x3⟩ := R.pa p hp
    refine ⟨x1, x2, ?_⟩
    rw [getE_set]
    split
    · exact fun q => by cases q
    · exact x3
/-- an owned list is shared from now on -/
theorem Rel.frz (R : Rel Z σ S H env) {i : Nat} (hp : ∀ p ∈ Z.P, p.1 ≠ i) : ∃ S', Sub S S' ∧ Rel { Z with own := Z.own.filter (· ≠ i) } σ S' H env := by
  have mem : ∀ {j}, j ∈ Z.own.filter (· ≠ i) ↔ j ∈ Z.own ∧ j ≠ i := fun {j} => by simp
  by_cases ho : i ∈ Z.own ∧ getE env i ≠ none
  · obtain ⟨ho, hd⟩ := ho
    cases q : getE env i with
    | none => exact absurd q hd
    | some d =>
      obtain ⟨a, ds, vs, rfl, hs, e1, e2, r, e3⟩ := R.owned ho q
      have h0 : Z.H0 a = none := by
        rcases e3 with z | ⟨p, hpp, rfl⟩
        · exact z
        · obtain ⟨y1, y2, y3⟩ := R.pa p hpp
          exact absurd (R.dj p.1 i p.2 y1 ho y3 hd y2 hs) (hp p hpp)
      have hsub : Sub S (upd S a (.lst vs)) := Sub.upd e2
      refine ⟨upd S a (.lst vs), hsub, ⟨fun b o e => ?_, R.s0.trans hsub, R.fr, fun b o e => ?_, fun j d e => ?_, fun j k b hj hk => ?_, fun p hpp => ?_, R.ln, R.sz⟩⟩
      · by_cases z : b = a
        · subst z; rw [upd_same] at e; rw [← e]; exact e1
        · rw [upd_ne z] at e; exact R.sub b o e
      · rw [upd_ne (ne_of_none e h0)]; exact R.gr b o e
      · obtain ⟨v, x1, x2, x3⟩ := R.sl j d e
        refine ⟨v, x1, fun z => ?_, fun z => ?_⟩
        · obtain ⟨z1, z2⟩ := mem.mp z
          obtain ⟨b, ds', vs', rfl, rfl, y3, y4, y5, y6⟩ := x2 z1
          have ne : b ≠ a := by
            rintro rfl
            exact z2 (R.dj j i _ z1 ho (by rw [e]; exact fun q => by cases q) hd x1 hs)
          exact ⟨b, ds', vs', rfl, rfl, y3, by rw [upd_ne ne]; exact y4, y5.mono hsub, y6⟩
        · by_cases hj : j ∈ Z.own
          · have hji : j = i := Classical.byContradiction fun w => z (mem.mpr ⟨hj, w⟩)
            subst hji
            rw [q] at e; cases e
            rw [hs] at x1; cases x1
            exact rep_lst.mpr ⟨a, vs, rfl, upd_same, r.mono hsub⟩
          · exact (x3 hj).mono hsub
      · exact R.dj j k b (mem.mp hj).1 (mem.mp hk).1
      · obtain ⟨x1, x2, x3⟩ := R.pa p hpp
        exact ⟨mem.mpr ⟨x1, hp p hpp⟩, x2, x3⟩
  · refine ⟨S, Sub.refl S, ⟨R.sub, R.s0, R.fr, R.gr, fun j d e => ?_, fun j k b hj hk => R.dj j k b (mem.mp hj).1 (mem.mp hk).1, fun p hpp => ?_, R.ln, R.sz⟩⟩
    · obtain ⟨v, x1, x2, x3⟩ := R.sl j d e
      refine ⟨v, x1, fun z => ?_, fun z => x3 fun w => ?_⟩
      · exact x2 (mem.mp z).1
      · refine z (mem.mpr ⟨w, ?_⟩)
        rintro rfl
        exact ho ⟨w, by rw [e]; exact fun q => by cases q⟩
    · obtain ⟨x1, x2, x3⟩ := R.pa p hpp
      exact ⟨mem.mpr ⟨x1, hp p hpp⟩, x2, x3⟩
/-- a slot is stored: a shared datum -/
theorem Rel.store (R : Rel Z σ S H env) {i : Nat} {d : D} {v : V} (hl : i < env.length) (hp : ∀ p ∈ Z.P, p.1 ≠ i) (r : Rep Z.W S d v) :
    Rel { Z with own := Z.own.filter (· ≠ i) } (σ.set i (some v)) S H (env.set i (some d)) := by
  have mem : ∀ {j}, j ∈ Z.own.filter (· ≠ i) ↔ j ∈ Z.own ∧ j ≠ i := fun {j} => by simp
  have hσ : i < σ.length := by rw [R.ln]; exact hl
  refine ⟨R.sub, R.s0, R.fr, R.gr, fun j e he => ?_, fun j k b hj hk e4 e5 e6 e7 => ?_, fun p hpp => ?_, by rw [List.length_set, List.length_set]; exact R.ln, R.sz⟩
  · rw [getE_set] at he
    split at he
    · rename_i hj
      obtain ⟨rfl, _⟩ := hj
      cases he
      exact ⟨v, List.getElem?_set_self hσ, fun z => absurd rfl (mem.mp z).2, fun _ => r⟩
    · rename_i hj
      have ne : i ≠ j := fun z => hj ⟨z, hl⟩
      obtain ⟨w, x1, x2, x3⟩ := R.sl j e he
      exact ⟨w, by rw [List.getElem?_set_ne ne]; exact x1, fun z => x2 (mem.mp z).1, fun z => x3 fun w => z (mem.mpr ⟨w, ne.symm⟩)⟩
  · obtain ⟨j1, j2⟩ := mem.mp hj
    obtain ⟨k1, k2⟩ := mem.mp hk
    rw [List.getElem?_set_ne j2.symm] at e6
    rw [List.getElem?_set_ne k2.symm] at e7
    rw [getE_set, if_neg (fun z => j2 z.1.symm)] at e4
    rw [getE_set, if_neg (fun z => k2 z.1.symm)] at e5
    exact R.dj j k b j1 k1 e4 e5 e6 e7
  · obtain ⟨x1, x2, x3⟩ := R.pa p hpp
    have ne := hp p hpp
    refine ⟨mem.mpr ⟨x1, ne⟩, by rw [List.getElem?_set_ne ne.symm]; exact x2, ?_⟩
    rw [getE_set, if_neg (fun z => ne z.1.symm)]
    exact x3
/-- a slot is stored: a new list of its own -/
theorem Rel.storeOwn (R : Rel Z σ S H env) {i : Nat} {d : D} {v : V} (hl : i < env.length) (hp : ∀ p ∈ Z.P, p.1 ≠ i) (f : FreshV Z σ S H env d v) :
    Rel { Z with own := i :: Z.own } (σ.set i (some v)) S H (env.set i (some d)) := by
  obtain ⟨p, ds, vs, rfl, rfl, f1, f2, fr, f3, f4⟩ := f
  have hσ : i < σ.length := by rw [R.ln]; exact hl
  refine ⟨R.sub, R.s0, R.fr, R.gr, fun j e he => ?_, fun j k b hj hk e4 e5 e6 e7 => ?_, fun q hpp => ?_, by rw [List.length_set, List.length_set]; exact R.ln, R.sz⟩
  · rw [getE_set] at he
    split at he
    · rename_i hj
      obtain ⟨rfl, _⟩ := hj
      cases he
      exact ⟨_, List.getElem?_set_self hσ, fun z => ⟨p, ds, vs, rfl, rfl, f1, f2, fr, .inl f3⟩, fun z => absurd (List.mem_cons_self ..) z⟩
    · rename_i hj
      have ne : i ≠ j := fun z => hj ⟨z, hl⟩
      obtain ⟨w, x1, x2, x3⟩ := R.sl j e he
      refine ⟨w, by rw [List.getElem?_set_ne ne]; exact x1, fun z => ?_, fun z => x3 fun w => z (List.mem_cons_of_mem _ w)⟩
      rcases List.mem_cons.mp z with z | z
      · exact absurd z.symm ne
      · exact x2 z
  · have other : ∀ j, j ∈ i :: Z.own → j ≠ i → getE (env.set i (some (.lst ds))) j ≠ none → (σ.set i (some (.ref p)))[j]? = some (some (.ref b)) → j ∈ Z.own ∧ getE env j ≠ none ∧ σ[j]? = some (some (.ref b)) := fun j hj ne e e' => by
      rcases List.mem_cons.mp hj with z | z
      · exact absurd z ne
      · rw [getE_set, if_neg (fun z => ne z.1.symm)] at e
        rw [List.getElem?_set_ne ne.symm] at e'
        exact ⟨z, e, e'⟩
    by_cases hji : j = i <;> by_cases hki : k = i
    · rw [hji, hki]
    · subst hji
      rw [List.getElem?_set_self hσ] at e6
      cases e6
      obtain ⟨a1, a2, a3⟩ := other k hk hki e5 e7
      exact absurd a3 (f4 k a1 a2)
    · subst hki
      rw [List.getElem?_set_self hσ] at e7
      cases e7
      obtain ⟨a1, a2, a3⟩ := other j hj hji e4 e6
      exact absurd a3 (f4 j a1 a2)
    · obtain ⟨a1, a2, a3⟩ := other j hj hji e4 e6
      obtain ⟨b1, b2, b3⟩ := other k hk hki e5 e7
      exact R.dj j k b a1 b1 a2 b2 a3 b3
  · obtain ⟨x1, x2, x3⟩ := R.pa q hpp
    have ne := hp q hpp
    refine ⟨List.mem_cons_of_mem _ x1, by rw [List.getElem?_set_ne ne.symm]; exact x2, ?_⟩
    rw [getE_set, if_neg (fun z => ne z.1.symm)]
    exact x3
/-- the marks matter as a set -/
theorem Rel.marks {own' : List Nat} (R : Rel Z σ S H env) (h : ∀ i, i ∈ own' ↔ i ∈ Z.own) : Rel { Z with own := own' } σ S H env where
  sub := R.sub
  s0 := R.s0
  fr := R.fr
  gr := R.gr
  sl := fun i d e => by
    obtain ⟨v, x1, x2, x3⟩ := R.sl i d e
    exact ⟨v, x1, fun z => x2 ((h i).mp z), fun z => x3 fun w => z ((h i).mpr w)⟩
  dj := fun i j a hi hj => R.dj i j a ((h i).mp hi) ((h j).mp hj)
  pa := fun p hp => ⟨(h _).mpr (R.pa p hp).1, (R.pa p hp).2⟩
  ln := R.ln
  sz := R.sz
theorem wipeE_length (env : Env) : ∀ vs : List Nat, (wipeE env vs).length = env.length
  | [] => rfl
  | v :: vs => by unfold wipeE; rw [List.length_set, wipeE_length env vs]
theorem getE_wipe {env : Env} {i : Nat} : ∀ {vs : List Nat}, getE (wipeE env vs) i = if i ∈ vs then none else getE env i
  | [] => by simp [wipeE]
  | v :: vs => by
    unfold wipeE
    rw [getE_setN, getE_wipe (vs := vs)]
    by_cases h : v = i
    · subst h; simp
    · have h' : ¬ i = v := fun z => h z.symm
      simp [h, h']
theorem wipe_out {σ : L2.St} {i : Nat} : ∀ {vs : List Nat}, i ∉ vs → (wipe σ vs)[i]? = σ[i]?
  | [], _ => rfl
  | v :: vs, h => by
    unfold wipe
    have h1 : v ≠ i := fun z => h (by simp [z])
    rw [List.getElem?_set_ne h1]
    exact wipe_out fun z => h (List.mem_cons_of_mem _ z)
/-- within a comprehension: its own names have no value yet -/
theorem Rel.wiped (R : Rel Z σ S H env) {vs : List Nat} (hv : ∀ v ∈ vs, v ∉ Z.own) : Rel Z (wipe σ vs) S H (wipeE env vs) where
  sub := R.sub
  s0 := R.s0
  fr := R.fr
  gr := R.gr
  sl := fun i d e => by
    rw [getE_wipe] at e
    split at e
    · cases e
    · rename_i h
      obtain ⟨v, x1, x2⟩ := R.sl i d e
      exact ⟨v, by rw [wipe_out h]; exact x1, x2⟩
  dj := fun i j a hi hj e1 e2 e3 e4 => by
    have h1 : i ∉ vs := fun z => hv i z hi
    have h2 : j ∉ vs := fun z => hv j z hj
    rw [getE_wipe, if_neg h1] at e1
    rw [getE_wipe, if_neg h2] at e2
    rw [wipe_out h1] at e3
    rw [wipe_out h2] at e4
    exact R.dj i j a hi hj e1 e2 e3 e4
  pa := fun p hp => by
    obtain ⟨x1, x2, x3⟩ := R.pa p hp
    have h1 : p.1 ∉ vs := fun z => hv _ z x1
    exact ⟨x1, by rw [wipe_out h1]; exact x2, by rw [getE_wipe, if_neg h1]; exact x3⟩
  ln := by rw [wipe_length, wipeE_length]; exact R.ln
  sz := R.sz
theorem backE_length (env env' : Env) : ∀ vs : List Nat, (backE env env' vs).length = env'.length
  | [] => rfl
  | v :: vs => by unfold backE; rw [List.length_set, backE_length env env' vs]
theorem getE_setO {env : Env} {i j : Nat} {o : Option D} (hl : i < env.length) : getE (env.set i o) j = if i = j then o else getE env j := by
  unfold getE
  by_cases h : i = j
  · subst h; rw [List.getElem?_set_self hl, if_pos rfl]; rfl
  · rw [List.getElem?_set_ne h, if_neg h]
theorem getE_back {env env' : Env} {i : Nat} (he : env'.length = env.length) : ∀ {vs : List Nat}, getE (backE env env' vs) i = if i ∈ vs then getE env i else getE env' i
  | [] => by simp [backE]
  | v :: vs => by
    unfold backE
    by_cases hl : v < env'.length
    · rw [getE_setO (by rw [backE_length]; exact hl), getE_back he (vs := vs)]
      by_cases h : v = i
      · subst h; simp
      · have h' : ¬ i = v := fun z => h z.symm
        simp [h, h']
    · have e1 : (backE env env' vs).set v (getE env v) = backE env env' vs := List.set_eq_of_length_le (by rw [backE_length]; omega)
      rw [e1, getE_back he (vs := vs)]
      by_cases h : i = v
      · subst h
        have n1 : getE env i = none := by
          cases q : getE env i with
          | none => rfl
          | some d => exact absurd (getE_lt q) (by omega)
        have n2 : getE env' i = none := by
          cases q : getE env' i with
          | none => rfl
          | some d => exact absurd (getE_lt q) (by omega)
        rw [n1, n2]; simp
      · simp [h]
/-- behind a comprehension: the slots of its names as ahead -/
theorem Rel.back {env' : Env} (R : Rel Z σ S H env) (hs : Sub S S') (R' : Rel Z (wipe σ vs) S' H' (wipeE env' vs)) (hv : ∀ v ∈ vs, v ∉ Z.own) : Rel Z σ S' H' (backE env env' vs) := by
  have he : env'.length = env.length := by
    have h1 := R'.ln
    rw [wipe_length, wipeE_length] at h1
    rw [← h1]; exact R.ln
  have key : ∀ i, i ∈ Z.own → getE (backE env env' vs) i = getE (wipeE env' vs) i ∧ σ[i]? = (wipe σ vs)[i]? := fun i hi => by
    have h1 : i ∉ vs := fun z => hv i z hi
    rw [getE_back he, if_neg h1, getE_wipe, if_neg h1, wipe_out h1]
    exact ⟨rfl, rfl⟩
  refine ⟨R'.sub, R'.s0, R'.fr, R'.gr, fun i d e => ?_, fun i j a hi hj e1 e2 e3 e4 => ?_, fun p hp => ?_, by rw [backE_length, he]; exact R.ln, R'.sz⟩
  · rw [getE_back he] at e
    split at e
    · rename_i hi
      obtain ⟨v, x1, _, x3⟩ := R.sl i d e
      exact ⟨v, x1, fun z => absurd z (hv i hi), fun z => (x3 z).mono hs⟩
    · rename_i hi
      obtain ⟨v, x1, x2⟩ := R'.sl i d (by rw [getE_wipe, if_neg hi]; exact e)
      rw [wipe_out hi] at x1
      exact ⟨v, x1, x2⟩
  · rw [(key i hi).1] at e1
    rw [(key j hj).1] at e2
    rw [(key i hi).2] at e3
    rw [(key j hj).2] at e4
    exact R'.dj i j a hi hj e1 e2 e3 e4
  · obtain ⟨x1, x2, x3⟩ := R'.pa p hp
    rw [(key _ x1).1, (key _ x1).2]
    exact ⟨x1, x2, x3⟩
end

/-! ### what a def promises, in data -/
section
variable (W : Wd)
def ownAt (S H : Hp) (d : D) (v : V) : Prop := ∃ a es ws, d = .lst es ∧ v = .ref a ∧ H a = some (.lst ws) ∧ S a = none ∧ Reps W S es ws
def ArgsOk (S H : Hp) : List Bool → List D → List V → Prop
  | [], ds, vs => Reps W S ds vs
  | true :: m, d :: ds, v :: vs => ownAt W S H d v ∧ ArgsOk S H m ds vs
  | false :: m, d :: ds, v :: vs => Rep W S d v ∧ ArgsOk S H m ds vs
  | _ :: _, _, _ => False
def ownAddrs : List Bool → List V → List Addr
  | true :: m, .ref a :: vs => a :: ownAddrs m vs
  | _ :: m, _ :: vs => ownAddrs m vs
  | _, _ => []
def OutsOk (S H : Hp) : List Bool → List D → List V → Prop
  | [], outs, _ => outs = []
  | true :: m, d :: outs, v :: vs => ownAt W S H d v ∧ OutsOk S H m outs vs
  | false :: m, outs, _ :: vs => OutsOk S H m outs vs
  | _ :: _, _, _ => False
end
/-- the classes of exceptions, by numbers -/
structure Xd where
  xa : Nat → Addr
def RetOk (W : Wd) (f : Fn) (S H : Hp) (vs : List V) (d : D) (outs : List D) (v : V) (S' H' : Hp) : Prop :=
  Sub S S' ∧ Sub S' H' ∧ (∀ b o, H b = some o → b ∉ ownAddrs f.msk vs → H' b = some o) ∧ (∀ b o, H b = some o → S' b = S b) ∧ SzH H' ∧ OutsOk W S' H' f.msk outs vs ∧
    ((f.fr = true → ∃ p es ws, d = .lst es ∧ v = .ref p ∧ H p = none ∧ H' p = some (.lst ws) ∧ S' p = none ∧ Reps W S' es ws) ∧ (f.fr = false → Rep W S' d v))
def ExcOk (W : Wd) (xa : Nat → Addr) (E : XK) (S H : Hp) (as : List Addr) (k : Nat) (d : D) : Prop :=
  ∀ v dx S' H', Sub S S' → Sub S' H' → (∀ b o, H b = some o → b ∉ as → H' b = some o) → Rep W S' d v → H' dx = some (.xd [("value", v)]) → E (.ref (xa k)) (some dx) H'
def spD (W : Wd) (xa : Nat → Addr) (f : Fn) (F : List D → COut) : Sp := fun vs H Q E => vs.length = f.np ∧ ∃ S ds, Sub S H ∧ SzH H ∧ ArgsOk W S H f.msk ds vs ∧ (ownAddrs f.msk vs).Nodup ∧
  match F ds with
  | .ret d outs => ∀ v S' H', RetOk W f S H vs d outs v S' H' → Q v H'
  | .exc k d => ExcOk W xa E S H (ownAddrs f.msk vs) k d
  | .bad => False
end VI
/-! VId: contexts, the match of the small language with the text, calls. -/
namespace VI
open PySem PySem.Spec PyProof.Rows L2

/-- a text's names, its table of defs, the forms of its calls with keywords: the def, how many arguments by position, the keywords, where each parameter's value stands -/
structure Cfg where
  N : List Str
  T : List Fn
  kb : List (Nat × Nat × List Str × List Nat)
def visC (sc : Scope) (x : Str) : Bool := match sc.names.lookup x with
  | some .local => true
  | some .cell => true
  | some .free => true
  | _ => false
def locC (sc : Scope) (x : Str) : Bool := match sc.names.lookup x with
  | some .local => true
  | some .cell => true
  | _ => false
def cfC (sc : Scope) (x : Str) : Bool := match sc.names.lookup x with
  | some .cell => true
  | some .free => true
  | _ => false
def glC (sc : Scope) (x : Str) : Bool := match sc.names.lookup x with
  | some .globalImplicit => true
  | _ => false
/-- the built-ins' names that are used -/
def blNames : List Str := ["abs", "int", "max", "min", "len", "sum", "isinstance", "list", "tuple", "bool", "str", "range", "enumerate", "zip"]
def okName (x : Str) : Bool := !(x == ("__debug__" : Str)) && !(x == ("__classdict__" : Str)) && !(decide (x = "__name__"))
/-- values and where each parameter stands -/
structure KB (K : PySem.W.Frag) (fd : FuncData) (ps : List Str) (n : Nat) (ks : List Str) (perm : List Nat) : Prop where
  to : ∀ (s : Shared) (us ws : List Value), K.In s.heap → us.length = n → ws.length = ks.length → ∃ bs, permL perm (us ++ ws) = some bs ∧ BindsTo s fd ⟨us, ks.zip ws⟩ (ps.zip bs)
def FnAt (X : Cx) (W : Wd) (xa : Nat → Addr) (Γ : Cfg) (k : Nat) (g : Nat) (f : Fn) : Prop :=
  ∃ fd ps, FnOk X.prog X.w X.K X.mg X.base (L2.CX X.prog X.w) k (W.fa g) fd ps (spD W xa f (CF Γ.T k g)) ∧ X.mg f.name = some (.ref (W.fa g)) ∧ PySem.W.keepIn X.K (.ref (W.fa g)) = true ∧ Binds X.K fd ps [] ∧ ps.length = f.np ∧
    ∀ n ks perm, (g, n, ks, perm) ∈ Γ.kb → KB X.K fd ps n ks perm
structure CxOk (X : Cx) (W : Wd) (xa : Nat → Addr) (E : XK) (Γ : Cfg) (k : Nat) (sc : Scope) : Prop where
  N : X.N = Γ.N
  nd : X.N.Nodup
  calm : X.calm = true
  vis : ∀ x, visC sc x = true → Vis X.env.scope x
  loc : ∀ x, locC sc x = true → Loc X.env.scope x ∧ (X.fn x = true ∨ X.env.scope.names.lookup x = some .local)
  cf : ∀ x, cfC sc x = true → X.env.scope.names.lookup x = some .cell ∨ X.env.scope.names.lookup x = some .free
  glo : ∀ x, glC sc x = true → Gl X x
  K : W.K = X.K
  fns : ∀ g f, Γ.T[g]? = some f → FnAt X W xa Γ k g f
  pl : ∀ g, W.pl g = true → ∃ f, Γ.T[g]? = some f ∧ f.msk = [] ∧ f.fr = false
  plc : ∀ g f, Γ.T[g]? = some f → f.msk = [] → f.fr = false → W.pl g = true
  room : Room k X.A
  tk : Takes X (fun cls d _ H => E cls d H)
  bl : ∀ x ∈ blNames, X.mg x = none

/-! ### what an expression asks -/
section
variable {α β γ : Type}
/-- how a result must end: whatever comes is as V says, and then Q -/
def Fin (ex : Nat → D → Prop) (Z : Stt) (σ : L2.St) (S : Hp) (V : Hp → Hp → Env → α → β → Prop) (r : Res α) (Q : β → Hp → Prop) : Prop := match r with
  | .ok a env' => ∀ b H' S', Rel Z σ S' H' env' → Sub S S' → V S' H' env' a b → Q b H'
  | .exc k d => ex k d
  | .bad => False
theorem Fin.bind {ex : Nat → D → Prop} {Z : Stt} {σ : L2.St} {S : Hp} {V1 : Hp → Hp → Env → α → β → Prop} {δ : Type} {V2 : Hp → Hp → Env → γ → δ → Prop} {r : Res α} {f : α → Env → Res γ} {Q : δ → Hp → Prop} (h : Fin ex Z σ S V2 (r.bind f) Q) :
    Fin ex Z σ S V1 r (fun b H' => ∃ S' env' a, r = .ok a env' ∧ Rel Z σ S' H' env' ∧ Sub S S' ∧ V1 S' H' env' a b ∧ Fin ex Z σ S' V2 (f a env') Q) := by
  cases r with
  | ok a env' =>
    intro b H' S' R hs v
    refine ⟨S', env', a, rfl, R, hs, v, ?_⟩
    have h : Fin ex Z σ S V2 (f a env') Q := h
    cases e : f a env' with
    | ok c env2 =>
      rw [e] at h
      intro b2 H2 S2 R2 hs2 v2
      exact h b2 H2 S2 R2 (hs.trans hs2) v2
    | exc k d => rw [e] at h; exact h
    | bad => rw [e] at h; exact h
  | exc k d => exact h
  | bad => exact h
theorem Fin.mono {ex : Nat → D → Prop} {Z : Stt} {σ : L2.St} {S S' : Hp} {V : Hp → Hp → Env → α → β → Prop} {r : Res α} {Q : β → Hp → Prop} (h : Fin ex Z σ S V r Q) (hs : Sub S S') : Fin ex Z σ S' V r Q := by
  cases r with
  | ok a env' => exact fun b H' S2 R hs2 v => h b H' S2 R (hs.trans hs2) v
  | exc k d => exact h
  | bad => exact h
theorem Fin.imp {ex : Nat → D → Prop} {Z : Stt} {σ : L2.St} {S : Hp} {V V' : Hp → Hp → Env → α → β → Prop} {r : Res α} {Q Q' : β → Hp → Prop} (h : Fin ex Z σ S V r Q) (hq : ∀ a env' b H' S', r = .ok a env' → Rel Z σ S' H' env' → Sub S S' → V' S' H' env' a b → (∀ b H' S', Rel Z σ S' H' env' → Sub S S' → V S' H' env' a b → Q b H') → Q' b H') : Fin ex Z σ S V' r Q' := by
  cases r with
  | ok a env' => exact fun b H' S2 R hs2 v => hq a env' b H' S2 rfl R hs2 v h
  | exc k d => exact h
  | bad => exact h
end
/-- the value that comes: shared, or (fr) a new list of its own -/
def Vx (Z : Stt) (σ : L2.St) (fr : Bool) : Hp → Hp → Env → D → V → Prop := fun S H env d v => (fr = true → isL d = true → FreshV Z σ S H env d v) ∧ ((fr = true → isL d = false) → Rep Z.W S d v)
/-- the arguments that come: at an owned slot's place the list itself -/
def ARs (W : Wd) (σ : L2.St) (S : Hp) : List (Option Nat) → List D → List V → Prop
  | [], ds, vs => ds = [] ∧ vs = []
  | some i :: os, _ :: ds, v :: vs => σ[i]? = some (some v) ∧ ARs W σ S os ds vs
  | none :: os, d :: ds, v :: vs => Rep W S d v ∧ ARs W σ S os ds vs
  | _ :: _, _, _ => False
def Va (Z : Stt) (σ : L2.St) (os : List (Option Nat)) : Hp → Hp → Env → List D → List V → Prop := fun S _ _ ds vs => ARs Z.W σ S os ds vs
def Vb (Z : Stt) : Hp → Hp → Env → Bool → Bool → Prop := fun _ _ _ a b => a = b
def Vo (Z : Stt) : Hp → Hp → Env → Option Int → Option Int → Prop := fun _ _ _ a b => a = b
/-- exceptions that may be let out -/
def Exs (W : Wd) (xa : Nat → Addr) (E : XK) (Z : Stt) : Nat → D → Prop := fun k d => ExcOk W xa E Z.S0 Z.H0 (Z.P.map (·.2)) k d
section
variable (xa : Nat → Addr) (E : XK) (Z : Stt) (C : CT)
def semE (fr : Bool) (e : IE) : TE := fun σ H Q => ∃ S env, Rel Z σ S H env ∧ Fin (Exs Z.W xa E Z) Z σ S (Vx Z σ fr) (ev C e env) Q
def semT (e : IE) : TT := fun σ H Q => ∃ S env, Rel Z σ S H env ∧ Fin (Exs Z.W xa E Z) Z σ S (Vb Z) (evb C e env) Q
def semA (es : IEs) : TA := fun σ H Q => ∃ S env, Rel Z σ S H env ∧ Fin (Exs Z.W xa E Z) Z σ S (Va Z σ es.owns) (evs C es env) Q
def semO (o : IO) : L2.TO := fun σ H Q => ∃ S env, Rel Z σ S H env ∧ Fin (Exs Z.W xa E Z) Z σ S (Vo Z) (evo C o env) Q
def semC (o : IO) : TT := fun σ H Q => ∃ S env, Rel Z σ S H env ∧ Fin (Exs Z.W xa E Z) Z σ S (Vb Z) (evc C o env) Q
/-- the items that a walk gives, one behind another -/
structure Walk (W : Wd) (S : Hp) (J : It) (ds : List D) : Prop where
  go : ∀ i H, Sub S H → i < ds.length → J.go i H
  stop : ∀ i H, Sub S H → ds.length ≤ i → J.stop i H
  yld : ∀ i H x H' d, Sub S H → J.yld i H x H' → ds[i]? = some d → (H' = H ∧ Rep W S d x) ∨ ∃ p es ws, H p = none ∧ H' = upd H p (.tup ws) ∧ x = .ref p ∧ d = .tup es ∧ Reps W S es ws ∧ ws.length ≤ 2
def Vi (Z : Stt) : Hp → Hp → Env → List D → It → Prop := fun S _ _ ds J => Walk Z.W S J ds
def semI (it : II) : TI := fun σ H R => ∃ S env, Rel Z σ S H env ∧ Fin (Exs Z.W xa E Z) Z σ S (Vi Z) (evi C it env) R
end

/-! ### the match with the text -/
def isBase (o : Expr) : Bool := match o with
  | .Call (.Name _ _) [] [] _ => false
  | _ => true
def plainIx (o : Expr) : Bool := match o with
  | .Slice .. => false
  | _ => true
def notStar (o : Expr) : Bool := match o with
  | .Starred .. => false
  | _ => true
def notSet (o : Expr) : Bool := match o with
  | .Set .. => false
  | _ => true
def notLc (o : Expr) : Bool := match o with
  | .ListComp .. => false
  | .SetComp .. => false
  | .DictComp .. => false
  | _ => true
def tyNames : List (Str × String) := [("int", "int"), ("bool", "bool"), ("list", "list"), ("tuple", "tuple"), ("str", "str")]
def biName : BI → Str
  | .abs => "abs"
  | .int => "int"
  | .max => "max"
  | .min => "min"
  | .len => "len"
  | .sum => "sum"
  | .isi => "isinstance"
  | .list => "list"
  | .tuple => "tuple"
  | .bool => "bool"
def slotC (Γ : Cfg) (sc : Scope) (i : Nat) (x : Str) : Bool := decide (Γ.N[i]? = some x) && visC sc x && okName x
/-- which places of the arguments are lists that the def may change -/
def mskOk : List Bool → List (Option Nat) → Bool
  | [], os => os.all (·.isNone)
  | b :: m, o :: os => (b == o.isSome) && mskOk m os
  | _ :: _, [] => false
def ownsOk (own : List Nat) (os : List (Option Nat)) : Bool := (os.filterMap id).all (fun i => decide (i ∈ own)) && decide ((os.filterMap id).Nodup)
def noOwn (os : List (Option Nat)) : Bool := os.all (·.isNone)
def kwNames : List Keyword → Option (List Str)
  | [] => some []
  | ⟨some x, _, _⟩ :: r => (kwNames r).map (x :: ·)
  | ⟨none, _, _⟩ :: _ => none
def nmC (Γ : Cfg) (sc : Scope) (p : Nat × Expr) : Bool := match p.2 with
  | .Name x _ => decide (Γ.N[p.1]? = some x) && locC sc x
  | _ => false
def itC (Γ : Cfg) (sc : Scope) : IT → Expr → Bool
  | .nm i, .Name x _ => decide (Γ.N[i]? = some x) && locC sc x
  | .tp is, .Tuple xs _ _ => decide (is.length = xs.length) && (is.zip xs).all (nmC Γ sc)
  | _, _ => false
def IT.slots : IT → List Nat
  | .nm i => [i]
  | .tp is => is
mutual
def corr (Γ : Cfg) (own : List Nat) (sc : Scope) (fr : Bool) : IE → Expr → Bool
  | .var i, .Name x _ => !fr && !decide (i ∈ own) && slotC Γ sc i x
  | .int z, .Constant (.int z') _ _ => !fr && decide (z = z')
  | .bl b, .Constant (.bool b') _ _ => !fr && decide (b = b')
  | .non, .Constant .none _ _ => !fr
  | .str s, .Constant (.str s') _ _ => !fr && decide (s = s')
  | .ty n, .Name x _ => !fr && glC sc x && decide ((x, n) ∈ tyNames)
  | .fn g, .Name x _ => !fr && glC sc x && okName x && (match Γ.T[g]? with
    | some f => decide (f.name = x) && f.msk.isEmpty && !f.fr
    | none => false)
  | .scal e, pe => !fr && corr Γ [] sc false e pe
  | .bin op a b, .BinOp l o r _ => decide (op = o) && corr Γ own sc false a l && corr Γ own sc false b r
  | .neg a, .UnaryOp .USub x _ => !fr && corr Γ own sc false a x
  | .not a, .UnaryOp .Not x _ => !fr && corr Γ own sc false a x
  | .and a b, .BoolOp .And (x :: y :: r) pos => !fr && corr Γ own sc false a x && (match r with
    | [] => corr Γ own sc false b y
    | _ => corr Γ own sc false b (.BoolOp .And (y :: r) pos))
  | .or a b, .BoolOp .Or (x :: y :: r) pos => !fr && corr Γ own sc false a x && (match r with
    | [] => corr Γ own sc false b y
    | _ => corr Γ own sc false b (.BoolOp .Or (y :: r) pos))
  | .ife c a b, .IfExp t x y _ => corr Γ own sc false c t && corr Γ own sc fr a x && corr Γ own sc fr b y
  | .cmp op a b, .Compare l [o] [r] _ => !fr && decide (op = o) && corr Γ own sc false a l && corr Γ own sc false b r && !behindInMarks o r
  | .chn o1 o2 a b c, .Compare l [p1, p2] [r1, r2] _ => !fr && decide (o1 = p1) && decide (o2 = p2) && corr Γ own sc false a l && corr Γ own sc false b r1 && corr Γ own sc false c r2 && !lastMarks [p1, p2] [r1, r2]
  | .lst es, .List xs _ => corrs Γ own sc es xs && noOwn es.owns
  | .tup es, .Tuple xs _ _ => !fr && corrs Γ own sc es xs && noOwn es.owns
  | .idx a b, .Subscript v s _ => !fr && corr Γ own sc false a v && corr Γ own sc false b s && plainIx s
  | .idxo i b, .Subscript (.Name x _) s _ => !fr && decide (i ∈ own) && slotC Γ sc i x && corr Γ own sc false b s && plainIx s
  | .sl a lo hi, .Subscript v (.Slice l u none _) _ => corr Γ own sc false a v && corro Γ own sc lo l && corro Γ own sc hi u
  | .call g es, .Call (.Name x _) (y :: ys) [] _ => glC sc x && okName x && corrs Γ own sc es (y :: ys) && (match Γ.T[g]? with
    | some f => decide (f.name = x) && mskOk f.msk es.owns && ownsOk own es.owns && decide (es.owns.length = f.np) && (!fr || f.fr)
    | none => false)
  | .callk g perm es ks, .Call (.Name x _) ys kws _ => !fr && glC sc x && okName x && corrs Γ own sc es ys && corrk Γ own sc ks kws && noOwn es.owns && noOwn ks.owns && (match Γ.T[g]? with
    | some f => decide (f.name = x) && f.msk.isEmpty && !f.fr && decide (perm.length = f.np) && !kws.isEmpty && (match kwNames kws with
      | some ns => decide ((g, ys.length, ns, perm) ∈ Γ.kb)
      | none => false)
    | none => false)
  | .callv i es, .Call (.Name x _) (y :: ys) [] _ => !fr && !decide (i ∈ own) && slotC Γ sc i x && corrs Γ own sc es (y :: ys) && noOwn es.owns
  | .bi b es, .Call (.Name x _) (y :: ys) [] _ => glC sc x && decide (x = biName b) && corrs Γ own sc es (y :: ys) && noOwn es.owns
  | .bits a, .Call (.Attribute o n ap) [] [] p => !fr && decide (n = "bit_length") && corr Γ own sc false a o && isBase o && (ap.endLine == p.line)
  | .lc vs tg it c e, .ListComp elt [⟨t, iter, ifs, k⟩] scope _ => decide (k = 0) && vs.all (fun v => !decide (v ∈ own)) && blkC Γ.N sc scope (vs.filterMap fun v => (Γ.N[v]?).map fun x => (x, v)) && decide ((vs.filterMap fun v => (Γ.N[v]?).map fun x => (x, v)).map (·.2) = vs) &&
      corri Γ own sc it t iter && notSet iter && itC Γ scope tg t && tg.slots.all (fun i => decide (i ∈ vs)) && corrc Γ own scope c ifs && corr Γ own scope false e elt
  | _, _ => false
def corrs (Γ : Cfg) (own : List Nat) (sc : Scope) : IEs → List Expr → Bool
  | .nil, [] => true
  | .cons e es, x :: xs => notStar x && (match e, x with
    | .own i, .Name n _ => decide (i ∈ own) && slotC Γ sc i n
    | e, x => corr Γ own sc false e x) && corrs Γ own sc es xs
  | _, _ => false
def corrk (Γ : Cfg) (own : List Nat) (sc : Scope) : IEs → List Keyword → Bool
  | .nil, [] => true
  | .cons e es, ⟨_, x, _⟩ :: xs => corr Γ own sc false e x && corrk Γ own sc es xs
  | _, _ => false
def corro (Γ : Cfg) (own : List Nat) (sc : Scope) : IO → Option Expr → Bool
  | .none, none => true
  | .some e, some x => corr Γ own sc false e x
  | _, _ => false
def corrc (Γ : Cfg) (own : List Nat) (sc : Scope) : IO → List Expr → Bool
  | .none, [] => true
  | .some e, [x] => corr Γ own sc false e x
  | _, _ => false
def corri (Γ : Cfg) (own : List Nat) (sc : Scope) : II → Expr → Expr → Bool
  | .val e, _, x => corr Γ own sc false e x
  | .rng e, _, .Call (.Name n _) [x] [] _ => glC sc n && decide (n = "range") && notStar x && corr Γ own sc false e x
  | .rng2 a b, _, .Call (.Name n _) [x, y] [] _ => glC sc n && decide (n = "range") && notStar x && notStar y && corr Γ own sc false a x && corr Γ own sc false b y
  | .enum e, .Tuple _ _ _, .Call (.Name n _) [x] [] _ => glC sc n && decide (n = "enumerate") && notStar x && corr Γ own sc false e x
  | .zip a b, .Tuple _ _ _, .Call (.Name n _) [x, y] [] _ => glC sc n && decide (n = "zip") && notStar x && notStar y && corr Γ own sc false a x && corr Γ own sc false b y
  | _, _, _ => false
end

/-! ### arguments and calls -/
section
variable {Z : Stt} {σ : L2.St} {S S' H H' : Hp} {env : Env} {W : Wd}
theorem ARs.mono (h : Sub S S') : ∀ {os : List (Option Nat)} {ds : List D} {vs : List V}, ARs W σ S os ds vs → ARs W σ S' os ds vs
  | [], _, _, r => r
  | some i :: os, d :: ds, v :: vs, r => by unfold ARs at r ⊢; exact ⟨r.1, ARs.mono h r.2⟩
  | none :: os, d :: ds, v :: vs, r => by unfold ARs at r ⊢; exact ⟨r.1.mono h, ARs.mono h r.2⟩
  | some i :: os, [], _, r => by unfold ARs at r; exact r.elim
  | none :: os, [], _, r => by unfold ARs at r; exact r.elim
  | some i :: os, d :: ds, [], r => by unfold ARs at r; exact r.elim
  | none :: os, d :: ds, [], r => by unfold ARs at r; exact r.elim
theorem ARs.len : ∀ {os : List (Option Nat)} {ds : List D} {vs : List V}, ARs W σ S os ds vs → os.length = vs.length ∧ ds.length = vs.length
  | [], _, _, r => by unfold ARs at r; obtain ⟨rfl, rfl⟩ := r; exact ⟨rfl, rfl⟩
  | some i :: os, d :: ds, v :: vs, r => by unfold ARs at r; have := r.2.len; simp [this]
  | none :: os, d :: ds, v :: vs, r => by unfold ARs at r; have := r.2.len; simp [this]
  | some i :: os, [], _, r => by unfold ARs at r; exact r.elim
  | none :: os, [], _, r => by unfold ARs at r; exact r.elim
  | some i :: os, d :: ds, [], r => by unfold ARs at r; exact r.elim
  | none :: os, d :: ds, [], r => by unfold ARs at r; exact r.elim
theorem ARs.none : ∀ {os : List (Option Nat)} {ds : List D} {vs : List V}, ARs W σ S os ds vs → noOwn os = true → Reps W S ds vs
  | [], _, _, r, _ => by unfold ARs at r; obtain ⟨rfl, rfl⟩ := r; exact reps_nil.mpr rfl
  | some i :: os, _, _, _, h => by unfold noOwn at h; simp at h
  | .none :: os, d :: ds, v :: vs, r, h => by
    unfold ARs at r
    unfold noOwn at h
    rw [List.all_cons, Bool.and_eq_true] at h
    exact reps_cons.mpr ⟨v, vs, rfl, r.1, r.2.none h.2⟩
  | .none :: os, [], _, r, _ => by unfold ARs at r; exact r.elim
  | .none :: os, d :: ds, [], r, _ => by unfold ARs at r; exact r.elim
theorem ars_of : ∀ {ds : List D} {vs : List V}, Reps W S ds vs → ARs W σ S (ds.map fun _ => (none : Option Nat)) ds vs
  | [], _, r => by rw [reps_nil] at r; subst r; exact ⟨rfl, rfl⟩
  | d :: ds, _, r => by
    rw [reps_cons] at r
    obtain ⟨v, q, rfl, x, y⟩ := r
    exact ⟨x, ars_of y⟩
theorem argsAt_none : ∀ {os : List (Option Nat)} {ds : List D}, noOwn os = true → os.length = ds.length → argsAt os ds env = some ds
  | [], [], _, _ => by unfold argsAt; rfl
  | some i :: os, _, h, _ => by unfold noOwn at h; simp at h
  | none :: os, d :: ds, h, hl => by
    unfold noOwn at h
    rw [List.all_cons, Bool.and_eq_true] at h
    unfold argsAt
    rw [argsAt_none h.2 (by simpa using hl)]
    rfl
theorem outsAt_none : ∀ {os : List (Option Nat)} {outs : List D} {env' : Env}, noOwn os = true → outsAt os outs env = some env' → env' = env
  | [], [], _, _, e => by unfold outsAt at e; exact (Option.some.inj e).symm
  | [], _ :: _, _, _, e => by unfold outsAt at e; cases e
  | some i :: os, _, _, h, _ => by unfold noOwn at h; simp at h
  | none :: os, outs, env', h, e => by
    unfold noOwn at h
    rw [List.all_cons, Bool.and_eq_true] at h
    unfold outsAt at e
    exact outsAt_none h.2 e
/-- what a callee asks of its arguments -/
theorem args_ok (R : Rel Z σ S H env) : ∀ {msk : List Bool} {os : List (Option Nat)} {ds args : List D} {vs : List V}, mskOk msk os = true → (∀ i ∈ os.filterMap id, i ∈ Z.own) → ARs Z.W σ S os ds vs → argsAt os ds env = some args →
    ArgsOk Z.W S H msk args vs ∧ Paired (fun i a => σ[i]? = some (some (.ref a)) ∧ getE env i ≠ none) (os.filterMap id) (ownAddrs msk vs)
  | [], os, ds, args, vs, hm, _, r, e => by
    have hn : noOwn os = true := hm
    have := r.len
    rw [argsAt_none hn (by omega)] at e
    cases e
    have e0 : os.filterMap id = [] := by
      refine List.filterMap_eq_nil_iff.mpr fun o ho => ?_
      have := List.all_eq_true.mp hn o ho
      cases o with
      | none => rfl
      | some i => simp at this
    rw [e0]
    exact ⟨r.none hn, .nil⟩
  | b :: m, [], _, _, _, hm, _, _, _ => by unfold mskOk at hm; cases hm
  | b :: m, some i :: os, d :: ds, args, v :: vs, hm, ho, r, e => by
    unfold mskOk at hm
    rw [Bool.and_eq_true] at hm
    have hb : b = true := by simpa using hm.1
    subst hb
    unfold ARs at r
    unfold argsAt at e
    split at e
    · rename_i d' r' e1 e2
      cases e
      have hi : i ∈ Z.own := ho i (by simp)
      obtain ⟨a, es, ws, rfl, h1, h2, h3, h4, _⟩ := R.owned hi e1
      rw [r.1] at h1
      cases h1
      obtain ⟨k1, k2⟩ := args_ok R hm.2 (fun j hj => ho j (by simp at hj ⊢; exact .inr hj)) r.2 e2
      refine ⟨⟨⟨a, es, ws, rfl, rfl, h2, h3, h4⟩, k1⟩, ?_⟩
      show Paired _ (i :: os.filterMap id) (a :: ownAddrs m vs)
      exact .cons ⟨r.1, by rw [e1]; exact fun q => by cases q⟩ k2
    · cases e
  | b :: m, none :: os, d :: ds, args, v :: vs, hm, ho, r, e => by
    unfold mskOk at hm
    rw [Bool.and_eq_true] at hm
    have hb : b = false := by simpa using hm.1
    subst hb
    unfold ARs at r
    unfold argsAt at e
    cases e2 : argsAt os ds env with
    | none => rw [e2] at e; cases e
    | some r' =>
      rw [e2] at e
      cases e
      obtain ⟨k1, k2⟩ := args_ok R hm.2 (fun j hj => ho j (by simpa using hj)) r.2 e2
      refine ⟨⟨r.1, k1⟩, ?_⟩
      show Paired _ (os.filterMap id) (ownAddrs (false :: m) (v :: vs))
      have e3 : ownAddrs (false :: m) (v :: vs) = ownAddrs m vs := by cases v <;> rfl
      rw [e3]
      exact k2
  | b :: m, some i :: os, [], _, _, _, _, r, _ => by unfold ARs at r; exact r.elim
  | b :: m, none :: os, [], _, _, _, _, r, _ => by unfold ARs at r; exact r.elim
  | b :: m, some i :: os, d :: ds, _, [], _, _, r, _ => by unfold ARs at r; exact r.elim
  | b :: m, none :: os, d :: ds, _, [], _, _, r, _ => by unfold ARs at r; exact r.elim
theorem Paired.mem_right {α β : Type} {F : α → β → Prop} : ∀ {l₁ : List α} {l₂ : List β} {b : β}, Paired F l₁ l₂ → b ∈ l₂ → ∃ a ∈ l₁, F a b
  | _, _, _, .nil, h => by simp at h
  | _, _, b, .cons r t, h => by
    rcases List.mem_cons.mp h with rfl | h
    · exact ⟨_, List.mem_cons_self .., r⟩
    · obtain ⟨a, h1, h2⟩ := Paired.mem_right t h
      exact ⟨a, List.mem_cons_of_mem _ h1, h2⟩
theorem Paired.left_all {F : Nat → Prop} {G : Nat → Addr → Prop} : ∀ {l₁ : List Nat} {l₂ : List Addr}, Paired (fun i a => G i a ∧ F i) l₁ l₂ → ∀ j ∈ l₁, F j
  | _, _, .nil, j, hj => by simp at hj
  | _, _, .cons r t, j, hj => by
    rcases List.mem_cons.mp hj with h | h
    · rw [h]; exact r.2
    · exact Paired.left_all t j h
theorem own_nodup (R : Rel Z σ S H env) : ∀ {is : List Nat} {as : List Addr}, (∀ i ∈ is, i ∈ Z.own) → is.Nodup → Paired (fun i a => σ[i]? = some (some (.ref a)) ∧ getE env i ≠ none) is as → as.Nodup
  | _, _, _, _, .nil => List.nodup_nil
  | i :: is, a :: as, h, nd, .cons r t => by
    rw [List.nodup_cons] at nd ⊢
    refine ⟨fun hm => ?_, own_nodup R (fun j hj => h j (List.mem_cons_of_mem _ hj)) nd.2 t⟩
    obtain ⟨j, hj, r2⟩ := Paired.mem_right t hm
    have e := R.dj i j a (h i (List.mem_cons_self ..)) (h j (List.mem_cons_of_mem _ hj)) r.2 r2.2 r.1 r2.1
    subst e
    exact nd.1 hj
/-- the owned lists behind a call -/
theorem outs_ok : ∀ {msk : List Bool} {os : List (Option Nat)} {outs : List D} {vs : List V} {env env' : Env}, mskOk msk os = true → os.length = vs.length → (os.filterMap id).Nodup → OutsOk W S' H' msk outs vs →
    Paired (fun i a => σ[i]? = some (some (.ref a)) ∧ i < env.length) (os.filterMap id) (ownAddrs msk vs) → outsAt os outs env = some env' →
    env'.length = env.length ∧ (∀ j, j ∉ os.filterMap id → getE env' j = getE env j) ∧ ∀ j ∈ os.filterMap id, ∃ a d, σ[j]? = some (some (.ref a)) ∧ getE env' j = some d ∧ ownAt W S' H' d (.ref a)
  | [], os, outs, vs, env, env', hm, _, _, ho, hp, e => by
    have hn : noOwn os = true := hm
    have := outsAt_none hn e
    subst this
    have e0 : os.filterMap id = [] := by
      refine List.filterMap_eq_nil_iff.mpr fun o ho => ?_
      have := List.all_eq_true.mp hn o ho
      cases o with
      | none => rfl
      | some i => simp at this
    rw [e0]
    exact ⟨rfl, fun _ _ => rfl, fun j hj => by simp at hj⟩
  | b :: m, [], _, _, _, _, hm, _, _, _, _, _ => by unfold mskOk at hm; cases hm
  | b :: m, some i :: os, outs, v :: vs, env, env', hm, hl, nd, ho, hp, e => by
    unfold mskOk at hm
    rw [Bool.and_eq_true] at hm
    have hb : b = true := by simpa using hm.1
    subst hb
    cases outs with
    | nil => unfold OutsOk at ho; exact ho.elim
    | cons d outs =>
      unfold OutsOk at ho
      unfold outsAt at e
      have nd' : i ∉ os.filterMap id ∧ (os.filterMap id).Nodup := by simpa using nd
      obtain ⟨hd, ho⟩ := ho
      obtain ⟨a, es, ws, rfl, rfl, q⟩ := hd
      have hp' : Paired (fun i a => σ[i]? = some (some (.ref a)) ∧ i < env.length) (i :: os.filterMap id) (a :: ownAddrs m vs) := hp
      cases hp' with
      | cons r t =>
        obtain ⟨k1, k2, k3⟩ := outs_ok (env := env.set i (some (.lst es))) hm.2 (by simpa using hl) nd'.2 ho (Paired.mapP t fun x y z => ⟨z.1, by rw [List.length_set]; exact z.2⟩) e
        rw [List.length_set] at k1
        refine ⟨k1, fun j hj => ?_, fun j hj => ?_⟩
        · have hj' : j ≠ i ∧ j ∉ os.filterMap id := by simpa using hj
          rw [k2 j hj'.2, getE_set, if_neg (fun z => hj'.1 z.1.symm)]
        · have hj' : j = i ∨ j ∈ os.filterMap id := by simpa using hj
          rcases hj' with rfl | hj'
          · refine ⟨a, .lst es, r.1, ?_, a, es, ws, rfl, rfl, q⟩
            rw [k2 j nd'.1, getE_set, if_pos ⟨rfl, r.2⟩]
          · exact k3 j hj'
  | b :: m, none :: os, outs, v :: vs, env, env', hm, hl, nd, ho, hp, e => by
    unfold mskOk at hm
    rw [Bool.and_eq_true] at hm
    have hb : b = false := by simpa using hm.1
    subst hb
    unfold OutsOk at ho
    unfold outsAt at e
    have e3 : ownAddrs (false :: m) (v :: vs) = ownAddrs m vs := by cases v <;> rfl
    rw [e3] at hp
    have e4 : (none :: os).filterMap (id : Option Nat → Option Nat) = os.filterMap id := rfl
    rw [e4] at nd hp ⊢
    exact outs_ok hm.2 (by simpa using hl) nd ho hp e
  | b :: m, some i :: os, _, [], _, _, _, hl, _, _, _, _ => by simp at hl
  | b :: m, none :: os, _, [], _, _, _, hl, _, _, _, _ => by simp at hl
/-- behind a call -/
theorem Rel.after (R : Rel Z σ S H env) {f : Fn} {os : List (Option Nat)} {vs : List V} {d : D} {outs : List D} {v : V} {env' : Env} (ro : RetOk Z.W f S H vs d outs v S' H') (hm : mskOk f.msk os = true) (ho : ∀ i ∈ os.filterMap id, i ∈ Z.own) (nd : (os.filterMap id).Nodup) (hl : os.length = vs.length)
    (hp : Paired (fun i a => σ[i]? = some (some (.ref a)) ∧ getE env i ≠ none) (os.filterMap id) (ownAddrs f.msk vs)) (e : outsAt os outs env = some env') : Rel Z σ S' H' env' := by
  obtain ⟨r1, r2, r3, r4, r5, r6, _⟩ := ro
  obtain ⟨k1, k2, k3⟩ := outs_ok (σ := σ) hm hl nd r6 (Paired.mapP hp fun x y z => ⟨z.1, getE_lt' z.2⟩) e
  have mem : ∀ {a}, a ∈ ownAddrs f.msk vs → ∃ i ∈ os.filterMap id, σ[i]? = some (some (.ref a)) ∧ getE env i ≠ none := fun {a} ha => Paired.mem_right hp ha
  have memO : ∀ {a}, a ∈ ownAddrs f.msk vs → Z.H0 a = none ∨ ∃ p ∈ Z.P, p.2 = a := fun {a} ha => by
    obtain ⟨i, hi, h1, h2⟩ := mem ha
    exact (R.ownSome (ho i hi) h2 h1).2.2
  have ev : ∀ j, getE env' j ≠ none ↔ getE env j ≠ none := fun j => by
    by_cases hj : j ∈ os.filterMap id
    · obtain ⟨a, d', _, h2, _⟩ := k3 j hj
      exact ⟨fun _ => Paired.left_all hp j hj, fun _ q => by rw [h2] at q; cases q⟩
    · rw [k2 j hj]
  refine ⟨r2, R.s0.trans r1, fun b o e1 q => r3 b o (R.fr b o e1 q) fun hm => ?_, fun b o e1 => ?_, fun j d' e1 => ?_, fun i j a hi hj e1 e2 => R.dj i j a hi hj ((ev i).mp e1) ((ev j).mp e2), fun p hpp => ?_, by rw [k1]; exact R.ln, r5⟩
  · rcases memO hm with z | ⟨p, hpp, z⟩
    · rw [z] at e1; cases e1
    · exact q p hpp z
  · by_cases q : ∀ p ∈ Z.P, p.2 ≠ b
    · rw [r4 b o (R.fr b o e1 q)]; exact R.gr b o e1
    · obtain ⟨p, hpp, rfl⟩ : ∃ p ∈ Z.P, p.2 = b := Classical.byContradiction fun z => q fun p hp e => z ⟨p, hp, e⟩
      obtain ⟨a1, a2, a3⟩ := R.pa p hpp
      obtain ⟨⟨ws, e2⟩, _⟩ := R.ownSome a1 a3 a2
      rw [r4 _ _ e2]; exact R.gr _ o e1
  · by_cases hj : j ∈ os.filterMap id
    · obtain ⟨a, d2, h1, h2, b, es, ws, h3, h4, h5, h6, h7⟩ := k3 j hj
      rw [h2] at e1
      cases e1
      cases h4
      refine ⟨_, h1, fun _ => ⟨a, es, ws, h3, rfl, h5, h6, h7, ?_⟩, fun z => absurd (ho j hj) z⟩
      have hne : getE env j ≠ none := (ev j).mp (by rw [h2]; exact fun q => by cases q)
      exact (R.ownSome (ho j hj) hne h1).2.2
    · rw [k2 j hj] at e1
      obtain ⟨w, x1, x2, x3⟩ := R.sl j d' e1
      refine ⟨w, x1, fun z => ?_, fun z => (x3 z).mono r1⟩
      obtain ⟨a, es, ws, y1, rfl, y3, y4, y5, y6⟩ := x2 z
      have na : a ∉ ownAddrs f.msk vs := fun hm => by
        obtain ⟨i, hi, h1, h2⟩ := mem hm
        have := R.dj i j a (ho i hi) z h2 (by rw [e1]; exact fun q => by cases q) h1 x1
        subst this
        exact hj hi
      exact ⟨a, es, ws, y1, rfl, r3 _ _ y3 na, by rw [r4 _ _ y3]; exact y4, y5.mono r1, y6⟩
  · obtain ⟨x1, x2, x3⟩ := R.pa p hpp
    exact ⟨x1, x2, (ev _).mpr x3⟩
/-- no object stood at a free address at the entry -/
theorem Rel.h0 (R : Rel Z σ S H env) {p : Addr} (h : H p = none) : Z.H0 p = none := by
  cases e : Z.H0 p with
  | none => rfl
  | some o =>
    by_cases q : ∀ r ∈ Z.P, r.2 ≠ p
    · rw [R.fr p o e q] at h; cases h
    · obtain ⟨r, hr, rfl⟩ : ∃ r ∈ Z.P, r.2 = p := Classical.byContradiction fun z => q fun p hp e => z ⟨p, hp, e⟩
      obtain ⟨a1, a2, a3⟩ := R.pa r hr
      obtain ⟨⟨ws, e2⟩, _⟩ := R.ownSome a1 a3 a2
      rw [h] at e2; cases e2
theorem Rel.apart (R : Rel Z σ S H env) {p : Addr} (h : H p = none) : ∀ i, i ∈ Z.own → getE env i ≠ none → σ[i]? ≠ some (some (.ref p)) := fun i hi e q => by
  obtain ⟨⟨ws, e2⟩, _⟩ := R.ownSome hi e q
  rw [h] at e2; cases e2
/-- the end of an operation that gives d -/
theorem mk_fin {ex : Nat → D → Prop} {fr : Bool} {d : D} {v : V} {Q : VK} (R : Rel Z σ S H env) (h : Fin ex Z σ S (Vx Z σ fr) (.ok d env) Q) (m : Mk Z.W S H d v H') : Q v H' := by
  have h : ∀ b H' S', Rel Z σ S' H' env → Sub S S' → Vx Z σ fr S' H' env d b → Q b H' := h
  cases m with
  | old n r =>
    refine h v H S R (Sub.refl S) ⟨fun _ z => ?_, fun _ => r⟩
    cases d <;> first | exact absurd rfl (n _) | (unfold isL at z; cases z)
  | @lst ds vs p hp r z =>
    cases fr with
    | true =>
      refine h _ _ S (R.new hp z) (Sub.refl S) ⟨fun _ _ => ⟨p, _, _, rfl, rfl, upd_same, R.sub.none hp, r, R.h0 hp, R.apart hp⟩, fun q => by have q := q rfl; unfold isL at q; cases q⟩
    | false =>
      have hs := Sub.upd (o := .lst vs) (R.sub.none hp)
      exact h _ _ _ (R.both hp z) hs ⟨fun q => (by cases q), fun _ => rep_lst.mpr ⟨p, _, rfl, upd_same, r.mono hs⟩⟩
  | @tup ds vs p hp r z =>
    have hs := Sub.upd (o := .tup vs) (R.sub.none hp)
    exact h _ _ _ (R.both hp z) hs ⟨fun _ q => (by unfold isL at q; cases q), fun _ => rep_tup.mpr ⟨p, _, rfl, upd_same, r.mono hs⟩⟩
/-- a new list may be shared -/
theorem fin_give {ex : Nat → D → Prop} {r : Res D} {Q : VK} (h : Fin ex Z σ S (Vx Z σ false) r Q) : Fin ex Z σ S (Vx Z σ true) r Q := by
  refine h.imp fun d env' b H' S' e R hs v k => ?_
  by_cases hl : isL d = true
  · obtain ⟨S2, s2, R2, rp⟩ := R.give (v.1 rfl hl)
    exact k b H' S2 R2 (hs.trans s2) ⟨fun q => (by cases q), fun _ => rp⟩
  · exact k b H' S' R hs ⟨fun q => (by cases q), fun _ => v.2 fun _ => by simpa using hl⟩
theorem vx_false {d : D} {v : V} (h : Vx Z σ false S H env d v) : Rep Z.W S d v := h.2 fun q => by cases q
theorem vx_of {d : D} {v : V} (h : Rep Z.W S d v) : Vx Z σ false S H env d v := ⟨fun q => (by cases q), fun _ => h⟩
end
end VI
/-! VIe: each construct of an expression. -/
namespace VI
open PySem PySem.Spec PyProof.Rows L2

theorem Fin.post {α β : Type} {ex : Nat → D → Prop} {Z : Stt} {σ : L2.St} {S : Hp} {V : Hp → Hp → Env → α → β → Prop} {r : Res α} {Q Q' : β → Hp → Prop} (h : Fin ex Z σ S V r Q) (hq : ∀ b H', Q b H' → Q' b H') : Fin ex Z σ S V r Q' := by
  cases r with
  | ok a env' => exact fun b H' S' R hs v => hq b H' (h b H' S' R hs v)
  | exc k d => exact h
  | bad => exact h
theorem Fin.ok {α β : Type} {ex : Nat → D → Prop} {Z : Stt} {σ : L2.St} {S : Hp} {V : Hp → Hp → Env → α → β → Prop} {a : α} {env : Env} {Q : β → Hp → Prop} (h : Fin ex Z σ S V (.ok a env) Q) {b : β} {H' S' : Hp} (R : Rel Z σ S' H' env) (hs : Sub S S') (v : V S' H' env a b) : Q b H' := h b H' S' R hs v
theorem Fin.lift {α β : Type} {ex : Nat → D → Prop} {Z : Stt} {σ : L2.St} {S : Hp} {V : Hp → Hp → Env → α → β → Prop} {o : Option α} {env : Env} {Q : β → Hp → Prop} (h : Fin ex Z σ S V (lift o env) Q) : ∃ a, o = some a ∧ Fin ex Z σ S V (.ok a env) Q := by
  cases o with
  | none => exact h.elim
  | some a => exact ⟨a, rfl, h⟩
theorem _root_.L2.PE.weak {X : Cx} {e : Expr} {t t' : TE} (h : PE X e t) (hq : ∀ σ H Q, t' σ H Q → t σ H Q) : PE X e t' := ⟨fun pins s σ H Q I q => h.run pins s σ H Q I (hq σ H Q q)⟩
theorem _root_.L2.PT.weak {X : Cx} {e : Expr} {t t' : TT} (h : PT X e t) (hq : ∀ σ H Q, t' σ H Q → t σ H Q) : PT X e t' := ⟨fun pins s σ H Q I q => h.run pins s σ H Q I (hq σ H Q q)⟩
theorem _root_.L2.PW.weak {X : Cx} {e : Expr} {t t' : TT} (h : PW X e t) (hq : ∀ σ H Q, t' σ H Q → t σ H Q) : PW X e t' := ⟨fun w pins s σ H Q I q => h.run w pins s σ H Q I (hq σ H Q q)⟩
/-- any rule for an operation -/
def rU2 (X : Cx) (f : Value → Value → Sem Value) : R2 := fun x y H Q => ∃ r, OpR X f r ∧ r x y H Q
theorem rU2_ok {X : Cx} {f : Value → Value → Sem Value} : OpR X f (rU2 X f) := fun pins s σ H x y v u Q I rx ry ⟨r, hr, q⟩ => hr pins s σ H x y v u Q I rx ry q
def rUx (X : Cx) : R2 := fun x y H Q => ∃ r, IxR X r ∧ r x y H Q
theorem rUx_ok {X : Cx} : IxR X (rUx X) := fun a b pins s σ H x y v u Q I rx ry ⟨r, hr, q⟩ hs => hr a b pins s σ H x y v u Q I rx ry q hs
def rUs (X : Cx) : V → Option Int → Option Int → Hp → VK → Prop := fun x lo hi H Q => ∃ r, SlR X r ∧ r x lo hi H Q
theorem rUs_ok {X : Cx} : SlR X (rUs X) := fun pins s σ H x v vl vu lo hi sl Q I rx hs pl pu ⟨r, hr, q⟩ => hr pins s σ H x v vl vu lo hi sl Q I rx hs pl pu q
def rUc (X : Cx) (f : Value) : List V → Hp → VK → Prop := fun xs H Q => ∃ r, CallR X f r ∧ r xs H Q
theorem rUc_ok {X : Cx} {f : Value} : CallR X f (rUc X f) := fun pins s σ H xs us Q I rx ⟨r, hr, q⟩ => hr pins s σ H xs us Q I rx q
theorem notStar_each {e : Expr} {es : List Expr} {env : L2.Cx → PySem.Env} {X : Cx} (h : notStar e = true) : starEach (e :: es) X.env = (false, eval e X.env) :: starEach es X.env := by
  cases e <;> first | rfl | (unfold notStar at h; cases h)
theorem plain_ix {e : Expr} (h : plainIx e = true) : PlainIx e := by
  intro o i
  cases e <;> first | rfl | (unfold plainIx at h; cases h)
theorem base_ok {o : Expr} {n : Str} {env : PySem.Env} (h : isBase o = true) : attributeBase o n env (eval o env) = eval o env := by
  cases o <;> first
    | rfl
    | (rename_i f a k p
       cases f <;> first
         | rfl
         | (cases a <;> first
             | rfl
             | (cases k <;> first | rfl | (unfold isBase at h; cases h))))
theorem fold_ok {it : Expr} {env : PySem.Env} (h : notSet it = true) : ∀ x, foldedSetIterable it env x = pure x := by
  intro x
  cases it <;> first | rfl | (unfold notSet at h; cases h)
def plainT (e : Expr) : Bool := match e with
  | .UnaryOp .Not _ _ => false
  | .BoolOp .. => false
  | .IfExp .. => false
  | .Compare .. => false
  | _ => true
theorem plainT_ok {e : Expr} {env : PySem.Env} (h : plainT e = true) : ∀ whole, isTrue e env whole = (do let v ← whole; standAt e.pos; holding [v] (truthy v)) := by
  intro whole
  cases e <;> first
    | rfl
    | (unfold plainT at h; cases h)
    | (rename_i op x p
       cases op <;> first | rfl | (unfold plainT at h; cases h))
theorem pt_bool {X : Cx} {op : BoolOp} {vs : List Expr} {pos : Pos} {t : TT} (h : PT X (.BoolOp op vs pos) t) : PW X (.BoolOp op vs pos) t := ⟨fun w pins s σ H Q I q => by
  have e : isTrue (.BoolOp op vs pos) X.env w = isTrue (.BoolOp op vs pos) X.env (eval (.BoolOp op vs pos) X.env) := rfl
  rw [e]
  exact h.run pins s σ H Q I q⟩
theorem pt_ife {X : Cx} {c a b : Expr} {pos : Pos} {tc ta tb : TT} (hc : PT X c tc) (ha : PT X a ta) (hb : PT X b tb) : PT X (.IfExp c a b pos) (fun σ H Q => tc σ H fun d H1 => if d = true then ta σ H1 Q else tb σ H1 Q) := by
  refine ⟨fun pins s σ H Q I h => ?_⟩
  rw [arm_isTrue_IfExp]
  refine wpAny_bind (thn (hc.run pins s σ H _ I h) fun d s1 ⟨H1, I1, q1⟩ => ?_)
  cases d with
  | true => exact ha.run pins s1 σ H1 Q I1 q1
  | false => exact hb.run pins s1 σ H1 Q I1 q1
theorem rep_scalar {W : Wd} {S S' : Hp} {d : D} {v : V} (h : scalar d = true) (r : Rep W S d v) : Rep W S' d v := by
  cases d with
  | lst => cases h
  | tup => cases h
  | scr => cases h
  | non => rw [rep_non] at r ⊢; exact r
  | bl => rw [rep_bl] at r ⊢; exact r
  | int => rw [rep_int] at r ⊢; exact r
  | str => rw [rep_str] at r ⊢; exact r
  | ty => rw [rep_ty] at r ⊢; exact r
  | fn => rw [rep_fn] at r ⊢; exact r

section
variable {X : Cx} {xa : Nat → Addr} {E : XK} {Γ : Cfg} {k : Nat} {sc : Scope} {Z : Stt} {C : CT}
/-- the names, the constants -/
theorem e_var {i : Nat} {x : Str} {p : Pos} (cx : CxOk X Z.W xa E Γ k sc) (hs : slotC Γ sc i x = true) (ho : i ∉ Z.own) : PE X (.Name x p) (semE xa E Z C false (.var i)) := by
  unfold slotC at hs
  rw [Bool.and_eq_true, Bool.and_eq_true] at hs
  obtain ⟨⟨h1, h2⟩, h3⟩ := hs
  unfold okName at h3
  rw [Bool.and_eq_true, Bool.and_eq_true] at h3
  refine (pe_var (i := i) (by rw [cx.N]; exact of_decide_eq_true h1) (cx.vis x h2) (by simpa using h3.1.1) (by simpa using h3.1.2)).weak fun σ H Q h => ?_
  obtain ⟨S, env, R, f⟩ := h
  obtain ⟨d, e, f⟩ := Fin.lift (o := getE env i) f
  obtain ⟨v, h4, _, h5⟩ := R.sl i d e
  exact ⟨v, h4, f.ok R (Sub.refl S) (vx_of (h5 ho))⟩
theorem e_const {e : IE} {pe : Expr} {d : D} {v : V} (h : PE X pe (tC v)) (he : ∀ env, ev C e env = .ok d env) (hr : ∀ S, Rep Z.W S d v) : PE X pe (semE xa E Z C false e) := by
  refine h.weak fun σ H Q h => ?_
  obtain ⟨S, env, R, f⟩ := h
  rw [he] at f
  exact f.ok R (Sub.refl S) (vx_of (hr S))
theorem e_fn {g : Nat} {x : Str} {p : Pos} {f : Fn} (cx : CxOk X Z.W xa E Γ k sc) (hg : glC sc x = true) (hn : okName x = true) (hf : Γ.T[g]? = some f) (hx : f.name = x) (hm : f.msk = []) (hfr : f.fr = false) : PE X (.Name x p) (semE xa E Z C false (.fn g)) := by
  obtain ⟨fd, ps, F, m, kp, _⟩ := cx.fns g f hf
  unfold okName at hn
  rw [Bool.and_eq_true, Bool.and_eq_true] at hn
  exact e_const (pe_glob (v := .ref (Z.W.fa g)) (cx.glo x hg) (by rw [← hx]; exact m) rfl (by simpa using hn.1.1)) (fun _ => rfl) fun S => rep_fn.mpr ⟨rfl, cx.plc g f hf hm hfr⟩
/-- a test by its value -/
theorem t_val {e : IE} {pe : Expr} (h : PE X pe (semE xa E Z C false e)) (hp : plainT pe = true) : PT X pe (semT xa E Z C e) := by
  refine (pt_truth h (plainT_ok hp)).weak fun σ H Q q => ?_
  obtain ⟨S, env, R, f⟩ := q
  refine ⟨S, env, R, (Fin.bind f).post fun v H' q => ?_⟩
  obtain ⟨S1, env1, d, _, R1, hs, vx, f1⟩ := q
  obtain ⟨b, e1, f1⟩ := f1.lift
  exact ⟨b, tru_D R1.sub (vx_false vx) e1, f1.ok R1 (Sub.refl S1) rfl⟩
/-- with all lists shared -/
theorem scal_rel {σ : L2.St} {S H : Hp} {env : Env} (R : Rel Z σ S H env) : ∃ S', Sub S S' ∧ Rel ⟨Z.W, [], S', H, []⟩ σ S' H env := by
  classical
  let S' : Hp := fun b => if ∃ i, i ∈ Z.own ∧ getE env i ≠ none ∧ σ[i]? = some (some (.ref b)) then H b else S b
  have hs : Sub S S' := fun b o e => by
    show (if _ then H b else S b) = some o
    split
    · exact R.sub b o e
    · exact e
  refine ⟨S', hs, ⟨fun b o e => ?_, Sub.refl S', fun b o e _ => e, fun _ _ _ => rfl, fun i d e => ?_, fun i j a hi => by simp at hi, fun p hp => by simp at hp, R.ln, R.sz⟩⟩
  · have e : (if _ then H b else S b) = some o := e
    split at e
    · exact e
    · exact R.sub b o e
  · obtain ⟨v, h1, h2, h3⟩ := R.sl i d e
    refine ⟨v, h1, fun z => by simp at z, fun _ => ?_⟩
    by_cases ho : i ∈ Z.own
    · obtain ⟨a, ds, vs, rfl, rfl, e1, e2, r, _⟩ := h2 ho
      refine rep_lst.mpr ⟨a, vs, rfl, ?_, r.mono hs⟩
      show (if _ then H a else S a) = _
      rw [if_pos ⟨i, ho, (by rw [e]; exact fun q => (by cases q)), h1⟩]
      exact e1
    · exact (h3 ho).mono hs
theorem scal_exc {σ : L2.St} {S S' H : Hp} {env : Env} (R : Rel Z σ S H env) (hs : Sub S S') {k : Nat} {d : D} (h : Exs Z.W xa E Z k d) : Exs Z.W xa E ⟨Z.W, [], S', H, []⟩ k d := by
  intro v dx H' S2 h1 h2 h3 h4 h5
  refine h v dx H' S2 (R.s0.trans (hs.trans h1)) h2 (fun b o e hb => h3 b o (R.fr b o e fun p hp z => hb (List.mem_map.mpr ⟨p, hp, z⟩)) ?_) h4 h5
  simp
theorem scal_up {σ : L2.St} {S S' S2 H H' : Hp} {env env' : Env} (R : Rel Z σ S H env) (hs : Sub S S') (R2 : Rel ⟨Z.W, [], S', H, []⟩ σ S2 H' env') : Rel Z σ S H' env :=
  R.up (Sub.refl S) (hs.trans (R2.s0.trans R2.sub)) (fun b o e => R2.fr b o e fun p hp => by simp at hp) (fun _ _ _ => rfl) R2.sz
theorem e_scal {e : IE} {pe : Expr} (h : ∀ Z' : Stt, Z'.W = Z.W → Z'.own = [] → PE X pe (semE xa E Z' C false e)) : PE X pe (semE xa E Z C false (.scal e)) := by
  refine ⟨fun pins s σ H Q I q => ?_⟩
  obtain ⟨S, env, R, f⟩ := q
  obtain ⟨S', hs, R'⟩ := scal_rel R
  refine (h ⟨Z.W, [], S', H, []⟩ rfl rfl).run pins s σ H Q I ⟨S', env, R', ?_⟩
  have f : Fin (Exs Z.W xa E Z) Z σ S (Vx Z σ false) ((ev C e env).bind fun d _ => if scalar d then .ok d env else .bad) Q := f
  cases he : ev C e env with
  | ok d env' =>
    rw [he] at f
    have f : Fin (Exs Z.W xa E Z) Z σ S (Vx Z σ false) (if scalar d then .ok d env else .bad) Q := f
    split at f
    · rename_i hd
      intro b H' S2 R2 hs2 v
      have r : Rep Z.W S2 d b := v.2 fun q => (by cases q)
      exact f.ok (scal_up R hs R2) (Sub.refl S) (vx_of (rep_scalar hd r))
    · exact f.elim
  | exc k d => rw [he] at f; exact scal_exc R hs f
  | bad => rw [he] at f; exact f.elim
theorem t_scal {e : IE} {pe : Expr} (h : ∀ Z' : Stt, Z'.W = Z.W → Z'.own = [] → PT X pe (semT xa E Z' C e)) : PT X pe (semT xa E Z C (.scal e)) := by
  refine ⟨fun pins s σ H Q I q => ?_⟩
  obtain ⟨S, env, R, f⟩ := q
  obtain ⟨S', hs, R'⟩ := scal_rel R
  refine (h ⟨Z.W, [], S', H, []⟩ rfl rfl).run pins s σ H Q I ⟨S', env, R', ?_⟩
  have f : Fin (Exs Z.W xa E Z) Z σ S (Vb Z) (((ev C e env).bind fun d _ => if scalar d then .ok d env else .bad).bind fun x env1 => lift (truD x) env1) Q := f
  show Fin _ _ _ _ _ ((ev C e env).bind fun x env1 => lift (truD x) env1) Q
  cases he : ev C e env with
  | ok d env' =>
    rw [he] at f
    simp only [Res.bind_ok] at f ⊢
    split at f
    · rename_i hd
      simp only [Res.bind_ok] at f
      obtain ⟨t, e1, f⟩ := f.lift
      rw [e1]
      intro b H' S2 R2 hs2 v
      have v : t = b := v
      subst v
      exact f.ok (scal_up R hs R2) (Sub.refl S) rfl
    · exact f.elim
  | exc k d => rw [he] at f; exact scal_exc R hs f
  | bad => rw [he] at f; exact f.elim
/-- operators -/
theorem e_bin {op : Operator} {a b : IE} {l r : Expr} {p : Pos} {fr : Bool} (ha : PE X l (semE xa E Z C false a)) (hb : PE X r (semE xa E Z C false b)) : PE X (.BinOp l op r p) (semE xa E Z C fr (.bin op a b)) := by
  refine (pe_op (r := rU2 X (binaryOp op)) rU2_ok ha hb).weak fun σ H Q h => ?_
  obtain ⟨S, env, R, f⟩ := h
  refine ⟨S, env, R, (Fin.bind f).post fun x H1 q => ?_⟩
  obtain ⟨S1, env1, d1, _, R1, hs1, v1, f1⟩ := q
  refine ⟨S1, env1, R1, (Fin.bind f1).post fun y H2 q => ?_⟩
  obtain ⟨S2, env2, d2, _, R2, hs2, v2, f2⟩ := q
  obtain ⟨d, e, f2⟩ := f2.lift
  exact bin_ok R2.sub ((vx_false v1).mono hs2) (vx_false v2) e fun v H' m => mk_fin R2 f2 m
theorem e_neg {a : IE} {l : Expr} {p : Pos} (ha : PE X l (semE xa E Z C false a)) : PE X (.UnaryOp .USub l p) (semE xa E Z C false (.neg a)) := by
  refine (pe_un un_neg ha).weak fun σ H Q h => ?_
  obtain ⟨S, env, R, f⟩ := h
  refine ⟨S, env, R, (Fin.bind f).post fun x H1 q => ?_⟩
  obtain ⟨S1, env1, d1, _, R1, hs1, v1, f1⟩ := q
  obtain ⟨d, e, f1⟩ := f1.lift
  exact neg_ok (vx_false v1) e fun v H' m => mk_fin R1 f1 m
theorem e_not {a : IE} {l : Expr} {p : Pos} (ha : PE X l (semE xa E Z C false a)) : PE X (.UnaryOp .Not l p) (semE xa E Z C false (.not a)) := by
  refine (pe_notT ha).weak fun σ H Q h => ?_
  obtain ⟨S, env, R, f⟩ := h
  refine ⟨S, env, R, (Fin.bind f).post fun x H1 q => ?_⟩
  obtain ⟨S1, env1, d1, _, R1, hs1, v1, f1⟩ := q
  obtain ⟨d, e, f1⟩ := f1.lift
  cases ht : truD d1 with
  | none => rw [ht] at e; cases e
  | some t =>
    rw [ht] at e
    cases e
    exact ⟨t, tru_D R1.sub (vx_false v1) ht, f1.ok R1 (Sub.refl _) (vx_of (rep_bl.mpr rfl))⟩
theorem t_not {a : IE} {l : Expr} {p : Pos} (ha : PT X l (semT xa E Z C a)) : PT X (.UnaryOp .Not l p) (semT xa E Z C (.not a)) := by
  refine (pt_not ha).weak fun σ H Q h => ?_
  obtain ⟨S, env, R, f⟩ := h
  refine ⟨S, env, R, ?_⟩
  have f : Fin (Exs Z.W xa E Z) Z σ S (Vb Z) (((ev C a env).bind fun x env1 => lift ((truD x).map fun b => .bl (!b)) env1).bind fun x env1 => lift (truD x) env1) Q := f
  show Fin _ _ _ _ _ ((ev C a env).bind fun x env1 => lift (truD x) env1) _
  cases he : ev C a env with
  | ok d env1 =>
    rw [he] at f
    simp only [Res.bind_ok] at f ⊢
    cases ht : truD d with
    | none => rw [ht] at f; exact f.elim
    | some t =>
      rw [ht] at f
      intro b H' S' R' hs v
      have v : t = b := v
      subst v
      exact f (!t) H' S' R' hs rfl
  | exc k d => rw [he] at f; exact f
  | bad => rw [he] at f; exact f
theorem tru_and {x : D} {r1 r2 : Res D} {α : Type} (f : D → Env → Res α) : (match truD x with
    | some true => r1
    | some false => r2
    | none => (.bad : Res D)).bind f = match truD x with
    | some true => r1.bind f
    | some false => r2.bind f
    | none => .bad := by cases truD x with
  | none => rfl
  | some t => cases t <;> rfl
/-- and, or: the rest is one expression or again a chain -/
theorem e_and {a b : IE} {x y : Expr} {r : List Expr} {p : Pos} (ha : PE X x (semE xa E Z C false a)) (hb : PE X (.BoolOp .And (y :: r) p) (semE xa E Z C false b)) : PE X (.BoolOp .And (x :: y :: r) p) (semE xa E Z C false (.and a b)) := by
  refine (pe_andT ha hb).weak fun σ H Q h => ?_
  obtain ⟨S, env, R, f⟩ := h
  refine ⟨S, env, R, (Fin.bind f).post fun x H1 q => ?_⟩
  obtain ⟨S1, env1, d1, _, R1, hs1, v1, f1⟩ := q
  cases ht : truD d1 with
  | none => rw [ht] at f1; exact f1.elim
  | some t =>
    rw [ht] at f1
    refine ⟨t, tru_D R1.sub (vx_false v1) ht, ?_⟩
    cases t with
    | true => rw [if_pos rfl]; exact ⟨S1, env1, R1, f1⟩
    | false => rw [if_neg Bool.false_ne_true]; exact f1.ok R1 (Sub.refl _) v1
theorem e_or {a b : IE} {x y : Expr} {r : List Expr} {p : Pos} (ha : PE X x (semE xa E Z C false a)) (hb : PE X (.BoolOp .Or (y :: r) p) (semE xa E Z C false b)) : PE X (.BoolOp .Or (x :: y :: r) p) (semE xa E Z C false (.or a b)) := by
  refine (pe_orT ha hb).weak fun σ H Q h => ?_
  obtain ⟨S, env, R, f⟩ := h
  refine ⟨S, env, R, (Fin.bind f).post fun x H1 q => ?_⟩
  obtain ⟨S1, env1, d1, _, R1, hs1, v1, f1⟩ := q
  cases ht : truD d1 with
  | none => rw [ht] at f1; exact f1.elim
  | some t =>
    rw [ht] at f1
    refine ⟨t, tru_D R1.sub (vx_false v1) ht, ?_⟩
    cases t with
    | true => rw [if_pos rfl]; exact f1.ok R1 (Sub.refl _) v1
    | false => rw [if_neg Bool.false_ne_true]; exact ⟨S1, env1, R1, f1⟩
theorem evb_and (a b : IE) (env : Env) : evb C (.and a b) env = (evb C a env).bind fun t env1 => if t = true then evb C b env1 else .ok false env1 := by
  show ((ev C a env).bind _).bind _ = ((ev C a env).bind _).bind _
  cases ev C a env with
  | ok d env1 =>
    simp only [Res.bind_ok]
    cases ht : truD d with
    | none => rfl
    | some t =>
      cases t with
      | true => rfl
      | false => simp [ht]
  | exc k d => rfl
  | bad => rfl
theorem evb_or (a b : IE) (env : Env) : evb C (.or a b) env = (evb C a env).bind fun t env1 => if t = true then .ok true env1 else evb C b env1 := by
  show ((ev C a env).bind _).bind _ = ((ev C a env).bind _).bind _
  cases ev C a env with
  | ok d env1 =>
    simp only [Res.bind_ok]
    cases ht : truD d with
    | none => rfl
    | some t =>
      cases t with
      | true => simp [ht]
      | false => rfl
  | exc k d => rfl
  | bad => rfl
theorem evb_ife (c a b : IE) (env : Env) : evb C (.ife c a b) env = (evb C c env).bind fun t env1 => if t = true then evb C a env1 else evb C b env1 := by
  show ((ev C c env).bind _).bind _ = ((ev C c env).bind _).bind _
  cases ev C c env with
  | ok d env1 =>
    simp only [Res.bind_ok]
    cases ht : truD d with
    | none => rfl
    | some t => cases t <;> rfl
  | exc k d => rfl
  | bad => rfl
theorem t_and {a b : IE} {x y : Expr} {r : List Expr} {p : Pos} (ha : PT X x (semT xa E Z C a)) (hb : PW X (.BoolOp .And (y :: r) p) (semT xa E Z C b)) : PT X (.BoolOp .And (x :: y :: r) p) (semT xa E Z C (.and a b)) := by
  refine (pw_and ha hb).pt.weak fun σ H Q h => ?_
  obtain ⟨S, env, R, f⟩ := h
  rw [evb_and] at f
  refine ⟨S, env, R, (Fin.bind f).post fun t H1 q => ?_⟩
  obtain ⟨S1, env1, t1, _, R1, hs1, v1, f1⟩ := q
  have v1 : t1 = t := v1
  subst v1
  cases t1 with
  | true => rw [if_pos rfl] at f1 ⊢; exact ⟨S1, env1, R1, f1⟩
  | false => rw [if_neg Bool.false_ne_true] at f1 ⊢; exact f1.ok R1 (Sub.refl _) rfl
theorem t_or {a b : IE} {x y : Expr} {r : List Expr} {p : Pos} (ha : PT X x (semT xa E Z C a)) (hb : PW X (.BoolOp .Or (y :: r) p) (semT xa E Z C b)) : PT X (.BoolOp .Or (x :: y :: r) p) (semT xa E Z C (.or a b)) := by
  refine (pw_or ha hb).pt.weak fun σ H Q h => ?_
  obtain ⟨S, env, R, f⟩ := h
  rw [evb_or] at f
  refine ⟨S, env, R, (Fin.bind f).post fun t H1 q => ?_⟩
  obtain ⟨S1, env1, t1, _, R1, hs1, v1, f1⟩ := q
  have v1 : t1 = t := v1
  subst v1
  cases t1 with
  | true => rw [if_pos rfl] at f1 ⊢; exact f1.ok R1 (Sub.refl _) rfl
  | false => rw [if_neg Bool.false_ne_true] at f1 ⊢; exact ⟨S1, env1, R1, f1⟩
theorem e_ife {c a b : IE} {t x y : Expr} {p : Pos} {fr : Bool} (hc : PT X t (semT xa E Z C c)) (ha : PE X x (semE xa E Z C fr a)) (hb : PE X y (semE xa E Z C fr b)) : PE X (.IfExp t x y p) (semE xa E Z C fr (.ife c a b)) := by
  refine (pe_ifExp hc ha hb).weak fun σ H Q h => ?_
  obtain ⟨S, env, R, f⟩ := h
  have e : ev C (.ife c a b) env = (evb C c env).bind fun t env1 => if t = true then ev C a env1 else ev C b env1 := by
    show (ev C c env).bind _ = ((ev C c env).bind _).bind _
    cases ev C c env with
    | ok d env1 =>
      simp only [Res.bind_ok]
      cases ht : truD d with
      | none => rfl
      | some t => cases t <;> rfl
    | exc k d => rfl
    | bad => rfl
  rw [e] at f
  refine ⟨S, env, R, (Fin.bind f).post fun t H1 q => ?_⟩
  obtain ⟨S1, env1, t1, _, R1, hs1, v1, f1⟩ := q
  have v1 : t1 = t := v1
  subst v1
  cases t1 with
  | true => rw [if_pos rfl] at f1 ⊢; exact ⟨S1, env1, R1, f1⟩
  | false => rw [if_neg Bool.false_ne_true] at f1 ⊢; exact ⟨S1, env1, R1, f1⟩
theorem t_ife {c a b : IE} {t x y : Expr} {p : Pos} (hc : PT X t (semT xa E Z C c)) (ha : PT X x (semT xa E Z C a)) (hb : PT X y (semT xa E Z C b)) : PT X (.IfExp t x y p) (semT xa E Z C (.ife c a b)) := by
  refine (pt_ife hc ha hb).weak fun σ H Q h => ?_
  obtain ⟨S, env, R, f⟩ := h
  rw [evb_ife] at f
  refine ⟨S, env, R, (Fin.bind f).post fun t H1 q => ?_⟩
  obtain ⟨S1, env1, t1, _, R1, hs1, v1, f1⟩ := q
  have v1 : t1 = t := v1
  subst v1
  cases t1 with
  | true => rw [if_pos rfl] at f1 ⊢; exact ⟨S1, env1, R1, f1⟩
  | false => rw [if_neg Bool.false_ne_true] at f1 ⊢; exact ⟨S1, env1, R1, f1⟩
/-- comparisons -/
theorem cmp_step {op : CmpOp} {a b : IE} {σ : L2.St} {H : Hp} {Q : VK} (cx : CxOk X Z.W xa E Γ k sc) (h : semE xa E Z C false (.cmp op a b) σ H Q) : tOp (rU2 X (compareOp op)) (semE xa E Z C false a) (semE xa E Z C false b) σ H Q := by
  obtain ⟨S, env, R, f⟩ := h
  refine ⟨S, env, R, (Fin.bind f).post fun x H1 q => ?_⟩
  obtain ⟨S1, env1, d1, _, R1, hs1, v1, f1⟩ := q
  refine ⟨S1, env1, R1, (Fin.bind f1).post fun y H2 q => ?_⟩
  obtain ⟨S2, env2, d2, _, R2, hs2, v2, f2⟩ := q
  obtain ⟨d, e, f2⟩ := f2.lift
  cases hc : cmpD op d1 d2 with
  | none => rw [hc] at e; cases e
  | some t =>
    rw [hc] at e
    cases e
    exact cmp_ok cx.K (by have := cx.room.un; omega) R2.sub ((vx_false v1).mono hs2) (vx_false v2) hc (f2.ok R2 (Sub.refl _) (vx_of (rep_bl.mpr rfl)))
theorem e_cmp {op : CmpOp} {a b : IE} {l r : Expr} {p : Pos} (cx : CxOk X Z.W xa E Γ k sc) (ha : PE X l (semE xa E Z C false a)) (hb : PE X r (semE xa E Z C false b)) (hm : behindInMarks op r = false) : PE X (.Compare l [op] [r] p) (semE xa E Z C false (.cmp op a b)) :=
  (pe_cmpR (r := rU2 X (compareOp op)) rU2_ok ha hb hm).weak fun σ H Q h => cmp_step cx h
/-- a value that is True or False, as a test -/
theorem t_of_bl {e : IE} {σ : L2.St} {H : Hp} {Q : Bool → Hp → Prop} (hb : ∀ env d env', ev C e env = .ok d env' → ∃ t, d = .bl t) (h : semT xa E Z C e σ H Q) : semE xa E Z C false e σ H fun x H' => ∃ k, x = .bl k ∧ Q k H' := by
  obtain ⟨S, env, R, f⟩ := h
  refine ⟨S, env, R, (Fin.bind (V1 := Vx Z σ false) f).imp fun d env' b H' S' e1 R' hs v k => ?_⟩
  obtain ⟨S1, env1, d1, e2, R1, hs1, v1, f1⟩ := k b H' S' R' hs v
  obtain ⟨t, rfl⟩ := hb _ _ _ e2
  have r := vx_false v1
  rw [rep_bl] at r
  subst r
  obtain ⟨t', e3, f1⟩ := f1.lift
  cases e3
  exact ⟨t, rfl, f1.ok R1 (Sub.refl _) rfl⟩
theorem cmp_bl {op : CmpOp} {a b : IE} : ∀ env d env', ev C (.cmp op a b) env = .ok d env' → ∃ t, d = .bl t := fun env d env' h => by
  have h : (ev C a env).bind (fun x env1 => (ev C b env1).bind fun y env2 => lift ((cmpD op x y).map D.bl) env2) = .ok d env' := h
  cases e1 : ev C a env with
  | ok x env1 =>
    rw [e1] at h
    simp only [Res.bind_ok] at h
    cases e2 : ev C b env1 with
    | ok y env2 =>
      rw [e2] at h
      simp only [Res.bind_ok] at h
      cases e3 : cmpD op x y with
      | none => rw [e3] at h; cases h
      | some t => rw [e3] at h; cases h; exact ⟨t, rfl⟩
    | exc k d => rw [e2] at h; cases h
    | bad => rw [e2] at h; cases h
  | exc k d => rw [e1] at h; cases h
  | bad => rw [e1] at h; cases h
theorem t_cmp {op : CmpOp} {a b : IE} {l r : Expr} {p : Pos} (cx : CxOk X Z.W xa E Γ k sc) (ha : PE X l (semE xa E Z C false a)) (hb : PE X r (semE xa E Z C false b)) (hm : behindInMarks op r = false) : PT X (.Compare l [op] [r] p) (semT xa E Z C (.cmp op a b)) :=
  (pt_cmpR (r := rU2 X (compareOp op)) rU2_ok ha hb hm).weak fun σ H Q h => cmp_step cx (t_of_bl cmp_bl h)
theorem chn_step {o1 o2 : CmpOp} {a b c : IE} {σ : L2.St} {H : Hp} {Q : VK} (cx : CxOk X Z.W xa E Γ k sc) (h : semE xa E Z C false (.chn o1 o2 a b c) σ H Q) :
    tChain (rU2 X (compareOp o1)) (rU2 X (compareOp o2)) (semE xa E Z C false a) (semE xa E Z C false b) (semE xa E Z C false c) σ H Q := by
  obtain ⟨S, env, R, f⟩ := h
  have hu : X.A.units + 65 < cLine := by have := cx.room.un; omega
  refine ⟨S, env, R, (Fin.bind f).post fun x H1 q => ?_⟩
  obtain ⟨S1, env1, d1, _, R1, hs1, v1, f1⟩ := q
  refine ⟨S1, env1, R1, (Fin.bind f1).post fun y H2 q => ?_⟩
  obtain ⟨S2, env2, d2, _, R2, hs2, v2, f2⟩ := q
  cases hc : cmpD o1 d1 d2 with
  | none => rw [hc] at f2; exact f2.elim
  | some t =>
    rw [hc] at f2
    refine cmp_ok cx.K hu R2.sub ((vx_false v1).mono hs2) (vx_false v2) hc ⟨t, rfl, ?_⟩
    cases t with
    | false => rw [if_neg Bool.false_ne_true]; exact f2.ok R2 (Sub.refl _) (vx_of (rep_bl.mpr rfl))
    | true =>
      rw [if_pos rfl]
      refine ⟨S2, env2, R2, (Fin.bind f2).post fun z H3 q => ?_⟩
      obtain ⟨S3, env3, d3, _, R3, hs3, v3, f3⟩ := q
      obtain ⟨d, e, f3⟩ := f3.lift
      cases hc2 : cmpD o2 d2 d3 with
      | none => rw [hc2] at e; cases e
      | some t2 =>
        rw [hc2] at e
        cases e
        exact cmp_ok cx.K hu R3.sub ((vx_false v2).mono hs3) (vx_false v3) hc2 (f3.ok R3 (Sub.refl _) (vx_of (rep_bl.mpr rfl)))
theorem e_chn {o1 o2 : CmpOp} {a b c : IE} {l r1 r2 : Expr} {p : Pos} (cx : CxOk X Z.W xa E Γ k sc) (ha : PE X l (semE xa E Z C false a)) (hb : PE X r1 (semE xa E Z C false b)) (hc : PE X r2 (semE xa E Z C false c)) (hm : lastMarks [o1, o2] [r1, r2] = false) :
    PE X (.Compare l [o1, o2] [r1, r2] p) (semE xa E Z C false (.chn o1 o2 a b c)) :=
  (pe_chain (r := rU2 X (compareOp o1)) (r' := rU2 X (compareOp o2)) rU2_ok rU2_ok ha hb hc hm).weak fun σ H Q h => chn_step cx h
theorem chn_bl {o1 o2 : CmpOp} {a b c : IE} : ∀ env d env', ev C (.chn o1 o2 a b c) env = .ok d env' → ∃ t, d = .bl t := fun env d env' h => by
  have h : (ev C a env).bind (fun x env1 => (ev C b env1).bind fun y env2 => match cmpD o1 x y with
    | some true => (ev C c env2).bind fun z env3 => lift ((cmpD o2 y z).map D.bl) env3
    | some false => .ok (.bl false) env2
    | none => .bad) = .ok d env' := h
  cases e1 : ev C a env with
  | ok x env1 =>
    rw [e1] at h
    simp only [Res.bind_ok] at h
    cases e2 : ev C b env1 with
    | ok y env2 =>
      rw [e2] at h
      simp only [Res.bind_ok] at h
      cases e3 : cmpD o1 x y with
      | none => rw [e3] at h; cases h
      | some t =>
        rw [e3] at h
        cases t with
        | false => cases h; exact ⟨false, rfl⟩
        | true =>
          simp only at h
          cases e4 : ev C c env2 with
          | ok z env3 =>
            rw [e4] at h
            simp only [Res.bind_ok] at h
            cases e5 : cmpD o2 y z with
            | none => rw [e5] at h; cases h
            | some t => rw [e5] at h; cases h; exact ⟨t, rfl⟩
          | exc k d => rw [e4] at h; cases h
          | bad => rw [e4] at h; cases h
    | exc k d => rw [e2] at h; cases h
    | bad => rw [e2] at h; cases h
  | exc k d => rw [e1] at h; cases h
  | bad => rw [e1] at h; cases h
theorem t_chn {o1 o2 : CmpOp} {a b c : IE} {l r1 r2 : Expr} {p : Pos} (cx : CxOk X Z.W xa E Γ k sc) (ha : PE X l (semE xa E Z C false a)) (hb : PE X r1 (semE xa E Z C false b)) (hc : PE X r2 (semE xa E Z C false c)) (hm : lastMarks [o1, o2] [r1, r2] = false) :
    PT X (.Compare l [o1, o2] [r1, r2] p) (semT xa E Z C (.chn o1 o2 a b c)) :=
  (pt_chain (r := rU2 X (compareOp o1)) (r' := rU2 X (compareOp o2)) rU2_ok rU2_ok ha hb hc hm).weak fun σ H Q h => chn_step cx (t_of_bl chn_bl h)
/-- displays -/
theorem e_lst {es : IEs} {xs : List Expr} {p : Pos} {fr : Bool} (ha : PA X xs (semA xa E Z C es)) (hn : noOwn es.owns = true) : PE X (.List xs p) (semE xa E Z C fr (.lst es)) := by
  refine (pe_lst ha).weak fun σ H Q h => ?_
  obtain ⟨S, env, R, f⟩ := h
  refine ⟨S, env, R, (Fin.bind f).post fun vs H1 q => ?_⟩
  obtain ⟨S1, env1, ds, _, R1, hs1, v1, f1⟩ := q
  have r := ARs.none v1 hn
  split at f1
  · rename_i hz
    rw [r.length] at hz
    exact ⟨hz, fun t ht => mk_fin R1 f1 (.lst t ht r hz)⟩
  · exact f1.elim
theorem e_tup {es : IEs} {xs : List Expr} {p : Pos} {kk : Nat} (ha : PA X xs (semA xa E Z C es)) (hn : noOwn es.owns = true) : PE X (.Tuple xs kk p) (semE xa E Z C false (.tup es)) := by
  refine (pe_tup ha).weak fun σ H Q h => ?_
  obtain ⟨S, env, R, f⟩ := h
  refine ⟨S, env, R, (Fin.bind f).post fun vs H1 q => ?_⟩
  obtain ⟨S1, env1, ds, _, R1, hs1, v1, f1⟩ := q
  have r := ARs.none v1 hn
  split at f1
  · rename_i hz
    rw [r.length] at hz
    exact ⟨hz, fun t ht => mk_fin R1 f1 (.tup t ht r hz)⟩
  · exact f1.elim
theorem e_idx {a b : IE} {l r : Expr} {p : Pos} (cx : CxOk X Z.W xa E Γ k sc) (ha : PE X l (semE xa E Z C false a)) (hb : PE X r (semE xa E Z C false b)) (hp : plainIx r = true) : PE X (.Subscript l r p) (semE xa E Z C false (.idx a b)) := by
  refine (pe_ix (r := rUx X) rUx_ok ha hb (plain_ix hp)).weak fun σ H Q h => ?_
  obtain ⟨S, env, R, f⟩ := h
  refine ⟨S, env, R, (Fin.bind f).post fun x H1 q => ?_⟩
  obtain ⟨S1, env1, d1, _, R1, hs1, v1, f1⟩ := q
  refine ⟨S1, env1, R1, (Fin.bind f1).post fun y H2 q => ?_⟩
  obtain ⟨S2, env2, d2, _, R2, hs2, v2, f2⟩ := q
  obtain ⟨d, e, f2⟩ := f2.lift
  exact idx_ok cx.K R2.sub ((vx_false v1).mono hs2) (vx_false v2) e fun v r => f2.ok R2 (Sub.refl _) (vx_of r)
theorem slot_own {i : Nat} {x : Str} {p : Pos} (cx : CxOk X Z.W xa E Γ k sc) (hs : slotC Γ sc i x = true) : PE X (.Name x p) (tVar i) := by
  unfold slotC at hs
  rw [Bool.and_eq_true, Bool.and_eq_true] at hs
  obtain ⟨⟨h1, h2⟩, h3⟩ := hs
  unfold okName at h3
  rw [Bool.and_eq_true, Bool.and_eq_true] at h3
  exact pe_var (i := i) (by rw [cx.N]; exact of_decide_eq_true h1) (cx.vis x h2) (by simpa using h3.1.1) (by simpa using h3.1.2)
/-- an item of a list of one's own -/
theorem e_idxo {i : Nat} {b : IE} {x : Str} {r : Expr} {p p2 : Pos} (cx : CxOk X Z.W xa E Γ k sc) (hi : i ∈ Z.own) (hs : slotC Γ sc i x = true) (hb : PE X r (semE xa E Z C false b)) (hp : plainIx r = true) : PE X (.Subscript (.Name x p2) r p) (semE xa E Z C false (.idxo i b)) := by
  refine (pe_ix (r := rUx X) rUx_ok (slot_own cx hs) hb (plain_ix hp)).weak fun σ H Q h => ?_
  obtain ⟨S, env, R, f⟩ := h
  unfold ev at f
  split at f
  · exact f.elim
  · rename_i d0 e0
    obtain ⟨a, ds0, vs0, rfl, s1, _⟩ := R.owned hi e0
    refine ⟨.ref a, s1, S, env, R, (Fin.bind f).post fun y H1 q => ?_⟩
    obtain ⟨S1, env1, d1, _, R1, hs1, v1, f1⟩ := q
    obtain ⟨d, e, f2⟩ := f1.lift
    cases e1 : getE env1 i with
    | none => rw [e1] at e; cases e
    | some d2 =>
      rw [e1] at e
      have e : idxD d2 d1 = some d := e
      obtain ⟨c, ds, vs, rfl, s2, hH, _, rs, _⟩ := R1.owned hi e1
      rw [s1] at s2
      cases s2
      have v1 := vx_false v1
      cases d1 with
      | int z =>
        have e : atI ds z = some d := e
        rw [rep_int] at v1
        subst v1
        obtain ⟨v, h1, h2⟩ := rep_atI rs e
        exact ⟨_, ix_list, a, vs, _, v, rfl, rfl, SqL.of hH, h1, f2.ok R1 (Sub.refl _) (vx_of h2)⟩
      | _ => cases e
theorem e_sl {a : IE} {lo hi : IO} {l : Expr} {u1 u2 : Option Expr} {p p2 : Pos} {fr : Bool} (cx : CxOk X Z.W xa E Γ k sc) (ha : PE X l (semE xa E Z C false a)) (h1 : PO X u1 (semO xa E Z C lo)) (h2 : PO X u2 (semO xa E Z C hi)) : PE X (.Subscript l (.Slice u1 u2 none p2) p) (semE xa E Z C fr (.sl a lo hi)) := by
  refine (pe_slice (r := rUs X) rUs_ok ha h1 h2).weak fun σ H Q h => ?_
  obtain ⟨S, env, R, f⟩ := h
  refine ⟨S, env, R, (Fin.bind f).post fun x H1 q => ?_⟩
  obtain ⟨S1, env1, d1, _, R1, hs1, v1, f1⟩ := q
  refine ⟨S1, env1, R1, (Fin.bind f1).post fun i H2 q => ?_⟩
  obtain ⟨S2, env2, d2, _, R2, hs2, v2, f2⟩ := q
  have v2 : d2 = i := v2
  subst v2
  refine ⟨S2, env2, R2, (Fin.bind f2).post fun j H3 q => ?_⟩
  obtain ⟨S3, env3, d3, _, R3, hs3, v3, f3⟩ := q
  have v3 : d3 = j := v3
  subst v3
  obtain ⟨d, e, f3⟩ := f3.lift
  exact sl_ok cx.K R3.sz.two R3.sub ((vx_false v1).mono (hs2.trans hs3)) e fun v H' m => mk_fin R3 f3 m
theorem o_none : PO X none (semO xa E Z C .none) := by
  refine ⟨fun pins s σ H Q I h => po_none.run pins s σ H Q I ?_⟩
  obtain ⟨S, env, R, f⟩ := h
  exact Fin.ok (a := (none : Option Int)) f R (Sub.refl S) rfl
theorem o_some {e : IE} {x : Expr} (ha : PE X x (semE xa E Z C false e)) : PO X (some x) (semO xa E Z C (.some e)) := by
  refine ⟨fun pins s σ H Q I h => (po_some ha).run pins s σ H Q I ?_⟩
  obtain ⟨S, env, R, f⟩ := h
  refine ⟨S, env, R, (Fin.bind f).post fun v H1 q => ?_⟩
  obtain ⟨S1, env1, d1, _, R1, hs1, v1, f1⟩ := q
  cases d1 with
  | int i =>
    have r := vx_false v1
    rw [rep_int] at r
    exact ⟨i, r, Fin.ok (a := some i) f1 R1 (Sub.refl _) rfl⟩
  | _ => exact f1.elim
/-- built-ins -/
theorem boot_name (b : BI) : bootBuiltins (biName b) = some (biV b) := by
  cases b <;> decide +kernel
theorem e_bi {b : BI} {es : IEs} {y : Expr} {ys : List Expr} {p pos : Pos} {fr : Bool} (cx : CxOk X Z.W xa E Γ k sc) (hg : glC sc (biName b) = true) (hy : notStar y = true) (hys : ys.all notStar = true) (ha : PA X (y :: ys) (semA xa E Z C es)) (hn : noOwn es.owns = true) :
    PE X (.Call (.Name (biName b) p) (y :: ys) [] pos) (semE xa E Z C fr (.bi b es)) := by
  have hm : X.mg (biName b) = none := cx.bl _ (by cases b <;> decide)
  have he : starEach (y :: ys) X.env = (false, eval y X.env) :: starEach ys X.env := notStar_each (env := fun X => X.env) hy
  have hpl : (backTo pos (starEach ys X.env)).any (·.1) = false := by
    have key : ∀ l : List Expr, l.all notStar = true → (backTo pos (starEach l X.env)).any (·.1) = false := by
      intro l
      induction l with
      | nil => intro _; rfl
      | cons x xs ih =>
        intro h
        rw [List.all_cons, Bool.and_eq_true] at h
        rw [notStar_each (env := fun X => X.env) h.1]
        show (false || (backTo pos (starEach xs X.env)).any (·.1)) = false
        rw [ih h.2]
        rfl
    exact key ys hys
  have step : ∀ σ H Q, semE xa E Z C fr (.bi b es) σ H Q → tCB (rUc X (biV b)) (semA xa E Z C es) σ H Q := fun σ H Q h => by
    obtain ⟨S, env, R, f⟩ := h
    refine ⟨S, env, R, (Fin.bind f).post fun vs H1 q => ?_⟩
    obtain ⟨S1, env1, ds, _, R1, hs1, v1, f1⟩ := q
    obtain ⟨d, e, f1⟩ := f1.lift
    exact bi_ok cx.K cx.calm R1.sz.two R1.sub (ARs.none v1 hn) e fun v H' m => mk_fin R1 f1 m
  have hb := boot_name b
  have hne : biName b ≠ ("__name__" : Str) := by cases b <;> decide
  have hdb : (biName b == ("__debug__" : Str)) = false := by cases b <;> decide
  have callB : ∀ id, biV b = .builtin id → PE X (.Call (.Name (biName b) p) (y :: ys) [] pos) (semE xa E Z C fr (.bi b es)) := fun id e =>
    (pe_callB (r := rUc X (biV b)) (by rw [e]; exact rUc_ok) (cx.glo _ hg) hm (by rw [hb, e]) ha hne hdb he hpl).weak step
  have callT : ∀ T, biV b = .type T → PE X (.Call (.Name (biName b) p) (y :: ys) [] pos) (semE xa E Z C fr (.bi b es)) := fun id e =>
    (pe_callTy (r := rUc X (biV b)) (by rw [e]; exact rUc_ok) (cx.glo _ hg) hm (by rw [hb, e]) ha hne hdb he hpl).weak step
  cases b <;> first | exact callB _ rfl | exact callT _ rfl
theorem e_bits {a : IE} {o : Expr} {ap p : Pos} (ha : PE X o (semE xa E Z C false a)) (hb : isBase o = true) (hl : (ap.endLine == p.line) = true) : PE X (.Call (.Attribute o "bit_length" ap) [] [] p) (semE xa E Z C false (.bits a)) := by
  refine (pe_bits ha (base_ok hb) hl).weak fun σ H Q h => ?_
  obtain ⟨S, env, R, f⟩ := h
  refine ⟨S, env, R, (Fin.bind f).post fun x H1 q => ?_⟩
  obtain ⟨S1, env1, d1, _, R1, hs1, v1, f1⟩ := q
  cases d1 with
  | int i =>
    have r := vx_false v1
    rw [rep_int] at r
    exact ⟨i, r, Fin.ok (a := D.int (Builtin.Int.intBits i : Nat)) f1 R1 (Sub.refl _) (vx_of (rep_int.mpr rfl))⟩
  | _ => exact f1.elim
end
end VI
/-! VIf: calls, walks, comprehensions. -/
namespace VI
open PySem PySem.Spec PyProof.Rows L2

/-! ### a body within a body: the frame by the heap as it stands -/
section
variable {Z : Stt} {σ : L2.St} {S S' H H' : Hp} {env env' : Env}
def ownP (own : List Nat) (σ : L2.St) (env : Env) : List (Nat × Addr) := own.filterMap fun i => match getE env i, σ[i]? with
  | some _, some (some (.ref a)) => some (i, a)
  | _, _ => none
theorem mem_ownP {own : List Nat} {p : Nat × Addr} : p ∈ ownP own σ env ↔ p.1 ∈ own ∧ getE env p.1 ≠ none ∧ σ[p.1]? = some (some (.ref p.2)) := by
  unfold ownP
  rw [List.mem_filterMap]
  constructor
  · rintro ⟨i, hi, e⟩
    split at e
    · rename_i d a h1 h2
      cases e
      exact ⟨hi, (by rw [h1]; exact fun q => by cases q), h2⟩
    · cases e
  · rintro ⟨h1, h2, h3⟩
    refine ⟨p.1, h1, ?_⟩
    cases e : getE env p.1 with
    | none => exact absurd e h2
    | some d => rw [h3]
theorem Rel.enter (R : Rel Z σ S H env) : Rel ⟨Z.W, Z.own, S, H, ownP Z.own σ env⟩ σ S H env where
  sub := R.sub
  s0 := Sub.refl S
  fr := fun _ _ e _ => e
  gr := fun _ _ _ => rfl
  sl := fun i d e => by
    obtain ⟨v, h1, h2, h3⟩ := R.sl i d e
    refine ⟨v, h1, fun z => ?_, h3⟩
    obtain ⟨a, ds, vs, x1, rfl, x3, x4, x5, _⟩ := h2 z
    exact ⟨a, ds, vs, x1, rfl, x3, x4, x5, .inr ⟨(i, a), mem_ownP.mpr ⟨z, (by rw [e]; exact fun q => by cases q), h1⟩, rfl⟩⟩
  dj := R.dj
  pa := fun p hp => by
    obtain ⟨h1, h2, h3⟩ := mem_ownP.mp hp
    exact ⟨h1, h3, h2⟩
  ln := R.ln
  sz := R.sz
theorem Rel.leave {σ' : L2.St} {P : List (Nat × Addr)} (R : Rel Z σ S H env) (hP : P = ownP Z.own σ env) (R' : Rel ⟨Z.W, Z.own, S, H, P⟩ σ' S' H' env') (hσ : ∀ i, i ∈ Z.own → σ'[i]? = σ[i]?) : Rel Z σ' S' H' env' := by
  subst hP
  have own : ∀ {p : Nat × Addr}, p ∈ ownP Z.own σ env → (∃ vs, H p.2 = some (.lst vs)) ∧ (Z.H0 p.2 = none ∨ ∃ q ∈ Z.P, q.2 = p.2) := fun {p} hp => by
    obtain ⟨h1, h2, h3⟩ := mem_ownP.mp hp
    obtain ⟨x1, _, x3⟩ := R.ownSome h1 h2 h3
    exact ⟨x1, x3⟩
  refine ⟨R'.sub, R.s0.trans R'.s0, fun b o e q => R'.fr b o (R.fr b o e q) fun p hp z => ?_, fun b o e => ?_, fun i d e => ?_, R'.dj, fun p hp => ?_, R'.ln, R'.sz⟩
  · rcases (own hp).2 with x | ⟨r, hr, x⟩
    · rw [z] at x; rw [x] at e; cases e
    · exact q r hr (x.trans z)
  · by_cases q : ∀ p ∈ Z.P, p.2 ≠ b
    · have := R'.gr b o (R.fr b o e q)
      rw [this]; exact R.gr b o e
    · obtain ⟨p, hp, rfl⟩ : ∃ p ∈ Z.P, p.2 = b := Classical.byContradiction fun z => q fun p hp e => z ⟨p, hp, e⟩
      obtain ⟨a1, a2, a3⟩ := R.pa p hp
      obtain ⟨⟨ws, e2⟩, _⟩ := R.ownSome a1 a3 a2
      have := R'.gr _ _ e2
      rw [this]; exact R.gr _ o e
  · obtain ⟨v, h1, h2, h3⟩ := R'.sl i d e
    refine ⟨v, h1, fun z => ?_, h3⟩
    obtain ⟨a, ds, vs, x1, x2, x3, x4, x5, x6⟩ := h2 z
    refine ⟨a, ds, vs, x1, x2, x3, x4, x5, ?_⟩
    rcases x6 with x6 | ⟨p, hp, rfl⟩
    · exact .inl (R.h0 x6)
    · exact (own hp).2
  · obtain ⟨x1, x2, x3⟩ := R.pa p hp
    obtain ⟨y1, y2, y3⟩ := R'.pa p (mem_ownP.mpr ⟨x1, x3, x2⟩)
    exact ⟨x1, by rw [hσ _ x1]; exact x2, y3⟩
/-- an object that is neither shared nor a slot's is changed -/
theorem Rel.poke (R : Rel Z σ S H env) {p : Addr} {o : HO} (h0 : Z.H0 p = none) (hs : S p = none) (hn : ∀ i, i ∈ Z.own → getE env i ≠ none → σ[i]? ≠ some (some (.ref p))) (z : SzO o) : Rel Z σ S (upd H p o) env where
  sub := fun b u e => by rw [upd_ne (ne_of_none e hs)]; exact R.sub b u e
  s0 := R.s0
  fr := fun b u e q => by rw [upd_ne (ne_of_none e h0)]; exact R.fr b u e q
  gr := R.gr
  sl := fun i d e => by
    obtain ⟨v, h1, h2, h3⟩ := R.sl i d e
    refine ⟨v, h1, fun w => ?_, h3⟩
    obtain ⟨a, ds, vs, x1, rfl, x3, x⟩ := h2 w
    have ne : a ≠ p := by
      rintro rfl
      exact hn i w (by rw [e]; exact fun q => by cases q) h1
    exact ⟨a, ds, vs, x1, rfl, by rw [upd_ne ne]; exact x3, x⟩
  dj := R.dj
  pa := R.pa
  ln := R.ln
  sz := R.sz.upd z
end

/-! ### calls -/
section
variable {X : Cx} {xa : Nat → Addr} {E : XK} {Γ : Cfg} {k : Nat} {sc : Scope} {Z : Stt}
theorem cf_len {T : List Fn} {g : Nat} {f : Fn} {args : List D} (hf : T[g]? = some f) : ∀ k, (∀ z, CF T k g args = z → z ≠ .bad → args.length = f.np)
  | 0, z, e, h => absurd e.symm h
  | k + 1, z, e, h => by
    unfold CF at e
    rw [hf] at e
    simp only at e
    unfold runF at e
    split at e
    · assumption
    · exact absurd e.symm h
theorem run_g {g : Nat} {f : Fn} {pins : List (Addr × Obj)} {s : Shared} {σ : L2.St} {S H : Hp} {env : Env} {Q : VK} {args : Args} {us : List Value} {vs : List V} {os : List (Option Nat)} {ds : List D} {fd : FuncData} {ps : List Str}
    (cx : CxOk X Z.W xa E Γ k sc) (F : FnOk X.prog X.w X.K X.mg X.base (L2.CX X.prog X.w) k (Z.W.fa g) fd ps (spD Z.W xa f (CF Γ.T k g))) (hf : Γ.T[g]? = some f) (I : Inv X pins σ H s) (R : Rel Z σ S H env) (hm : mskOk f.msk os = true) (ho : ownsOk Z.own os = true) (ar : ARs Z.W σ S os ds vs) (rv : Vals vs us)
    (bt : us.length = f.np → BindsTo s fd args (ps.zip us)) (fin : Fin (Exs Z.W xa E Z) Z σ S (Vx Z σ f.fr) (callD (CF Γ.T k) g os ds env) Q) :
    wpAny (model X.prog X.w) X.A (call (.ref (Z.W.fa g)) args.pos args.kw) (EP X pins σ Q) X.xe s := by
  unfold ownsOk at ho
  rw [Bool.and_eq_true] at ho
  have ho1 : ∀ i ∈ os.filterMap id, i ∈ Z.own := fun i hi => of_decide_eq_true (List.all_eq_true.mp ho.1 i hi)
  have ho2 : (os.filterMap id).Nodup := of_decide_eq_true ho.2
  unfold callD at fin
  cases ea : argsAt os ds env with
  | none => rw [ea] at fin; exact fin.elim
  | some as =>
    rw [ea] at fin
    simp only at fin
    obtain ⟨ao, hp⟩ := args_ok R hm ho1 ar ea
    have hne : CF Γ.T k g as ≠ .bad := fun z => by rw [z] at fin; exact fin.elim
    have hlen : as.length = f.np := cf_len hf k _ rfl hne
    have hal : as.length = vs.length := by
      have key : ∀ {os : List (Option Nat)} {ds as : List D}, argsAt os ds env = some as → as.length = os.length := by
        intro os
        induction os with
        | nil => intro ds as e; cases ds <;> unfold argsAt at e <;> cases e; rfl
        | cons o os ih =>
          intro ds as e
          cases ds with
          | nil => cases o <;> unfold argsAt at e <;> cases e
          | cons d ds =>
            cases o with
            | none =>
              unfold argsAt at e
              cases q : argsAt os ds env with
              | none => rw [q] at e; cases e
              | some r => rw [q] at e; cases e; simp [ih q]
            | some i =>
              unfold argsAt at e
              split at e
              · rename_i q; cases e; simp [ih q]
              · cases e
      rw [key ea]
      exact ar.len.1
    have hvs : vs.length = f.np := by omega
    have mem : ∀ {a}, a ∈ ownAddrs f.msk vs → Z.H0 a = none ∨ ∃ p ∈ Z.P, p.2 = a := fun {a} ha => by
      obtain ⟨i, hi, h1, h2⟩ := Paired.mem_right hp ha
      exact (R.ownSome (ho1 i hi) h2 h1).2.2
    have sp : spD Z.W xa f (CF Γ.T k g) vs H Q E := by
      refine ⟨hvs, S, as, R.sub, R.sz, ao, own_nodup R ho1 ho2 hp, ?_⟩
      cases ec : CF Γ.T k g as with
      | bad => exact absurd ec hne
      | exc j d =>
        rw [ec] at fin
        intro v dx H' S' h1 h2 h3 h4 h5
        have fin : ExcOk Z.W xa E Z.S0 Z.H0 (Z.P.map (·.2)) j d := fin
        refine fin v dx H' S' (R.s0.trans h1) h2 (fun b o e hb => h3 b o (R.fr b o e fun p hp z => hb (List.mem_map.mpr ⟨p, hp, z⟩)) fun hm => ?_) h4 h5
        rcases mem hm with z | ⟨p, hp, z⟩
        · rw [z] at e; cases e
        · exact hb (List.mem_map.mpr ⟨p, hp, z⟩)
      | ret d outs =>
        rw [ec] at fin
        simp only at fin
        cases eo : outsAt os outs env with
        | none => rw [eo] at fin; exact fin.elim
        | some env' =>
          rw [eo] at fin
          intro v S' H' ro
          have R' := R.after ro hm ho1 ho2 ar.len.1 hp eo
          have ro' := ro
          obtain ⟨r1, r2, r3, r4, r5, r6, r7, r8⟩ := ro'
          refine fin.ok R' r1 ?_
          cases hfr : f.fr with
          | false => exact vx_of (r8 hfr)
          | true =>
            obtain ⟨p, es, ws, rfl, rfl, p1, p2, p3, p4⟩ := r7 hfr
            refine ⟨fun _ _ => ⟨p, es, ws, rfl, rfl, p2, p3, p4, R.h0 p1, fun i hi hv e => ?_⟩, fun z => by have z := z rfl; unfold isL at z; cases z⟩
            have hv' : getE env i ≠ none := by
              by_cases hio : i ∈ os.filterMap id
              · exact Paired.left_all hp i hio
              · obtain ⟨_, k2, _⟩ := outs_ok (σ := σ) hm ar.len.1 ho2 r6 (Paired.mapP hp fun x y z => ⟨z.1, getE_lt' z.2⟩) eo
                rw [k2 i hio] at hv
                exact hv
            exact R.apart p1 i hi hv' e
    have hus : us.length = f.np := by rw [← rv.length]; exact hvs
    refine wpAny_call (codeAny_mono (F.run X.A X.stack s H args us vs Q E cx.room I.env0 (bt hus) rv sp) fun r s' hq => ?_)
    cases r with
    | error e => exact passes_call cx.tk (fun _ _ _ _ h => h) pins σ H s e s' I hq
    | ok fl =>
      cases fl with
      | ret u => exact I.after hq
      | next => exact False.elim hq
      | brk => exact False.elim hq
      | cont => exact False.elim hq
theorem okName_dbg {x : Str} (h : okName x = true) : (x == ("__debug__" : Str)) = false := by
  unfold okName at h
  rw [Bool.and_eq_true, Bool.and_eq_true] at h
  simpa using h.1.1
theorem star_plain {X : Cx} {pos : Pos} : ∀ l : List Expr, l.all notStar = true → (backTo pos (starEach l X.env)).any (·.1) = false
  | [], _ => rfl
  | x :: xs, h => by
    rw [List.all_cons, Bool.and_eq_true] at h
    rw [notStar_each (env := fun X => X.env) h.1]
    show (false || (backTo pos (starEach xs X.env)).any (·.1)) = false
    rw [star_plain xs h.2]
    rfl
theorem e_call {g : Nat} {f : Fn} {es : IEs} {x : Str} {p pos : Pos} {y : Expr} {ys : List Expr} {fr : Bool} (cx : CxOk X Z.W xa E Γ k sc) (hf : Γ.T[g]? = some f) (hx : f.name = x) (hg : glC sc x = true) (hn : okName x = true) (hst : (y :: ys).all notStar = true) (hm : mskOk f.msk es.owns = true) (ho : ownsOk Z.own es.owns = true)
    (hfr : fr = true → f.fr = true) (ha : PA X (y :: ys) (semA xa E Z (CF Γ.T k) es)) : PE X (.Call (.Name x p) (y :: ys) [] pos) (semE xa E Z (CF Γ.T k) fr (.call g es)) := by
  rw [List.all_cons, Bool.and_eq_true] at hst
  obtain ⟨fd, ps, F, hmg, kp, hb, hps, _⟩ := cx.fns g f hf
  have key : PE X (.Call (.Name x p) (y :: ys) [] pos) (semE xa E Z (CF Γ.T k) f.fr (.call g es)) := by
    refine ⟨fun pins s σ H Q I h => ?_⟩
    obtain ⟨S, env, R, fin⟩ := h
    refine wpAny_Call_Name_kw (ld_glob I (cx.glo x hg) (by rw [← hx]; exact hmg) ?_ (okName_dbg hn))
    refine PySem.W.callWith_K (h₀ := X.base) I.ok.mod.kin kp (thn (ha.run pos pins s σ H _ I ⟨S, env, R, Fin.bind fin⟩) fun us s1 ⟨vs, H1, I1, r, q⟩ => ⟨I1.kIn, ?_⟩) (notStar_each (env := fun X => X.env) hst.1) (star_plain ys hst.2)
    obtain ⟨S1, env1, ds, _, R1, hs1, v1, f1⟩ := q
    refine run_g (args := ⟨us, []⟩) cx F hf I1 R1 hm ho v1 r (fun hl => ?_) f1
    have := hb s1 us I1.kIn (by rw [List.append_nil, hl, hps])
    rwa [List.append_nil] at this
  cases hff : f.fr with
  | true =>
    rw [hff] at key
    cases fr with
    | true => exact key
    | false => exact key.weak fun σ H Q ⟨S, env, R, q⟩ => ⟨S, env, R, fin_give q⟩
  | false =>
    rw [hff] at key
    cases fr with
    | false => exact key
    | true => exact absurd (hfr rfl) (by rw [hff]; exact Bool.false_ne_true)
theorem ars_none : ∀ {os : List (Option Nat)} {ds : List D} {vs : List V} {W : Wd} {σ : L2.St} {S : Hp}, noOwn os = true → os.length = ds.length → Reps W S ds vs → ARs W σ S os ds vs
  | [], [], _, _, _, _, _, _, r => by rw [reps_nil] at r; subst r; exact ⟨rfl, rfl⟩
  | some i :: os, _, _, _, _, _, h, _, _ => by unfold noOwn at h; simp at h
  | none :: os, d :: ds, _, _, _, _, h, hl, r => by
    unfold noOwn at h
    rw [List.all_cons, Bool.and_eq_true] at h
    rw [reps_cons] at r
    obtain ⟨v, q, rfl, x, y⟩ := r
    exact ⟨x, ars_none h.2 (by simpa using hl) y⟩
theorem msk_nil {os : List (Option Nat)} (h : noOwn os = true) : mskOk [] os = true := h
theorem owns_nil {own : List Nat} {os : List (Option Nat)} (h : noOwn os = true) : ownsOk own os = true := by
  have e0 : os.filterMap id = [] := by
    refine List.filterMap_eq_nil_iff.mpr fun o ho => ?_
    have := List.all_eq_true.mp h o ho
    cases o with
    | none => rfl
    | some i => simp at this
  unfold ownsOk
  rw [e0]
  simp
theorem e_callv {i : Nat} {es : IEs} {x : Str} {p pos : Pos} {y : Expr} {ys : List Expr} (cx : CxOk X Z.W xa E Γ k sc) (hs : slotC Γ sc i x = true) (hi : i ∉ Z.own) (hst : (y :: ys).all notStar = true) (hn : noOwn es.owns = true)
    (ha : PA X (y :: ys) (semA xa E Z (CF Γ.T k) es)) : PE X (.Call (.Name x p) (y :: ys) [] pos) (semE xa E Z (CF Γ.T k) false (.callv i es)) := by
  rw [List.all_cons, Bool.and_eq_true] at hst
  unfold slotC at hs
  rw [Bool.and_eq_true, Bool.and_eq_true] at hs
  obtain ⟨⟨h1, h2⟩, h3⟩ := hs
  unfold okName at h3
  rw [Bool.and_eq_true, Bool.and_eq_true] at h3
  refine ⟨fun pins s σ H Q I h => ?_⟩
  obtain ⟨S, env, R, fin⟩ := h
  have fin : Fin (Exs Z.W xa E Z) Z σ S (Vx Z σ false) (match getE env i with
    | some (.fn g) => (evs (CF Γ.T k) es env).bind fun ds env1 => callD (CF Γ.T k) g es.owns ds env1
    | _ => .bad) Q := fin
  split at fin
  · rename_i g eg
    obtain ⟨v, q1, _, q2⟩ := R.sl i _ eg
    have q2 := q2 hi
    rw [rep_fn] at q2
    obtain ⟨rfl, hpl⟩ := q2
    obtain ⟨f, hf, hm, hfr⟩ := cx.pl g hpl
    obtain ⟨fd, ps, F, hmg, kp, hb, hps, _⟩ := cx.fns g f hf
    refine wpAny_Call_Name_kw (thn ((pe_var (pos := p) (i := i) (by rw [cx.N]; exact of_decide_eq_true h1) (cx.vis x h2) (by simpa using h3.1.1) (by simpa using h3.1.2)).run pins s σ H (fun v H1 => v = .ref (Z.W.fa g) ∧ H1 = H) I ⟨_, q1, rfl, rfl⟩) fun u s0 ⟨v, H0, I0, r0, z⟩ => ?_)
    obtain ⟨rfl, rfl⟩ := z
    cases r0
    refine PySem.W.callWith_K (h₀ := X.base) I.ok.mod.kin kp (thn (ha.run pos pins s0 σ _ _ I0 ⟨S, env, R, Fin.bind fin⟩) fun us s1 ⟨vs, H1, I1, r, q⟩ => ⟨I1.kIn, ?_⟩) (notStar_each (env := fun X => X.env) hst.1) (star_plain ys hst.2)
    obtain ⟨S1, env1, ds, _, R1, hs1, v1, f1⟩ := q
    refine run_g (args := ⟨us, []⟩) cx F hf I1 R1 (by rw [hm]; exact msk_nil hn) (owns_nil hn) v1 r (fun hl => ?_) (by rw [hfr]; exact f1)
    have := hb s1 us I1.kIn (by rw [List.append_nil, hl, hps])
    rwa [List.append_nil] at this
  · exact fin.elim
theorem perm_paired {α β : Type} {F : α → β → Prop} : ∀ {perm : List Nat} {xs : List α} {ys : List β} {bs : List β}, Paired F xs ys → permL perm ys = some bs → ∃ as, permL perm xs = some as ∧ Paired F as bs := by
  intro perm
  induction perm with
  | nil => intro xs ys bs _ e; unfold permL at e; simp at e; subst e; exact ⟨[], rfl, .nil⟩
  | cons i perm ih =>
    intro xs ys bs h e
    unfold permL at e
    rw [List.mapM_cons] at e
    cases e1 : ys[i]? with
    | none => rw [e1] at e; cases e
    | some y =>
      cases e2 : permL perm ys with
      | none => unfold permL at e2; rw [e1, e2] at e; cases e
      | some r =>
        have e2' := e2
        unfold permL at e2
        rw [e1, e2] at e
        cases e
        obtain ⟨as, q1, q2⟩ := ih h e2'
        have hx : ∃ x, xs[i]? = some x ∧ F x y := by
          have : ∀ {xs : List α} {ys : List β} {i : Nat}, Paired F xs ys → ys[i]? = some y → ∃ x, xs[i]? = some x ∧ F x y := by
            intro xs ys i h
            induction h generalizing i with
            | nil => intro e; simp at e
            | cons r t ih =>
              intro e
              cases i with
              | zero => simp at e; subst e; exact ⟨_, by simp, r⟩
              | succ i => obtain ⟨x, a, b⟩ := ih (i := i) (by simpa using e); exact ⟨x, by simpa using a, b⟩
          exact this h e1
        obtain ⟨x, hx1, hx2⟩ := hx
        refine ⟨x :: as, ?_, .cons hx2 q2⟩
        unfold permL at q1 ⊢
        rw [List.mapM_cons, hx1, q1]
        rfl
theorem perm_len {α : Type} : ∀ {perm : List Nat} {xs as : List α}, permL perm xs = some as → as.length = perm.length := by
  intro perm
  induction perm with
  | nil => intro xs as e; unfold permL at e; simp at e; subst e; rfl
  | cons i perm ih =>
    intro xs as e
    unfold permL at e
    rw [List.mapM_cons] at e
    cases e1 : xs[i]? with
    | none => rw [e1] at e; cases e
    | some y =>
      cases e2 : permL perm xs with
      | none => unfold permL at e2; rw [e1, e2] at e; cases e
      | some r =>
        have := ih e2
        unfold permL at e2
        rw [e1, e2] at e
        cases e
        simp [this]
theorem perm_reps {W : Wd} {S : Hp} : ∀ {perm : List Nat} {ds : List D} {vs : List V} {as : List D} {ws : List V}, Reps W S ds vs → permL perm ds = some as → permL perm vs = some ws → Reps W S as ws := by
  intro perm
  induction perm with
  | nil => intro ds vs as ws _ e1 e2; unfold permL at e1 e2; simp at e1 e2; subst e1 e2; exact reps_nil.mpr rfl
  | cons i perm ih =>
    intro ds vs as ws h e1 e2
    unfold permL at e1 e2
    rw [List.mapM_cons] at e1 e2
    cases a1 : ds[i]? with
    | none => rw [a1] at e1; cases e1
    | some d =>
      obtain ⟨v, a2, r⟩ := h.get a1
      rw [a1] at e1
      rw [a2] at e2
      cases b1 : permL perm ds with
      | none => unfold permL at b1; rw [b1] at e1; cases e1
      | some q1 =>
        cases b2 : permL perm vs with
        | none => unfold permL at b2; rw [b2] at e2; cases e2
        | some q2 =>
          have := ih h b1 b2
          unfold permL at b1 b2
          rw [b1] at e1
          rw [b2] at e2
          cases e1
          cases e2
          exact reps_cons.mpr ⟨_, _, rfl, r, this⟩
theorem kw_all {X : Cx} {pos : Pos} : ∀ {kws : List Keyword} {ns : List Str}, kwNames kws = some ns → (backToKw pos (keywordEach kws X.env)).all (·.1.isSome) = true ∧ (backToKw pos (keywordEach kws X.env)).filterMap (·.1) = ns ∧ (backToKw pos (keywordEach kws X.env)).any (·.1.isNone) = false
  | [], _, e => by unfold kwNames at e; cases e; exact ⟨rfl, rfl, rfl⟩
  | ⟨some x, v, p⟩ :: r, ns, e => by
    unfold kwNames at e
    cases q : kwNames r with
    | none => rw [q] at e; cases e
    | some ms =>
      rw [q] at e
      cases e
      obtain ⟨h1, h2, h3⟩ := kw_all (X := X) (pos := pos) q
      refine ⟨?_, ?_, ?_⟩
      · show (true && (backToKw pos (keywordEach r X.env)).all (·.1.isSome)) = true
        rw [h1]; rfl
      · show (x :: (backToKw pos (keywordEach r X.env)).filterMap (·.1)) = x :: ms
        rw [h2]
      · show (false || (backToKw pos (keywordEach r X.env)).any (·.1.isNone)) = false
        rw [h3]; rfl
  | ⟨none, v, p⟩ :: r, ns, e => by unfold kwNames at e; cases e
theorem kw_len : ∀ {kws : List Keyword} {ns : List Str}, kwNames kws = some ns → ns.length = kws.length
  | [], _, e => by unfold kwNames at e; cases e; rfl
  | ⟨some x, v, p⟩ :: r, ns, e => by
    unfold kwNames at e
    cases q : kwNames r with
    | none => rw [q] at e; cases e
    | some ms => rw [q] at e; cases e; simp [kw_len q]
  | ⟨none, v, p⟩ :: r, ns, e => by unfold kwNames at e; cases e
theorem e_callk {g : Nat} {f : Fn} {perm : List Nat} {es ks : IEs} {x : Str} {p pos : Pos} {ys : List Expr} {kws : List Keyword} {ns : List Str} (cx : CxOk X Z.W xa E Γ k sc) (hf : Γ.T[g]? = some f) (hx : f.name = x) (hg : glC sc x = true) (hn : okName x = true) (hst : ys.all notStar = true) (hm : f.msk = []) (hfr : f.fr = false)
    (hp : perm.length = f.np) (hk : kwNames kws = some ns) (hkb : (g, ys.length, ns, perm) ∈ Γ.kb) (h1 : noOwn es.owns = true) (h2 : noOwn ks.owns = true) (hl1 : es.owns.length = ys.length) (hl2 : ks.owns.length = kws.length)
    (ha : PA X ys (semA xa E Z (CF Γ.T k) es)) (hkw : PK X kws (semA xa E Z (CF Γ.T k) ks)) : PE X (.Call (.Name x p) ys kws pos) (semE xa E Z (CF Γ.T k) false (.callk g perm es ks)) := by
  obtain ⟨fd, ps, F, hmg, kp, hb, hps, hKB⟩ := cx.fns g f hf
  obtain ⟨q1, q2, q3⟩ := kw_all (X := X) (pos := pos) hk
  refine ⟨fun pins s σ H Q I h => ?_⟩
  obtain ⟨S, env, R, fin⟩ := h
  refine wpAny_Call_Name_kw (ld_glob I (cx.glo x hg) (by rw [← hx]; exact hmg) ?_ (okName_dbg hn))
  have fin : Fin (Exs Z.W xa E Z) Z σ S (Vx Z σ false) ((evs (CF Γ.T k) es env).bind fun ds env1 => (evs (CF Γ.T k) ks env1).bind fun zs env2 => match permL perm (ds ++ zs), permL perm (es.owns ++ ks.owns) with
    | some ds', some os => callD (CF Γ.T k) g os ds' env2
    | _, _ => .bad) Q := fin
  -- behind the arguments
  have tail : ∀ {us ws : List Value} {vs zs : List V} {s2 : Shared} {H2 S1 S2 : Hp} {env2 : Env} {ds dz : List D}, Inv X pins σ H2 s2 → Rel Z σ S2 H2 env2 → Sub S1 S2 → ARs Z.W σ S1 es.owns ds vs → ARs Z.W σ S2 ks.owns dz zs → Vals vs us → Vals zs ws →
      Fin (Exs Z.W xa E Z) Z σ S2 (Vx Z σ false) (match permL perm (ds ++ dz), permL perm (es.owns ++ ks.owns) with
        | some ds', some os => callD (CF Γ.T k) g os ds' env2
        | _, _ => .bad) Q → wpAny (model X.prog X.w) X.A (call (.ref (Z.W.fa g)) us (ns.zip ws)) (EP X pins σ Q) X.xe s2 := fun {us ws vs zs s2 H2 S1 S2 env2 ds dz} I2 R2 hs a1 a2 r1 r2 f2 => by
    have l1 := a1.len
    have l2 := a2.len
    obtain ⟨bs, e1, bt⟩ := (hKB _ _ _ hkb).to s2 us ws I2.kIn (by rw [← r1.length, ← l1.1]; exact hl1) (by rw [← r2.length, ← l2.1, hl2, kw_len hk])
    obtain ⟨cs, e2, rc⟩ := perm_paired (r1.append r2) e1
    split at f2
    · rename_i ds' os e3 e4
      have rr : Reps Z.W S2 (ds ++ dz) (vs ++ zs) := ((a1.none h1).mono hs).append (a2.none h2)
      have rp := perm_reps rr e3 e2
      have hno : noOwn os = true := by
        have key : ∀ {perm : List Nat} {xs os : List (Option Nat)}, xs.all (·.isNone) = true → permL perm xs = some os → os.all (·.isNone) = true := by
          intro perm
          induction perm with
          | nil => intro xs os _ e; unfold permL at e; simp at e; subst e; rfl
          | cons i perm ih =>
            intro xs os hx e
            unfold permL at e
            rw [List.mapM_cons] at e
            cases b1 : xs[i]? with
            | none => rw [b1] at e; cases e
            | some o =>
              cases b2 : permL perm xs with
              | none => unfold permL at b2; rw [b1, b2] at e; cases e
              | some r =>
                have := ih hx b2
                unfold permL at b2
                rw [b1, b2] at e
                cases e
                rw [List.all_cons, Bool.and_eq_true]
                exact ⟨List.all_eq_true.mp hx o (List.mem_of_getElem? b1), this⟩
        refine key (xs := es.owns ++ ks.owns) ?_ e4
        rw [List.all_append, Bool.and_eq_true]
        exact ⟨h1, h2⟩
      refine run_g (args := ⟨us, ns.zip ws⟩) (us := bs) (vs := cs) cx F hf I2 R2 (by rw [hm]; exact msk_nil hno) (owns_nil hno) (ars_none hno (by rw [perm_len e3, perm_len e4]) rp) rc (fun _ => bt) (by rw [hfr]; exact f2)
    · exact f2.elim
  cases ys with
  | nil =>
    have e0 : es = .nil := by
      cases es with
      | nil => rfl
      | cons e es => cases e <;> simp [IEs.owns] at hl1
    subst e0
    refine PySem.W.callWith_KW0 (h₀ := X.base) I.ok.mod.kin kp q1 (thn (hkw.run pos pins s σ H _ I ⟨S, env, R, Fin.bind fin⟩) fun ws s2 ⟨zs, H2, I2, rz, q⟩ => ⟨I2.kIn, ?_⟩) (by show (false || _) = false; rw [q3]; rfl)
    obtain ⟨S2, env2, dz, _, R2, hs2, v2, f2⟩ := q
    rw [q2]
    exact tail (us := []) (vs := []) (ds := []) (S1 := S2) I2 R2 (Sub.refl _) ⟨rfl, rfl⟩ v2 .nil rz f2
  | cons y ys =>
    rw [List.all_cons, Bool.and_eq_true] at hst
    refine PySem.W.callWith_KW (h₀ := X.base) I.ok.mod.kin kp q1 (thn (ha.run pos pins s σ H _ I ⟨S, env, R, Fin.bind fin⟩) fun us s1 ⟨vs, H1, I1, r, q⟩ => ?_) (by rw [star_plain (y :: ys) (by rw [List.all_cons, Bool.and_eq_true]; exact hst), q3]; rfl) (notStar_each (env := fun X => X.env) hst.1)
    obtain ⟨S1, env1, ds, _, R1, hs1, v1, f1⟩ := q
    refine thn (hkw.run pos pins s1 σ H1 _ I1 ⟨S1, env1, R1, Fin.bind f1⟩) fun ws s2 ⟨zs, H2, I2, rz, q⟩ => ⟨I2.kIn, ?_⟩
    obtain ⟨S2, env2, dz, _, R2, hs2, v2, f2⟩ := q
    rw [q2]
    exact tail I2 R2 hs2 v1 v2 r rz f2
end
end VI
/-! VIg: walks, targets, comprehensions. -/
namespace VI
open PySem PySem.Spec PyProof.Rows L2

/-! ### targets -/
def gIs : List Nat → TGs
  | [] => gNil
  | i :: is => gCons (gName i) (gIs is)
def gIT (K : PySem.W.Frag) : IT → TG
  | .nm i => gName i
  | .tp is => gTup K is.length (gIs is)
section
variable {X : Cx} {xa : Nat → Addr} {E : XK} {Γ : Cfg} {k : Nat} {sc : Scope} {W : Wd}
theorem g_name {i : Nat} {x : Str} {p : Pos} (cx : CxOk X W xa E Γ k sc) (h : Γ.N[i]? = some x) (hl : locC sc x = true) : PG X (.Name x p) (gName i) :=
  pg_name cx.nd (by rw [cx.N]; exact h) (cx.loc x hl).1 (cx.loc x hl).2
theorem nmC_name {i : Nat} {x : Expr} (h : nmC Γ sc (i, x) = true) : ∃ n p, x = .Name n p ∧ Γ.N[i]? = some n ∧ locC sc n = true := by
  unfold nmC at h
  simp only at h
  split at h
  · rename_i n p
    rw [Bool.and_eq_true] at h
    exact ⟨n, p, rfl, of_decide_eq_true h.1, h.2⟩
  · cases h
theorem g_names (cx : CxOk X W xa E Γ k sc) : ∀ {is : List Nat} {xs : List Expr}, is.length = xs.length → (is.zip xs).all (nmC Γ sc) = true → PGs X xs (gIs is) ∧ (assignEach xs X.env).length = is.length ∧ (assignEach xs X.env).findIdx? (·.1) = none
  | [], [], _, _ => ⟨pgs_nil, rfl, rfl⟩
  | i :: is, x :: xs, hl, h => by
    rw [List.zip_cons_cons, List.all_cons, Bool.and_eq_true] at h
    obtain ⟨n, p, rfl, h1, h2⟩ := nmC_name h.1
    obtain ⟨k1, k2, k3⟩ := g_names cx (is := is) (xs := xs) (by simpa using hl) h.2
    refine ⟨pgs_cons (g_name cx h1 h2) k1, ?_, ?_⟩
    · show (assignEach xs X.env).length + 1 = is.length + 1
      rw [k2]
    · show List.findIdx? (·.1) ((false, assign (.Name n p) X.env) :: assignEach xs X.env) = none
      rw [List.findIdx?_cons, k3]
      rfl
  | [], _ :: _, hl, _ => by simp at hl
  | _ :: _, [], hl, _ => by simp at hl
theorem g_it {t : IT} {e : Expr} (cx : CxOk X W xa E Γ k sc) (h : itC Γ sc t e = true) : PG X e (gIT X.K t) := by
  cases t with
  | nm i =>
    cases e <;> first | (unfold itC at h; cases h) | skip
    rename_i x p
    unfold itC at h
    rw [Bool.and_eq_true] at h
    exact g_name cx (of_decide_eq_true h.1) h.2
  | tp is =>
    cases e <;> first | (unfold itC at h; cases h) | skip
    rename_i xs kk p
    unfold itC at h
    rw [Bool.and_eq_true] at h
    obtain ⟨k1, k2, k3⟩ := g_names cx (of_decide_eq_true h.1) h.2
    exact pg_tup (n := is.length) cx.calm k1 k2 k3
end
/-- a target's stores, in the state -/
theorem names_rel {W : Wd} {Q : L2.St → Hp → Prop} : ∀ {is : List Nat} {ds : List D} {vs : List V} {Z : Stt} {σ : L2.St} {S H : Hp} {env : Env}, Rel Z σ S H env → ds.length = is.length → is.all (· < env.length) = true → (∀ p ∈ Z.P, p.1 ∉ is) → Reps Z.W S ds vs →
    (∀ σ' own', (∀ i, i ∈ own' ↔ i ∈ Z.own ∧ i ∉ is) → Rel { Z with own := own' } σ' S H ((is.zip ds).foldl (fun e p => e.set p.1 (some p.2)) env) → (∀ j, j ∉ is → σ'[j]? = σ[j]?) → Q σ' H) → gIs is vs σ H Q
  | [], [], vs, Z, σ, S, H, env, R, _, _, _, r, h => by
    rw [reps_nil] at r
    subst r
    exact ⟨rfl, h σ Z.own (fun i => by simp) R fun _ _ => rfl⟩
  | i :: is, d :: ds, vs, Z, σ, S, H, env, R, hl, hb, hp, r, h => by
    rw [reps_cons] at r
    obtain ⟨v, q, rfl, x, y⟩ := r
    rw [List.all_cons, Bool.and_eq_true] at hb
    have hi : i < env.length := by simpa using hb.1
    have R1 := R.store hi (fun p hpp e => hp p hpp (by simp [e])) x
    refine ⟨v, q, rfl, ?_⟩
    show gIs is q (σ.set i (some v)) H Q
    refine names_rel (ds := ds) (W := W) R1 (by simpa using hl) (by rw [List.length_set]; exact hb.2) (fun p hpp e => hp p hpp (List.mem_cons_of_mem _ e)) y fun σ' own' ho R2 hs => ?_
    refine h σ' own' (fun j => ?_) R2 fun j hj => ?_
    · rw [ho]
      simp only [List.mem_filter, decide_eq_true_eq, List.mem_cons, not_or]
      constructor
      · rintro ⟨⟨a, b⟩, c⟩; exact ⟨a, by simpa using b, c⟩
      · rintro ⟨a, b, c⟩; exact ⟨⟨a, by simpa using b⟩, c⟩
    · have h1 : j ≠ i ∧ j ∉ is := by simpa using hj
      rw [hs j h1.2, List.getElem?_set_ne (Ne.symm h1.1)]
  | [], _ :: _, _, _, _, _, _, _, _, hl, _, _, _, _ => by simp at hl
  | _ :: _, [], _, _, _, _, _, _, _, hl, _, _, _, _ => by simp at hl
theorem target_rel {t : IT} {d : D} {v : V} {Z : Stt} {σ : L2.St} {S H : Hp} {env env' : Env} {Q : L2.St → Hp → Prop} (R : Rel Z σ S H env) (hb : bindT t d env = some env') (hp : ∀ p ∈ Z.P, p.1 ∉ t.slots) (r : Rep Z.W S d v)
    (h : ∀ σ' own', (∀ i, i ∈ own' ↔ i ∈ Z.own ∧ i ∉ t.slots) → Rel { Z with own := own' } σ' S H env' → (∀ j, j ∉ t.slots → σ'[j]? = σ[j]?) → Q σ' H) : gIT Z.W.K t v σ H Q := by
  cases t with
  | nm i =>
    unfold bindT at hb
    simp only at hb
    split at hb
    · rename_i hi
      cases hb
      refine h _ _ (fun j => ?_) (R.store hi (fun p hpp e => hp p hpp (by simp [IT.slots, e])) r) fun j hj => ?_
      · simp [IT.slots]
      · have : j ≠ i := by simpa [IT.slots] using hj
        rw [List.getElem?_set_ne (Ne.symm this)]
    · cases hb
  | tp is =>
    unfold bindT at hb
    simp only at hb
    split at hb
    · rename_i ds
      split at hb
      · rename_i hc
        cases hb
        rw [rep_tup] at r
        obtain ⟨a, vs, rfl, e, rs⟩ := r
        exact ⟨a, vs, rfl, SqT.of (R.sub _ _ e), by rw [← rs.length]; exact hc.1, names_rel (W := Z.W) R hc.1 hc.2 hp rs h⟩
      · cases hb
    · cases hb

/-! ### what is walked -/
section
variable {X : Cx} {xa : Nat → Addr} {E : XK} {Γ : Cfg} {k : Nat} {sc : Scope} {Z : Stt} {C : CT} {tg : Expr}
theorem pi_or {it : Expr} {w1 w2 : TI} (h1 : PI X tg it w1) (h2 : PI X tg it w2) : PI X tg it (fun σ H R => w1 σ H R ∨ w2 σ H R) := ⟨fun pins s σ H R I h => h.elim (h1.run pins s σ H R I) (h2.run pins s σ H R I)⟩
theorem pi_weak {it : Expr} {w w' : TI} (h : PI X tg it w) (hq : ∀ σ H R, w' σ H R → w σ H R) : PI X tg it w' := ⟨fun pins s σ H R I q => h.run pins s σ H R I (hq σ H R q)⟩
theorem walk_list {W : Wd} {K : PySem.W.Frag} {S : Hp} {a : Addr} {ds : List D} {vs : List V} (e : SqL K S a vs) (r : Reps W S ds vs) : Walk W S (Itl K a) ds where
  go := fun i H h hi => ⟨vs, vs[i]'(by rw [← r.length]; exact hi), h.seq e, List.getElem?_eq_getElem _⟩
  stop := fun i H h hi => ⟨vs, h.seq e, by rw [← r.length]; exact hi⟩
  yld := fun i H x H' d h y hd => by
    obtain ⟨rfl, y⟩ := y
    obtain ⟨v, h1, h2⟩ := r.get hd
    rw [y vs (h.seq e)] at h1
    cases h1
    exact .inl ⟨rfl, h2⟩
theorem Sub.seqT {K : PySem.W.Frag} {S H : Hp} {a : Addr} {xs : List V} (e : Sub S H) (h : SqT K S a xs) : SqT K H a xs := by
  rcases h with (h | ⟨o, h⟩) | h
  · exact .inl (.inl (e _ _ h))
  · exact .inl (.inr ⟨o, e _ _ h⟩)
  · exact .inr h
theorem walk_tup {W : Wd} {K : PySem.W.Frag} {S : Hp} {a : Addr} {ds : List D} {vs : List V} (e : SqT K S a vs) (r : Reps W S ds vs) : Walk W S (Itt K a) ds where
  go := fun i H h hi => ⟨vs, vs[i]'(by rw [← r.length]; exact hi), h.seqT e, List.getElem?_eq_getElem _⟩
  stop := fun i H h hi => ⟨vs, h.seqT e, by rw [← r.length]; exact hi⟩
  yld := fun i H x H' d h y hd => by
    obtain ⟨rfl, y⟩ := y
    obtain ⟨v, h1, h2⟩ := r.get hd
    rw [y vs (h.seqT e)] at h1
    cases h1
    exact .inl ⟨rfl, h2⟩
theorem range_len : ∀ (n : Nat) (lo : Int), (rangeD lo n).length = n
  | 0, _ => rfl
  | n + 1, lo => by unfold rangeD; rw [List.length_cons, range_len n]
theorem range_get : ∀ (n : Nat) (lo : Int) (i : Nat) (d : D), (rangeD lo n)[i]? = some d → d = .int (lo + i)
  | 0, _, i, d, h => by simp [rangeD] at h
  | n + 1, lo, 0, d, h => by unfold rangeD at h; simp at h; rw [← h]; simp
  | n + 1, lo, i + 1, d, h => by
    unfold rangeD at h
    rw [List.getElem?_cons_succ] at h
    have e := range_get n (lo + 1) i d h
    have q : lo + 1 + (i : Int) = lo + ((i + 1 : Nat) : Int) := by omega
    rw [← q]
    exact e
theorem walk_rng {W : Wd} {S : Hp} {lo : Int} {n : Nat} : Walk W S (Itr lo n) (rangeD lo n) where
  go := fun i H _ hi => by rw [range_len] at hi; exact hi
  stop := fun i H _ hi => by rw [range_len] at hi; exact hi
  yld := fun i H x H' d _ y hd => by
    obtain ⟨rfl, rfl⟩ := y
    exact .inl ⟨rfl, by rw [range_get n lo i d hd]; exact rep_int.mpr rfl⟩
theorem enum_len : ∀ (xs : List D) (i : Nat), (enumD i xs).length = xs.length
  | [], _ => rfl
  | x :: xs, i => by unfold enumD; rw [List.length_cons, List.length_cons, enum_len xs]
theorem enum_get : ∀ (xs : List D) (j i : Nat) (d : D), (enumD j xs)[i]? = some d → ∃ x, xs[i]? = some x ∧ d = .tup [.int ((j + i : Nat) : Int), x]
  | [], _, i, d, h => by simp [enumD] at h
  | x :: xs, j, 0, d, h => by unfold enumD at h; simp at h; exact ⟨x, by simp, by rw [← h]; simp⟩
  | x :: xs, j, i + 1, d, h => by
    unfold enumD at h
    rw [List.getElem?_cons_succ] at h
    obtain ⟨y, h1, h2⟩ := enum_get xs (j + 1) i d h
    refine ⟨y, by rw [List.getElem?_cons_succ]; exact h1, ?_⟩
    have q : j + 1 + i = j + (i + 1) := by omega
    rw [← q]
    exact h2
theorem walk_enum {W : Wd} {K : PySem.W.Frag} {S : Hp} {a : Addr} {ds : List D} {vs : List V} (e : SqL K S a vs) (r : Reps W S ds vs) : Walk W S (Ite K a) (enumD 0 ds) where
  go := fun i H h hi => ⟨vs, vs[i]'(by rw [← r.length]; rw [enum_len] at hi; exact hi), h.seq e, List.getElem?_eq_getElem _⟩
  stop := fun i H h hi => ⟨vs, h.seq e, by rw [← r.length]; rw [enum_len] at hi; exact hi⟩
  yld := fun i H x H' d h y hd => by
    obtain ⟨T, u, rfl, hT, rfl, y⟩ := y
    obtain ⟨z, h1, rfl⟩ := enum_get ds 0 i d hd
    obtain ⟨v, h2, h3⟩ := r.get h1
    rw [y vs (h.seq e)] at h2
    cases h2
    refine .inr ⟨T, _, _, hT, rfl, rfl, rfl, ?_, Nat.le_refl 2⟩
    rw [Nat.zero_add]
    exact reps_cons.mpr ⟨_, _, rfl, rep_int.mpr rfl, reps_cons.mpr ⟨_, _, rfl, h3, reps_nil.mpr rfl⟩⟩
theorem zip_get : ∀ (xs ys : List D) (i : Nat) (d : D), (zipD xs ys)[i]? = some d → ∃ x y, xs[i]? = some x ∧ ys[i]? = some y ∧ d = .tup [x, y]
  | x :: xs, y :: ys, 0, d, h => by unfold zipD at h; simp at h; exact ⟨x, y, by simp, by simp, h.symm⟩
  | x :: xs, y :: ys, i + 1, d, h => by
    unfold zipD at h
    rw [List.getElem?_cons_succ] at h
    obtain ⟨a, b, h1, h2, h3⟩ := zip_get xs ys i d h
    exact ⟨a, b, by rw [List.getElem?_cons_succ]; exact h1, by rw [List.getElem?_cons_succ]; exact h2, h3⟩
  | [], _, i, d, h => by simp [zipD] at h
  | _ :: _, [], i, d, h => by simp [zipD] at h
theorem zip_len : ∀ (xs ys : List D), (zipD xs ys).length = min xs.length ys.length
  | x :: xs, y :: ys => by unfold zipD; simp only [List.length_cons, zip_len xs ys]; omega
  | [], _ => by simp [zipD]
  | _ :: _, [] => by simp [zipD]
theorem walk_zip {W : Wd} {K : PySem.W.Frag} {S : Hp} {a b : Addr} {ds es : List D} {vs ws : List V} (e : SqL K S a vs) (r : Reps W S ds vs) (e2 : SqL K S b ws) (r2 : Reps W S es ws) : Walk W S (Itz K a b) (zipD ds es) where
  go := fun i H h hi => by
    rw [zip_len, r.length, r2.length] at hi
    exact ⟨vs, ws, vs[i]'(by omega), ws[i]'(by omega), h.seq e, h.seq e2, List.getElem?_eq_getElem _, List.getElem?_eq_getElem _⟩
  stop := fun i H h hi => by
    rw [zip_len, r.length, r2.length] at hi
    exact ⟨vs, ws, h.seq e, h.seq e2, by omega⟩
  yld := fun i H x H' d h y hd => by
    obtain ⟨T, u, w, rfl, hT, rfl, y1, y2⟩ := y
    obtain ⟨p, q, h1, h2, rfl⟩ := zip_get ds es i d hd
    obtain ⟨v, h3, h4⟩ := r.get h1
    obtain ⟨v', h5, h6⟩ := r2.get h2
    rw [y1 vs (h.seq e)] at h3
    rw [y2 ws (h.seq e2)] at h5
    cases h3
    cases h5
    exact .inr ⟨T, _, _, hT, rfl, rfl, rfl, reps_cons.mpr ⟨_, _, rfl, h4, reps_cons.mpr ⟨_, _, rfl, h6, reps_nil.mpr rfl⟩⟩, Nat.le_refl 2⟩
theorem i_val {e : IE} {it : Expr} (cx : CxOk X Z.W xa E Γ k sc) (ha : PE X it (semE xa E Z C false e)) : PI X tg it (semI xa E Z C (.val e)) := by
  refine pi_weak (pi_or (pi_list ha) (pi_or (pi_tup ha) (pi_str ha))) fun σ H R h => ?_
  obtain ⟨S, env, Rl, f⟩ := h
  have f : Fin (Exs Z.W xa E Z) Z σ S (Vi Z) ((ev C e env).bind fun x env1 => lift (itemsD x) env1) R := f
  have g := Fin.bind (V1 := Vx Z σ false) f
  cases he : ev C e env with
  | exc j d => rw [he] at f; exact .inl ⟨S, env, Rl, by rw [he]; exact f⟩
  | bad => rw [he] at f; exact f.elim
  | ok d0 env0 =>
    cases d0 with
    | lst xs =>
      refine .inl ⟨S, env, Rl, g.post fun v H1 q => ?_⟩
      obtain ⟨S1, env1, d1, e1, R1, hs1, v1, f1⟩ := q
      rw [he] at e1
      cases e1
      have r := vx_false v1
      rw [rep_lst] at r
      obtain ⟨a, vs, rfl, e2, r2⟩ := r
      exact ⟨a, rfl, ⟨vs, SqL.of (R1.sub _ _ e2)⟩, Fin.ok (a := xs) f1 R1 (Sub.refl _) (walk_list (SqL.of e2) r2)⟩
    | tup xs =>
      refine .inr (.inl ⟨S, env, Rl, g.post fun v H1 q => ?_⟩)
      obtain ⟨S1, env1, d1, e1, R1, hs1, v1, f1⟩ := q
      rw [he] at e1
      cases e1
      have r := vx_false v1
      rw [rep_tup] at r
      obtain ⟨a, vs, rfl, e2, r2⟩ := r
      exact ⟨a, rfl, ⟨vs, SqT.of (R1.sub _ _ e2)⟩, Fin.ok (a := xs) f1 R1 (Sub.refl _) (walk_tup (SqT.of e2) r2)⟩
    | scr ns =>
      refine .inl ⟨S, env, Rl, g.post fun v H1 q => ?_⟩
      obtain ⟨S1, env1, d1, e1, R1, hs1, v1, f1⟩ := q
      rw [he] at e1
      cases e1
      have r := vx_false v1
      rw [rep_scr] at r
      obtain ⟨a, rfl, e2⟩ := r
      rw [cx.K] at e2
      exact ⟨a, rfl, ⟨_, R1.sub.seq e2⟩, Fin.ok (a := ns.map D.int) f1 R1 (Sub.refl _) (walk_list e2 (reps_ints _ _ ns))⟩
    | str x =>
      refine .inr (.inr ⟨S, env, Rl, g.post fun v H1 q => ?_⟩)
      obtain ⟨S1, env1, d1, e1, R1, hs1, v1, f1⟩ := q
      rw [he] at e1
      cases e1
      have r := vx_false v1
      rw [rep_str] at r
      refine ⟨x, r, Fin.ok (a := x.cps.toList.map fun c => D.str ⟨#[c]⟩) f1 R1 (Sub.refl _) ⟨fun i H _ hi => ?_, fun i H _ hi => ?_, fun i H y H' d _ q hd => ?_⟩⟩
      · rw [List.length_map, Array.length_toList] at hi; exact hi
      · rw [List.length_map, Array.length_toList] at hi; exact hi
      · obtain ⟨rfl, c, hc, rfl⟩ := q
        rw [List.getElem?_map, Array.getElem?_toList, hc] at hd
        cases hd
        exact .inl ⟨rfl, rep_str.mpr rfl⟩
    | non => rw [he] at f; exact f.elim
    | bl => rw [he] at f; exact f.elim
    | int => rw [he] at f; exact f.elim
    | ty => rw [he] at f; exact f.elim
    | fn => rw [he] at f; exact f.elim
theorem rng_of {n : Int} (h : rngOk n = true) : -(2 ^ 62) ≤ n ∧ n < 2 ^ 62 := by
  unfold rngOk at h
  rw [Bool.and_eq_true] at h
  exact ⟨of_decide_eq_true h.1, of_decide_eq_true h.2⟩
theorem star1 {e : Expr} (h : notStar e = true) : starEach [e] X.env = [(false, eval e X.env)] := notStar_each (env := fun X => X.env) h
theorem i_rng {e : IE} {x : Expr} {p pos : Pos} (cx : CxOk X Z.W xa E Γ k sc) (hg : glC sc "range" = true) (hs : notStar x = true) (ha : PE X x (semE xa E Z C false e)) : PI X tg (.Call (.Name "range" p) [x] [] pos) (semI xa E Z C (.rng e)) := by
  refine pi_weak (pi_range1 (cx.glo _ hg) (cx.bl _ (by decide)) (pa_cons ha pa_nil (star1 hs)) (star1 hs)) fun σ H R h => ?_
  obtain ⟨S, env, Rl, f⟩ := h
  refine ⟨S, env, Rl, (Fin.bind (V1 := Vx Z σ false) f).post fun v H1 q => ?_⟩
  obtain ⟨S1, env1, d1, e1, R1, hs1, v1, f1⟩ := q
  cases d1 with
  | int n =>
    simp only at f1
    split at f1
    · rename_i hn
      have r := vx_false v1
      rw [rep_int] at r
      subst r
      obtain ⟨n1, n2⟩ := rng_of hn
      exact ⟨n, rfl, n1, n2, f1.ok R1 (Sub.refl _) walk_rng⟩
    · exact f1.elim
  | _ => exact f1.elim
theorem i_rng2 {a b : IE} {x y : Expr} {p pos : Pos} (cx : CxOk X Z.W xa E Γ k sc) (hg : glC sc "range" = true) (hs : notStar x = true) (hs2 : notStar y = true) (ha : PE X x (semE xa E Z C false a)) (hb : PE X y (semE xa E Z C false b)) : PI X tg (.Call (.Name "range" p) [x, y] [] pos) (semI xa E Z C (.rng2 a b)) := by
  have s2 := star1 (X := X) hs2
  have s1 : starEach [x, y] X.env = (false, eval x X.env) :: starEach [y] X.env := notStar_each (env := fun X => X.env) hs
  refine pi_weak (pi_range2 (cx.glo _ hg) (cx.bl _ (by decide)) (pa_cons ha (pa_cons hb pa_nil s2) s1) (by rw [s1, s2]) s2) fun σ H R h => ?_
  obtain ⟨S, env, Rl, f⟩ := h
  refine ⟨S, env, Rl, (Fin.bind (V1 := Vx Z σ false) f).post fun v H1 q => ?_⟩
  obtain ⟨S1, env1, d1, e1, R1, hs1, v1, f1⟩ := q
  refine ⟨S1, env1, R1, (Fin.bind (V1 := Vx Z σ false) f1).post fun w H2 q => ?_⟩
  obtain ⟨S2, env2, d2, e2, R2, hs2, v2, f2⟩ := q
  cases d1 with
  | int i =>
    cases d2 with
    | int j =>
      simp only at f2
      split at f2
      · rename_i hn
        rw [Bool.and_eq_true] at hn
        have r := vx_false v1
        have r' := vx_false v2
        rw [rep_int] at r r'
        subst r r'
        obtain ⟨n1, n2⟩ := rng_of hn.1
        obtain ⟨n3, n4⟩ := rng_of hn.2
        exact ⟨i, j, rfl, ⟨n1, n2, n3, n4⟩, f2.ok R2 (Sub.refl _) walk_rng⟩
      · exact f2.elim
    | _ => exact f2.elim
  | _ => exact f2.elim
theorem i_enum {e : IE} {x : Expr} {p pos tpos : Pos} {elts : List Expr} {kk : Nat} (cx : CxOk X Z.W xa E Γ k sc) (hg : glC sc "enumerate" = true) (hs : notStar x = true) (ha : PE X x (semE xa E Z C false e)) : PI X (.Tuple elts kk tpos) (.Call (.Name "enumerate" p) [x] [] pos) (semI xa E Z C (.enum e)) := by
  refine pi_weak (pi_enum (cx.glo _ hg) (cx.bl _ (by decide)) (pa_cons ha pa_nil (star1 hs)) (star1 hs)) fun σ H R h => ?_
  obtain ⟨S, env, Rl, f⟩ := h
  refine ⟨S, env, Rl, (Fin.bind (V1 := Vx Z σ false) f).post fun v H1 q => ?_⟩
  obtain ⟨S1, env1, d1, e1, R1, hs1, v1, f1⟩ := q
  cases d1 with
  | lst xs =>
    have r := vx_false v1
    rw [rep_lst] at r
    obtain ⟨a, vs, rfl, e2, r2⟩ := r
    exact ⟨a, vs, rfl, SqL.of (R1.sub _ _ e2), Fin.ok (a := enumD 0 xs) f1 R1 (Sub.refl _) (walk_enum (SqL.of e2) r2)⟩
  | _ => exact f1.elim
theorem i_zip {a b : IE} {x y : Expr} {p pos tpos : Pos} {elts : List Expr} {kk : Nat} (cx : CxOk X Z.W xa E Γ k sc) (hg : glC sc "zip" = true) (hs : notStar x = true) (hs2 : notStar y = true) (ha : PE X x (semE xa E Z C false a)) (hb : PE X y (semE xa E Z C false b)) : PI X (.Tuple elts kk tpos) (.Call (.Name "zip" p) [x, y] [] pos) (semI xa E Z C (.zip a b)) := by
  have s2 := star1 (X := X) hs2
  have s1 : starEach [x, y] X.env = (false, eval x X.env) :: starEach [y] X.env := notStar_each (env := fun X => X.env) hs
  refine pi_weak (pi_zip (cx.glo _ hg) (cx.bl _ (by decide)) (pa_cons ha (pa_cons hb pa_nil s2) s1) s1 (star_plain [y] (by simp [hs2]))) fun σ H R h => ?_
  obtain ⟨S, env, Rl, f⟩ := h
  refine ⟨S, env, Rl, (Fin.bind (V1 := Vx Z σ false) f).post fun v H1 q => ?_⟩
  obtain ⟨S1, env1, d1, e1, R1, hs1, v1, f1⟩ := q
  refine ⟨S1, env1, R1, (Fin.bind (V1 := Vx Z σ false) f1).post fun w H2 q => ?_⟩
  obtain ⟨S2, env2, d2, e2, R2, hs2, v2, f2⟩ := q
  cases d1 with
  | lst xs =>
    cases d2 with
    | lst ys =>
      have r := (vx_false v1).mono hs2
      have r' := vx_false v2
      rw [rep_lst] at r r'
      obtain ⟨a, vs, rfl, e2, r2⟩ := r
      obtain ⟨b, ws, rfl, e3, r3⟩ := r'
      exact ⟨a, b, vs, ws, rfl, SqL.of (R2.sub _ _ e2), SqL.of (R2.sub _ _ e3), Fin.ok (a := zipD xs ys) f2 R2 (Sub.refl _) (walk_zip (SqL.of e2) r2 (SqL.of e3) r3)⟩
    | _ => exact f2.elim
  | _ => exact f2.elim

/-! ### comprehensions -/
theorem look_free {sc' : Scope} : ∀ {names : List (Str × NameKind)} {x : Str}, names.lookup x = some .free →
    (names.map fun (n, k) => if (k == NameKind.free && sc'.kind == .function && sc'.names.lookup n == some .cell) then (n, NameKind.cell) else (n, k)).lookup x = some .free ∨
    (names.map fun (n, k) => if (k == NameKind.free && sc'.kind == .function && sc'.names.lookup n == some .cell) then (n, NameKind.cell) else (n, k)).lookup x = some .cell
  | [], x, h => by simp at h
  | (n, k₀) :: r, x, h => by
    have ih := @look_free sc' r x
    show List.lookup x ((if (k₀ == NameKind.free && sc'.kind == .function && sc'.names.lookup n == some .cell) = true then (n, NameKind.cell) else (n, k₀)) :: (r.map _)) = some .free ∨ List.lookup x ((if (k₀ == NameKind.free && sc'.kind == .function && sc'.names.lookup n == some .cell) = true then (n, NameKind.cell) else (n, k₀)) :: (r.map _)) = some .cell
    cases hx : x == n with
    | true =>
      simp only [List.lookup_cons, hx] at h
      cases h
      split
      · exact .inr (by simp only [List.lookup_cons, hx])
      · exact .inl (by simp only [List.lookup_cons, hx])
    | false =>
      simp only [List.lookup_cons, hx] at h
      split
      · simp only [List.lookup_cons, hx]; exact ih h
      · simp only [List.lookup_cons, hx]; exact ih h
theorem CxOk.blk (cx : CxOk X Z.W xa E Γ k sc) {scope : Scope} (s : Shared) (H : Hp) (A : Addr) (cl : List (Str × Addr)) (fp : List Addr) : CxOk (X.blk s H scope (compEnvC scope cl A X.env) fp) Z.W xa (fun _ _ _ => False) Γ k scope := by
  have hsc : (X.blk s H scope (compEnvC scope cl A X.env) fp).env.scope = relS scope X.env.scope := rfl
  have keep : ∀ {x : Str} {k : NameKind}, k ≠ .free → scope.names.lookup x = some k → (relS scope X.env.scope).names.lookup x = some k := fun {x k} hk h => lookup_relS_keep hk h
  refine ⟨cx.N, cx.nd, cx.calm, fun x h => ?_, fun x h => ?_, fun x h => ?_, fun x h => ?_, cx.K, cx.fns, cx.pl, cx.plc, cx.room, takes0, cx.bl⟩
  · unfold visC at h
    unfold Vis
    rw [hsc]
    cases e : scope.names.lookup x with
    | none => rw [e] at h; cases h
    | some kk =>
      cases kk with
      | «local» => exact .inl (keep (by decide) e)
      | cell => exact .inr (.inl (keep (by decide) e))
      | free => rcases look_free (sc' := X.env.scope) e with q | q; exact .inr (.inr q); exact .inr (.inl q)
      | globalExplicit => rw [e] at h; cases h
      | globalImplicit => rw [e] at h; cases h
  · unfold locC at h
    unfold L2.Loc
    rw [hsc]
    cases e : scope.names.lookup x with
    | none => rw [e] at h; cases h
    | some kk =>
      cases kk with
      | «local» => exact ⟨.inl (keep (by decide) e), .inr (keep (by decide) e)⟩
      | cell => exact ⟨.inr (keep (by decide) e), .inl (by show (scope.names.lookup x == some .cell) = true; rw [e]; rfl)⟩
      | free => rw [e] at h; cases h
      | globalExplicit => rw [e] at h; cases h
      | globalImplicit => rw [e] at h; cases h
  · unfold cfC at h
    rw [hsc]
    cases e : scope.names.lookup x with
    | none => rw [e] at h; cases h
    | some kk =>
      cases kk with
      | «local» => rw [e] at h; cases h
      | cell => exact .inl (keep (by decide) e)
      | free => rcases look_free (sc' := X.env.scope) e with q | q; exact .inr q; exact .inl q
      | globalExplicit => rw [e] at h; cases h
      | globalImplicit => rw [e] at h; cases h
  · unfold glC at h
    show (relS scope X.env.scope).names.lookup x = some .globalImplicit
    cases e : scope.names.lookup x with
    | none => rw [e] at h; cases h
    | some kk =>
      cases kk with
      | globalImplicit => exact keep (by decide) e
      | _ => rw [e] at h; cases h
theorem blk_ok (cx : CxOk X Z.W xa E Γ k sc) {scope : Scope} {own : List (Str × Nat)} (h : blkC Γ.N sc scope own = true) : BlkOk X.N X.env.scope scope own := by
  have b := blkOk_by h
  refine ⟨b.kind, b.uniq, fun p hp => by rw [cx.N]; exact b.ix p hp, fun y hy e => ?_, fun y hy e => by rw [cx.N]; exact b.own y hy e⟩
  refine cx.cf y.1 ?_
  unfold cfC
  rcases b.free y hy e with q | q <;> rw [q]
theorem c_none : PTs X [] (semC xa E Z C .none) := by
  refine ⟨fun pins s σ H Q I h => pts_nil.run pins s σ H Q I ?_⟩
  obtain ⟨S, env, R, f⟩ := h
  exact Fin.ok (a := true) f R (Sub.refl S) rfl
theorem c_some {e : IE} {x : Expr} (h : PT X x (semT xa E Z C e)) : PTs X [x] (semC xa E Z C (.some e)) := pts_one h
/-- sems with any base -/
def anyE (W : Wd) (own : List Nat) (xa : Nat → Addr) (C : CT) (e : IE) : TE := fun σ H Q => ∃ Z' : Stt, Z'.W = W ∧ Z'.own = own ∧ semE xa (fun _ _ _ => False) Z' C false e σ H Q
def anyC (W : Wd) (own : List Nat) (xa : Nat → Addr) (C : CT) (c : IO) : TT := fun σ H Q => ∃ Z' : Stt, Z'.W = W ∧ Z'.own = own ∧ semC xa (fun _ _ _ => False) Z' C c σ H Q
theorem e_lc {vs : List Nat} {t : IT} {it : II} {c : IO} {e : IE} {tg iter elt : Expr} {ifs : List Expr} {scope : Scope} {pos : Pos} {own : List (Str × Nat)} (cx : CxOk X Z.W xa E Γ k sc) (hv : ∀ v ∈ vs, v ∉ Z.own) (hb : blkC Γ.N sc scope own = true) (ho : own.map (·.2) = vs) (hset : notSet iter = true) (hts : ∀ i ∈ t.slots, i ∈ vs) (ht : itC Γ scope t tg = true)
    (hi : PI X tg iter (semI xa E Z C it))
    (hc : ∀ (s : Shared) (H : Hp) (A : Addr) (cl : List (Str × Addr)) (fp : List Addr) (Z' : Stt), Z'.W = Z.W → Z'.own = Z.own → PTs (X.blk s H scope (compEnvC scope cl A X.env) fp) ifs (semC xa (fun _ _ _ => False) Z' C c))
    (he : ∀ (s : Shared) (H : Hp) (A : Addr) (cl : List (Str × Addr)) (fp : List Addr) (Z' : Stt), Z'.W = Z.W → Z'.own = Z.own → PE (X.blk s H scope (compEnvC scope cl A X.env) fp) elt (semE xa (fun _ _ _ => False) Z' C false e)) {fr : Bool} :
    ∀ {σ : L2.St} {H : Hp} {Q : VK}, semE xa E Z C fr (.lc vs t it c e) σ H Q → tLc (semI xa E Z C it) (gIT X.K t) (anyC Z.W Z.own xa C c) (anyE Z.W Z.own xa C e) vs σ H Q := by
  have key : ∀ {σ : L2.St} {H : Hp} {Q : VK}, semE xa E Z C true (.lc vs t it c e) σ H Q → tLc (semI xa E Z C it) (gIT X.K t) (anyC Z.W Z.own xa C c) (anyE Z.W Z.own xa C e) vs σ H Q := by
    intro σ H Q h
    obtain ⟨S, env, R, f⟩ := h
    refine ⟨S, env, R, (Fin.bind f).post fun J H1 q => ?_⟩
    obtain ⟨S1, env1, ds, e1, R1, hs1, wk, f1⟩ := q
    have wk : Walk Z.W S1 J ds := wk
    intro D hD
    cases hl : lcD t vs (evc C c) (ev C e) ds 0 env1 with
    | exc j d => rw [hl] at f1; exact f1.elim
    | bad => rw [hl] at f1; exact f1.elim
    | ok r env2 =>
      rw [hl] at f1
      simp only at f1
      -- the state between two turns
      let Mid : Nat → Hp → Prop := fun i H => i ≤ ds.length ∧ ∃ (S : Hp) (env' : Env) (done : List VI.D) (vd : List V) (rest : List VI.D), Sub S1 S ∧ Rel Z (wipe σ vs) S H (wipeE env' vs) ∧ H D = some (.lst vd) ∧ S D = none ∧ Reps Z.W S done vd ∧ Z.H0 D = none ∧
        (∀ j, j ∈ Z.own → getE (wipeE env' vs) j ≠ none → (wipe σ vs)[j]? ≠ some (some (.ref D))) ∧ vd.length ≤ sizeLine ∧ lcD t vs (evc C c) (ev C e) (ds.drop i) done.length env' = .ok rest env2 ∧ done ++ rest = r
      refine ⟨fun i m H => m = ds.length - i ∧ Mid i H, ⟨ds.length, by simp, Nat.zero_le _, S1, env1, [], [], r, Sub.refl _, (R1.new hD (by show 0 ≤ sizeLine; decide)).wiped hv, upd_same, R1.sub.none hD, reps_nil.mpr rfl, R1.h0 hD, fun j hj hq => ?_, by show 0 ≤ sizeLine; decide, by rw [List.drop_zero]; exact hl, rfl⟩, ?_⟩
      · have h1 : j ∉ vs := fun z => hv j z hj
        rw [getE_wipe, if_neg h1] at hq
        rw [wipe_out h1]
        exact R1.apart hD j hj hq
      rintro i m H2 ⟨rfl, hle, S2, env', done, vd, rest, hsub, R2, hD2, hS2, rd, h0, hap, hsz, hrec, hdone⟩
      by_cases hlt : i < ds.length
      · right
        refine ⟨wk.go i H2 (hsub.trans R2.sub) hlt, Mid (i + 1), fun H' hm => ⟨ds.length - (i + 1), by omega, rfl, hm⟩, fun x H' y => ?_⟩
        have hx : ds[i]? = some ds[i] := List.getElem?_eq_getElem hlt
        have hdrop : ds.drop i = ds[i] :: ds.drop (i + 1) := List.drop_eq_getElem_cons hlt
        rw [hdrop] at hrec
        unfold lcD at hrec
        -- the item
        have hitem : ∃ S3, Sub S2 S3 ∧ Rel Z (wipe σ vs) S3 H' (wipeE env' vs) ∧ Rep Z.W S3 ds[i] x ∧ H' D = some (.lst vd) ∧ S3 D = none := by
          rcases wk.yld i H2 x H' ds[i] (hsub.trans R2.sub) y hx with ⟨rfl, rx⟩ | ⟨p, es, ws, hp, rfl, rfl, e2, rs, hlen⟩
          · exact ⟨S2, Sub.refl _, R2, rx.mono hsub, hD2, hS2⟩
          · have hne : D ≠ p := ne_of_none hD2 hp
            have hs := Sub.upd (o := .tup ws) (R2.sub.none hp)
            refine ⟨_, hs, R2.both hp (Nat.le_trans hlen (by decide)), ?_, by rw [upd_ne hne]; exact hD2, by rw [upd_ne hne]; exact hS2⟩
            rw [e2]
            exact rep_tup.mpr ⟨p, ws, rfl, upd_same, (rs.mono hsub).mono hs⟩
        obtain ⟨S3, hs3, R3, rx, hD3, hS3⟩ := hitem
        cases hbind : bindT t ds[i] (wipeE env' vs) with
        | none => rw [hbind] at hrec; cases hrec
        | some env3 =>
          rw [hbind] at hrec
          simp only at hrec
          have Rin := R3.enter
          obtain ⟨P, hP⟩ : ∃ P, P = ownP Z.own (wipe σ vs) (wipeE env' vs) := ⟨_, rfl⟩
          rw [← hP] at Rin
          have hPs : ∀ p ∈ P, p.1 ∉ t.slots := fun p hp z => by
            rw [hP] at hp
            exact hv _ (hts _ z) (mem_ownP.mp hp).1
          rw [← cx.K]
          refine target_rel (Z := ⟨Z.W, Z.own, S3, H', P⟩) Rin hbind hPs rx fun σ2 own' hown R4 hσ => ?_
          have R4 : Rel ⟨Z.W, Z.own, S3, H', P⟩ σ2 S3 H' env3 := R4.marks (own' := Z.own) fun j => by
            rw [hown]
            exact ⟨fun z => ⟨z, fun w => hv _ (hts _ w) z⟩, fun z => z.1⟩
          have hw : wipe σ2 vs = wipe σ vs := by
            refine List.ext_getElem? fun j => ?_
            by_cases hj : j ∈ vs
            · have wn : ∀ (τ : L2.St), τ.length = σ.length → (wipe τ vs)[j]? = if j < σ.length then some none else none := by
                have : ∀ (ws : List Nat) (τ : L2.St), j ∈ ws → (wipe τ ws)[j]? = if j < τ.length then some none else none := by
                  intro ws
                  induction ws with
                  | nil => intro τ h; simp at h
                  | cons w ws ih =>
                    intro τ h
                    unfold wipe
                    by_cases hwj : w = j
                    · subst hwj
                      by_cases hlt : w < τ.length
                      · rw [List.getElem?_set_self (by rw [wipe_length]; exact hlt), if_pos hlt]
                      · rw [if_neg hlt, List.getElem?_eq_none (by rw [List.length_set, wipe_length]; omega)]
                    · rw [List.getElem?_set_ne hwj]
                      exact ih τ (by rcases List.mem_cons.mp h with z | z; exact absurd z.symm hwj; exact z)
                intro τ hτ
                rw [this vs τ hj, hτ]
              have l1 : σ2.length = σ.length := by
                have a := R4.ln
                have b := R3.ln
                have c' : env3.length = (wipeE env' vs).length := by
                  cases t with
                  | nm i =>
                    unfold bindT at hbind
                    simp only at hbind
                    split at hbind
                    · cases hbind; rw [List.length_set]
                    · cases hbind
                  | tp is =>
                    unfold bindT at hbind
                    simp only at hbind
                    split at hbind
                    · split at hbind
                      · cases hbind
                        have : ∀ (l : List (Nat × VI.D)) (e : Env), (l.foldl (fun e p => e.set p.1 (some p.2)) e).length = e.length := by
                          intro l
                          induction l with
                          | nil => intro e; rfl
                          | cons p l ih => intro e; rw [List.foldl_cons, ih, List.length_set]
                        rw [this]
                      · cases hbind
                    · cases hbind
                rw [wipe_length] at b
                rw [a, c', ← b]
              rw [wn σ2 l1, wn σ rfl]
            · rw [wipe_out hj, hσ j (fun z => hj (hts _ z)), wipe_out hj]
          refine ⟨hw, ⟨Z.W, Z.own, S3, H', P⟩, rfl, rfl, S3, env3, R4, ?_⟩
          -- behind the element: one more item, or none
          have hnotP : ∀ p ∈ P, p.2 ≠ D := fun p hp z => by
            rw [hP] at hp
            obtain ⟨q1, q2, q3⟩ := mem_ownP.mp hp
            exact hap p.1 q1 q2 (by rw [← z]; exact q3)
          have out : ∀ {S4 H4 : Hp} {env4 : Env}, Rel ⟨Z.W, Z.own, S3, H', P⟩ σ2 S4 H4 env4 → Sub S3 S4 ∧ Rel Z (wipe σ vs) S4 H4 (wipeE env4 vs) ∧ H4 D = some (.lst vd) ∧ S4 D = none ∧ ∀ j, j ∈ Z.own → getE (wipeE env4 vs) j ≠ none → (wipe σ vs)[j]? ≠ some (some (.ref D)) := fun {S4 H4 env4} R5 => by
            have R6 : Rel Z σ2 S4 H4 env4 := R3.leave hP R5 fun j hj => by
              have h1 : j ∉ vs := fun z => hv j z hj
              rw [hσ j fun z => h1 (hts _ z)]
            have R7 := R6.wiped hv
            rw [hw] at R7
            have d4 : H4 D = some (.lst vd) := R5.fr D _ hD3 hnotP
            have s4 : S4 D = none := by
              have := R5.gr D _ hD3
              rw [this]; exact hS3
            refine ⟨R5.s0, R7, d4, s4, fun j hj hq z => ?_⟩
            obtain ⟨_, _, q3⟩ := R7.ownSome hj hq z
            rcases q3 with q3 | ⟨p, hp, q3⟩
            · -- an owned slot's list is no new one
              have h1 : j ∉ vs := fun w => hv j w hj
              obtain ⟨x1, x2, x3⟩ : j ∈ Z.own ∧ True ∧ True := ⟨hj, trivial, trivial⟩
              rw [getE_wipe, if_neg h1] at hq
              have hz2 : σ2[j]? = some (some (.ref D)) := by
                rw [wipe_out h1] at z
                rw [hσ j fun w => h1 (hts _ w), wipe_out h1]
                exact z
              obtain ⟨_, _, q5⟩ := R5.ownSome hj hq hz2
              rcases q5 with q5 | ⟨p, hp, q5⟩
              · have q5 : H' D = none := q5
                rw [hD3] at q5; cases q5
              · exact hnotP p hp q5
            · obtain ⟨a1, a2, a3⟩ := R2.pa p hp
              rw [q3] at a2
              exact hap p.1 a1 a3 a2
          cases hcc : evc C c env3 with
          | exc j d => rw [hcc] at hrec; cases hrec
          | bad => rw [hcc] at hrec; cases hrec
          | ok b env4 =>
            rw [hcc] at hrec
            simp only [Res.bind_ok] at hrec
            intro b' H4 S4 R5 hs4 hbb
            have hbb : b = b' := hbb
            subst hbb
            cases b with
            | false =>
              rw [if_neg Bool.false_ne_true]
              obtain ⟨o1, o2, o3, o4, o5⟩ := out R5
              exact ⟨hlt, S4, env4, done, vd, rest, hsub.trans (hs3.trans o1), o2, o3, o4, (rd.mono hs3).mono o1, h0, o5, hsz, hrec, hdone⟩
            | true =>
              rw [if_pos rfl]
              simp only at hrec
              refine ⟨⟨Z.W, Z.own, S3, H', P⟩, rfl, rfl, S4, env4, R5, ?_⟩
              cases hee : ev C e env4 with
              | exc j d => rw [hee] at hrec; cases hrec
              | bad => rw [hee] at hrec; cases hrec
              | ok d5 env5 =>
                rw [hee] at hrec
                simp only [Res.bind_ok] at hrec
                split at hrec
                · rename_i hdl
                  intro y5 H5 S5 R6 hs5 v5
                  have r5 : Rep Z.W S5 d5 y5 := v5.2 fun q => (by cases q)
                  obtain ⟨o1, o2, o3, o4, o5⟩ := out R6
                  have hvl : vd.length < sizeLine := by rw [← rd.length]; exact hdl
                  refine ⟨vd, o3, hvl, hlt, ?_⟩
                  cases hrr : lcD t vs (evc C c) (ev C e) (ds.drop (i + 1)) (done.length + 1) env5 with
                  | exc j d => rw [hrr] at hrec; cases hrec
                  | bad => rw [hrr] at hrec; cases hrec
                  | ok rest' env6 =>
                    rw [hrr] at hrec
                    simp only [Res.bind_ok] at hrec
                    cases hrec
                    refine ⟨S5, env5, done ++ [d5], vd ++ [y5], rest', hsub.trans (hs3.trans o1), o2.poke h0 o4 o5 (by show (vd ++ [y5]).length ≤ sizeLine; rw [List.length_append]; exact hvl), upd_same, o4, ((rd.mono hs3).mono o1).append (reps_cons.mpr ⟨y5, [], rfl, r5, reps_nil.mpr rfl⟩), h0, o5, by rw [List.length_append]; exact hvl, by rw [List.length_append]; exact hrr, by rw [← hdone, List.append_assoc]; rfl⟩
                · cases hrec
      · left
        have hi' : ds.length ≤ i := by omega
        refine ⟨wk.stop i H2 (hsub.trans R2.sub) hi', ?_⟩
        have hnil : ds.drop i = [] := List.drop_eq_nil_of_le hi'
        rw [hnil] at hrec
        unfold lcD at hrec
        cases hrec
        rw [List.append_nil] at hdone
        subst hdone
        have Rb : Rel Z σ S2 H2 (backE env1 env2 vs) := R1.back hsub R2 hv
        refine f1.ok Rb hsub ⟨fun _ _ => ⟨D, done, vd, rfl, rfl, hD2, hS2, rd, h0, fun j hj hq => ?_⟩, fun z => by have z := z rfl; unfold isL at z; cases z⟩
        have h1 : j ∉ vs := fun z => hv j z hj
        have he12 : env2.length = env1.length := by
          have a := R2.ln
          rw [wipe_length, wipeE_length] at a
          rw [← a, R1.ln]
        rw [getE_back he12, if_neg h1] at hq
        have := hap j hj (by rw [getE_wipe, if_neg h1]; exact hq)
        rw [wipe_out h1] at this
        exact this
  intro σ H Q h
  cases fr with
  | true => exact key h
  | false =>
    obtain ⟨S, env, R, f⟩ := h
    exact key ⟨S, env, R, fin_give f⟩
end
end VI
/-! VIh: expressions of the text that match. -/
namespace VI
open PySem PySem.Spec PyProof.Rows L2

theorem ba {a b : Bool} (h : (a && b) = true) : a = true ∧ b = true := Bool.and_eq_true_iff.mp h
theorem nf {b : Bool} (h : (!b) = true) : b = false := by cases b <;> first | rfl | cases h
theorem owns_cons {e : IE} {es : IEs} (h : ∀ i, e ≠ .own i) : (IEs.cons e es).owns = none :: es.owns := by
  cases e <;> first | rfl | exact absurd rfl (h _)
theorem boot_ty {x : Str} {n : String} (h : (x, n) ∈ tyNames) : bootBuiltins x = some (.type n) ∧ x ∈ blNames ∧ x ≠ ("__name__" : Str) ∧ (x == ("__debug__" : Str)) = false := by
  unfold tyNames at h
  simp only [List.mem_cons, List.not_mem_nil, or_false, Prod.mk.injEq] at h
  rcases h with ⟨rfl, rfl⟩ | ⟨rfl, rfl⟩ | ⟨rfl, rfl⟩ | ⟨rfl, rfl⟩ | ⟨rfl, rfl⟩ <;> exact ⟨by decide +kernel, by decide, by decide, by decide⟩
section
variable {X : Cx} {xa : Nat → Addr} {E : XK} {Γ : Cfg} {k : Nat} {sc : Scope} {Z : Stt} {C : CT}
theorem a_nil : PA X [] (semA xa E Z C .nil) := by
  refine ⟨fun pos pins s σ H Q I h => pa_nil.run pos pins s σ H Q I ?_⟩
  obtain ⟨S, env, R, f⟩ := h
  exact Fin.ok (a := ([] : List D)) f R (Sub.refl S) ⟨rfl, rfl⟩
theorem PA.weak {es : List Expr} {t t' : TA} (h : PA X es t) (hq : ∀ σ H Q, t' σ H Q → t σ H Q) : PA X es t' := ⟨fun pos pins s σ H Q I q => h.run pos pins s σ H Q I (hq σ H Q q)⟩
theorem PK.weak {es : List Keyword} {t t' : TA} (h : PK X es t) (hq : ∀ σ H Q, t' σ H Q → t σ H Q) : PK X es t' := ⟨fun pos pins s σ H Q I q => h.run pos pins s σ H Q I (hq σ H Q q)⟩
theorem cons_step {e : IE} {es : IEs} (he : ∀ i, e ≠ .own i) {σ : L2.St} {H : Hp} {Q : List V → Hp → Prop} (h : semA xa E Z C (.cons e es) σ H Q) : tCons (semE xa E Z C false e) (semA xa E Z C es) σ H Q := by
  obtain ⟨S, env, R, f⟩ := h
  refine ⟨S, env, R, (Fin.bind f).post fun v H1 q => ?_⟩
  obtain ⟨S1, env1, d, _, R1, hs1, v1, f1⟩ := q
  refine ⟨S1, env1, R1, (Fin.bind f1).post fun vs H2 q => ?_⟩
  obtain ⟨S2, env2, ds, _, R2, hs2, v2, f2⟩ := q
  refine Fin.ok (a := d :: ds) f2 R2 (Sub.refl _) ?_
  show ARs Z.W σ S2 (IEs.cons e es).owns (d :: ds) (v :: vs)
  rw [owns_cons he]
  exact ⟨(vx_false v1).mono hs2, v2⟩
theorem a_cons {e : IE} {es : IEs} {x : Expr} {xs : List Expr} (hn : notStar x = true) (hx : PE X x (semE xa E Z C false e)) (hxs : PA X xs (semA xa E Z C es)) (he : ∀ i, e ≠ .own i) : PA X (x :: xs) (semA xa E Z C (.cons e es)) :=
  PA.weak (pa_cons hx hxs (notStar_each (env := fun X => X.env) hn)) fun σ H Q h => cons_step he h
theorem a_own {i : Nat} {es : IEs} {n : Str} {p : Pos} {xs : List Expr} (cx : CxOk X Z.W xa E Γ k sc) (hs : slotC Γ sc i n = true) (hxs : PA X xs (semA xa E Z C es)) : PA X (.Name n p :: xs) (semA xa E Z C (.cons (.own i) es)) := by
  unfold slotC at hs
  obtain ⟨hs, h3⟩ := ba hs
  obtain ⟨h1, h2⟩ := ba hs
  unfold okName at h3
  obtain ⟨h3, _⟩ := ba h3
  obtain ⟨h3, h4⟩ := ba h3
  refine PA.weak (pa_cons (pe_var (i := i) (by rw [cx.N]; exact of_decide_eq_true h1) (cx.vis n h2) (by simpa using h3) (by simpa using h4)) hxs rfl) fun σ H Q h => ?_
  obtain ⟨S, env, R, f⟩ := h
  have f : Fin (Exs Z.W xa E Z) Z σ S (Va Z σ (some i :: es.owns)) ((lift (getE env i) env).bind fun x env1 => (evs C es env1).bind fun xs env2 => .ok (x :: xs) env2) Q := f
  cases e : getE env i with
  | none => rw [e] at f; exact f.elim
  | some d =>
    rw [e] at f
    simp only [lift_some, Res.bind_ok] at f
    obtain ⟨v, h5, _⟩ := R.sl i d e
    refine ⟨v, h5, S, env, R, (Fin.bind f).post fun vs H2 q => ?_⟩
    obtain ⟨S2, env2, ds, _, R2, hs2, v2, f2⟩ := q
    exact Fin.ok (a := d :: ds) f2 R2 (Sub.refl _) ⟨h5, v2⟩
theorem k_nil : PK X [] (semA xa E Z C .nil) := by
  refine ⟨fun pos pins s σ H Q I h => pk_nil.run pos pins s σ H Q I ?_⟩
  obtain ⟨S, env, R, f⟩ := h
  exact Fin.ok (a := ([] : List D)) f R (Sub.refl S) ⟨rfl, rfl⟩
theorem k_cons {e : IE} {es : IEs} {nm : Option Str} {x : Expr} {p : Pos} {xs : List Keyword} (hx : PE X x (semE xa E Z C false e)) (hxs : PK X xs (semA xa E Z C es)) (he : ∀ i, e ≠ .own i) : PK X (⟨nm, x, p⟩ :: xs) (semA xa E Z C (.cons e es)) :=
  PK.weak (pk_cons hx hxs) fun σ H Q h => cons_step he h
theorem e_one {e : IE} {op : BoolOp} {x : Expr} {p : Pos} (h : PE X x (semE xa E Z C false e)) : PE X (.BoolOp op [x] p) (semE xa E Z C false e) := pe_one h
end

mutual
theorem sE (xa : Nat → Addr) (Γ : Cfg) (k : Nat) : (e : IE) → ∀ {X : Cx} {E : XK} {sc : Scope} {Z : Stt} {fr : Bool} {pe : Expr}, CxOk X Z.W xa E Γ k sc → corr Γ Z.own sc fr e pe = true →
    PE X pe (semE xa E Z (CF Γ.T k) fr e) ∧ (fr = false → PT X pe (semT xa E Z (CF Γ.T k) e))
  | .var i, X, E, sc, Z, fr, pe, cx, h => by
    cases pe with
    | Name x p =>
      unfold corr at h
      obtain ⟨h, h3⟩ := ba h
      obtain ⟨h1, h2⟩ := ba h
      have hfr := nf h1
      subst hfr
      have q := e_var (C := CF Γ.T k) (p := p) cx h3 (of_decide_eq_false (nf h2))
      exact ⟨q, fun _ => t_val q rfl⟩
    | _ => (have h : false = true := h; cases h)
  | .own i, X, E, sc, Z, fr, pe, cx, h => by cases pe <;> (have h : false = true := h; cases h)
  | .int z, X, E, sc, Z, fr, pe, cx, h => by
    cases pe with
    | Constant c kk p =>
      cases c with
      | int z' =>
        unfold corr at h
        obtain ⟨h1, h2⟩ := ba h
        have hfr := nf h1
        subst hfr
        have e := of_decide_eq_true h2
        subst e
        have q : PE X (.Constant (.int z) kk p) (semE xa E Z (CF Γ.T k) false (.int z)) := e_const pe_int (fun _ => rfl) fun S => rep_int.mpr rfl
        exact ⟨q, fun _ => t_val q rfl⟩
      | _ => (have h : false = true := h; cases h)
    | _ => (have h : false = true := h; cases h)
  | .bl z, X, E, sc, Z, fr, pe, cx, h => by
    cases pe with
    | Constant c kk p =>
      cases c with
      | bool z' =>
        unfold corr at h
        obtain ⟨h1, h2⟩ := ba h
        have hfr := nf h1
        subst hfr
        have e := of_decide_eq_true h2
        subst e
        have q : PE X (.Constant (.bool z) kk p) (semE xa E Z (CF Γ.T k) false (.bl z)) := e_const pe_bl (fun _ => rfl) fun S => rep_bl.mpr rfl
        exact ⟨q, fun _ => t_val q rfl⟩
      | _ => (have h : false = true := h; cases h)
    | _ => (have h : false = true := h; cases h)
  | .non, X, E, sc, Z, fr, pe, cx, h => by
    cases pe with
    | Constant c kk p =>
      cases c with
      | none =>
        unfold corr at h
        have hfr := nf h
        subst hfr
        have q : PE X (.Constant .none kk p) (semE xa E Z (CF Γ.T k) false .non) := e_const pe_non (fun _ => rfl) fun S => rep_non.mpr rfl
        exact ⟨q, fun _ => t_val q rfl⟩
      | _ => (have h : false = true := h; cases h)
    | _ => (have h : false = true := h; cases h)
  | .str z, X, E, sc, Z, fr, pe, cx, h => by
    cases pe with
    | Constant c kk p =>
      cases c with
      | str z' =>
        unfold corr at h
        obtain ⟨h1, h2⟩ := ba h
        have hfr := nf h1
        subst hfr
        have e := of_decide_eq_true h2
        subst e
        have q : PE X (.Constant (.str z) kk p) (semE xa E Z (CF Γ.T k) false (.str z)) := e_const pe_str (fun _ => rfl) fun S => rep_str.mpr rfl
        exact ⟨q, fun _ => t_val q rfl⟩
      | _ => (have h : false = true := h; cases h)
    | _ => (have h : false = true := h; cases h)
  | .ty n, X, E, sc, Z, fr, pe, cx, h => by
    cases pe with
    | Name x p =>
      unfold corr at h
      obtain ⟨h, h3⟩ := ba h
      obtain ⟨h1, h2⟩ := ba h
      have hfr := nf h1
      subst hfr
      obtain ⟨b1, b2, b3, b4⟩ := boot_ty (of_decide_eq_true h3)
      have q : PE X (.Name x p) (semE xa E Z (CF Γ.T k) false (.ty n)) := e_const (pe_bltn (v := .ty n) (cx.glo x h2) (cx.bl x b2) b1 rfl b3 b4) (fun _ => rfl) fun S => rep_ty.mpr rfl
      exact ⟨q, fun _ => t_val q rfl⟩
    | _ => (have h : false = true := h; cases h)
  | .fn g, X, E, sc, Z, fr, pe, cx, h => by
    cases pe with
    | Name x p =>
      unfold corr at h
      obtain ⟨h, h4⟩ := ba h
      obtain ⟨h, h3⟩ := ba h
      obtain ⟨h1, h2⟩ := ba h
      have hfr := nf h1
      subst hfr
      split at h4
      · rename_i f hf
        obtain ⟨h4, h6⟩ := ba h4
        obtain ⟨h4, h5⟩ := ba h4
        have q := e_fn (C := CF Γ.T k) (p := p) cx h2 h3 hf (of_decide_eq_true h4) (List.isEmpty_iff.mp h5) (nf h6)
        exact ⟨q, fun _ => t_val q rfl⟩
      · cases h4
    | _ => (have h : false = true := h; cases h)
  | .scal e, X, E, sc, Z, fr, pe, cx, h => by
    have h : (!fr && corr Γ [] sc false e pe) = true := by unfold corr at h; exact h
    obtain ⟨h1, h2⟩ := ba h
    have hfr := nf h1
    subst hfr
    exact ⟨e_scal fun Z' hW ho => (sE xa Γ k e (Z := Z') (by rw [hW]; exact cx) (by rw [ho]; exact h2)).1, fun _ => t_scal fun Z' hW ho => (sE xa Γ k e (Z := Z') (by rw [hW]; exact cx) (by rw [ho]; exact h2)).2 rfl⟩
  | .bin op a b, X, E, sc, Z, fr, pe, cx, h => by
    cases pe with
    | BinOp l o r p =>
      unfold corr at h
      obtain ⟨h, h3⟩ := ba h
      obtain ⟨h1, h2⟩ := ba h
      have e := of_decide_eq_true h1
      subst e
      have q := fun fr => e_bin (op := op) (p := p) (fr := fr) (sE xa Γ k a cx h2).1 (sE xa Γ k b cx h3).1
      exact ⟨q fr, fun _ => t_val (q false) rfl⟩
    | _ => (have h : false = true := h; cases h)
  | .neg a, X, E, sc, Z, fr, pe, cx, h => by
    cases pe with
    | UnaryOp o l p =>
      cases o with
      | USub =>
        unfold corr at h
        obtain ⟨h1, h2⟩ := ba h
        have hfr := nf h1
        subst hfr
        have q := e_neg (p := p) (sE xa Γ k a cx h2).1
        exact ⟨q, fun _ => t_val q rfl⟩
      | _ => (have h : false = true := h; cases h)
    | _ => (have h : false = true := h; cases h)
  | .not a, X, E, sc, Z, fr, pe, cx, h => by
    cases pe with
    | UnaryOp o l p =>
      cases o with
      | Not =>
        unfold corr at h
        obtain ⟨h1, h2⟩ := ba h
        have hfr := nf h1
        subst hfr
        have q := sE xa Γ k a cx h2
        exact ⟨e_not q.1, fun _ => t_not (q.2 rfl)⟩
      | _ => (have h : false = true := h; cases h)
    | _ => (have h : false = true := h; cases h)
  | .and a b, X, E, sc, Z, fr, pe, cx, h => by
    cases pe with
    | BoolOp o l p =>
      cases o with
      | And =>
        cases l with
        | nil => (have h : false = true := h; cases h)
        | cons x l =>
          cases l with
          | nil => (have h : false = true := h; cases h)
          | cons y r =>
            unfold corr at h
            obtain ⟨h, h3⟩ := ba h
            obtain ⟨h1, h2⟩ := ba h
            have hfr := nf h1
            subst hfr
            have qa := sE xa Γ k a cx h2
            cases r with
            | nil =>
              have qb := sE xa Γ k b cx h3
              exact ⟨e_and qa.1 (e_one qb.1), fun _ => t_and (qa.2 rfl) (pw_and1 (qb.2 rfl))⟩
            | cons z r =>
              have qb := sE xa Γ k b cx h3
              exact ⟨e_and qa.1 qb.1, fun _ => t_and (qa.2 rfl) (pt_bool (qb.2 rfl))⟩
      | Or => (have h : false = true := h; cases h)
    | _ => (have h : false = true := h; cases h)
  | .or a b, X, E, sc, Z, fr, pe, cx, h => by
    cases pe with
    | BoolOp o l p =>
      cases o with
      | Or =>
        cases l with
        | nil => (have h : false = true := h; cases h)
        | cons x l =>
          cases l with
          | nil => (have h : false = true := h; cases h)
          | cons y r =>
            unfold corr at h
            obtain ⟨h, h3⟩ := ba h
            obtain ⟨h1, h2⟩ := ba h
            have hfr := nf h1
            subst hfr
            have qa := sE xa Γ k a cx h2
            cases r with
            | nil =>
              have qb := sE xa Γ k b cx h3
              exact ⟨e_or qa.1 (e_one qb.1), fun _ => t_or (qa.2 rfl) (pw_or1 (qb.2 rfl))⟩
            | cons z r =>
              have qb := sE xa Γ k b cx h3
              exact ⟨e_or qa.1 qb.1, fun _ => t_or (qa.2 rfl) (pt_bool (qb.2 rfl))⟩
      | And => (have h : false = true := h; cases h)
    | _ => (have h : false = true := h; cases h)
  | .ife c a b, X, E, sc, Z, fr, pe, cx, h => by
    cases pe with
    | IfExp t x y p =>
      unfold corr at h
      obtain ⟨h, h3⟩ := ba h
      obtain ⟨h1, h2⟩ := ba h
      have qc := sE xa Γ k c cx h1
      have qa := sE xa Γ k a cx h2
      have qb := sE xa Γ k b cx h3
      exact ⟨e_ife (qc.2 rfl) qa.1 qb.1, fun e => t_ife (qc.2 rfl) (qa.2 e) (qb.2 e)⟩
    | _ => (have h : false = true := h; cases h)
  | .cmp op a b, X, E, sc, Z, fr, pe, cx, h => by
    cases pe with
    | Compare l os rs p =>
      cases os with
      | nil => (have h : false = true := h; cases h)
      | cons o os =>
        cases os with
        | cons _ _ => (have h : false = true := h; cases h)
        | nil =>
          cases rs with
          | nil => (have h : false = true := h; cases h)
          | cons r rs =>
            cases rs with
            | cons _ _ => (have h : false = true := h; cases h)
            | nil =>
              unfold corr at h
              obtain ⟨h, h5⟩ := ba h
              obtain ⟨h, h4⟩ := ba h
              obtain ⟨h, h3⟩ := ba h
              obtain ⟨h1, h2⟩ := ba h
              have hfr := nf h1
              subst hfr
              have e := of_decide_eq_true h2
              subst e
              have qa := (sE xa Γ k a cx h3).1
              have qb := (sE xa Γ k b cx h4).1
              exact ⟨e_cmp cx qa qb (nf h5), fun _ => t_cmp cx qa qb (nf h5)⟩
    | _ => (have h : false = true := h; cases h)
  | .chn o1 o2 a b c, X, E, sc, Z, fr, pe, cx, h => by
    cases pe with
    | Compare l os rs p =>
      match os, rs, h with
      | [p1, p2], [r1, r2], h =>
        unfold corr at h
        obtain ⟨h, h7⟩ := ba h
        obtain ⟨h, h6⟩ := ba h
        obtain ⟨h, h5⟩ := ba h
        obtain ⟨h, h4⟩ := ba h
        obtain ⟨h, h3⟩ := ba h
        obtain ⟨h1, h2⟩ := ba h
        have hfr := nf h1
        subst hfr
        have e1 := of_decide_eq_true h2
        have e2 := of_decide_eq_true h3
        subst e1 e2
        have qa := (sE xa Γ k a cx h4).1
        have qb := (sE xa Γ k b cx h5).1
        have qc := (sE xa Γ k c cx h6).1
        exact ⟨e_chn cx qa qb qc (nf h7), fun _ => t_chn cx qa qb qc (nf h7)⟩
      | [], _, h => (have h : false = true := h; cases h)
      | [_], _, h => (have h : false = true := h; cases h)
      | _ :: _ :: _ :: _, _, h => (have h : false = true := h; cases h)
      | [_, _], [], h => (have h : false = true := h; cases h)
      | [_, _], [_], h => (have h : false = true := h; cases h)
      | [_, _], _ :: _ :: _ :: _, h => (have h : false = true := h; cases h)
    | _ => (have h : false = true := h; cases h)
  | .lst es, X, E, sc, Z, fr, pe, cx, h => by
    cases pe with
    | List xs p =>
      unfold corr at h
      obtain ⟨h1, h2⟩ := ba h
      have q := fun fr => e_lst (p := p) (fr := fr) (sA xa Γ k es cx h1).1 h2
      exact ⟨q fr, fun _ => t_val (q false) rfl⟩
    | _ => (have h : false = true := h; cases h)
  | .tup es, X, E, sc, Z, fr, pe, cx, h => by
    cases pe with
    | Tuple xs kk p =>
      unfold corr at h
      obtain ⟨h, h3⟩ := ba h
      obtain ⟨h1, h2⟩ := ba h
      have hfr := nf h1
      subst hfr
      have q := e_tup (p := p) (kk := kk) (sA xa Γ k es cx h2).1 h3
      exact ⟨q, fun _ => t_val q rfl⟩
    | _ => (have h : false = true := h; cases h)
  | .idx a b, X, E, sc, Z, fr, pe, cx, h => by
    cases pe with
    | Subscript v s p =>
      unfold corr at h
      obtain ⟨h, h4⟩ := ba h
      obtain ⟨h, h3⟩ := ba h
      obtain ⟨h1, h2⟩ := ba h
      have hfr := nf h1
      subst hfr
      have q := e_idx (p := p) cx (sE xa Γ k a cx h2).1 (sE xa Γ k b cx h3).1 h4
      exact ⟨q, fun _ => t_val q rfl⟩
    | _ => (have h : false = true := h; cases h)
  | .idxo i b, X, E, sc, Z, fr, pe, cx, h => by
    unfold corr at h
    split at h <;> try contradiction
    rename_i heq
    cases heq
    obtain ⟨h, h5⟩ := ba h
    obtain ⟨h, h4⟩ := ba h
    obtain ⟨h, h3⟩ := ba h
    obtain ⟨h1, h2⟩ := ba h
    have hfr := nf h1
    subst hfr
    refine ⟨e_idxo cx (of_decide_eq_true h2) h3 (sE xa Γ k b cx h4).1 h5, fun _ => t_val (e_idxo cx (of_decide_eq_true h2) h3 (sE xa Γ k b cx h4).1 h5) rfl⟩
  | .sl a lo hi, X, E, sc, Z, fr, pe, cx, h => by
    cases pe with
    | Subscript v s p =>
      cases s with
      | Slice l u st p2 =>
        cases st with
        | none =>
          unfold corr at h
          obtain ⟨h, h3⟩ := ba h
          obtain ⟨h1, h2⟩ := ba h
          have q := fun fr => e_sl (p := p) (p2 := p2) (fr := fr) cx (sE xa Γ k a cx h1).1 (sO xa Γ k lo cx h2) (sO xa Γ k hi cx h3)
          exact ⟨q fr, fun _ => t_val (q false) rfl⟩
        | some _ => (have h : false = true := h; cases h)
      | _ => (have h : false = true := h; cases h)
    | _ => (have h : false = true := h; cases h)
  | .call g es, X, E, sc, Z, fr, pe, cx, h => by
    cases pe with
    | Call f as ks p =>
      cases f with
      | Name x p1 =>
        cases as with
        | nil => (have h : false = true := h; cases h)
        | cons y ys =>
          cases ks with
          | cons _ _ => (have h : false = true := h; cases h)
          | nil =>
            unfold corr at h
            obtain ⟨h, h4⟩ := ba h
            obtain ⟨h, h3⟩ := ba h
            obtain ⟨h1, h2⟩ := ba h
            split at h4
            · rename_i f hf
              obtain ⟨h4, h9⟩ := ba h4
              obtain ⟨h4, h8⟩ := ba h4
              obtain ⟨h4, h7⟩ := ba h4
              obtain ⟨h5, h6⟩ := ba h4
              obtain ⟨qa, qs, _⟩ := sA xa Γ k es cx h3
              have q := fun fr (hfr : fr = true → f.fr = true) => e_call (p := p1) (pos := p) (fr := fr) cx hf (of_decide_eq_true h5) h1 h2 qs h6 h7 hfr qa
              refine ⟨q fr fun e => ?_, fun _ => t_val (q false fun e => by cases e) rfl⟩
              subst e
              exact h9
            · cases h4
      | _ => (have h : false = true := h; cases h)
    | _ => (have h : false = true := h; cases h)
  | .callk g perm es ks, X, E, sc, Z, fr, pe, cx, h => by
    cases pe with
    | Call f as kws p =>
      cases f with
      | Name x p1 =>
        unfold corr at h
        obtain ⟨h, h8⟩ := ba h
        obtain ⟨h, h7⟩ := ba h
        obtain ⟨h, h6⟩ := ba h
        obtain ⟨h, h5⟩ := ba h
        obtain ⟨h, h4⟩ := ba h
        obtain ⟨h, h3⟩ := ba h
        obtain ⟨h1, h2⟩ := ba h
        have hfr := nf h1
        subst hfr
        split at h8
        · rename_i f hf
          obtain ⟨h8, h13⟩ := ba h8
          obtain ⟨h8, h12⟩ := ba h8
          obtain ⟨h8, h11⟩ := ba h8
          obtain ⟨h8, h10⟩ := ba h8
          obtain ⟨h8, h9⟩ := ba h8
          split at h13
          · rename_i ns hns
            obtain ⟨qa, qs, ql⟩ := sA xa Γ k es cx h4
            obtain ⟨qk, qkl⟩ := sK xa Γ k ks cx h5
            have q := e_callk (p := p1) (pos := p) cx hf (of_decide_eq_true h8) h2 h3 qs (List.isEmpty_iff.mp h9) (nf h10) (of_decide_eq_true h11) hns (of_decide_eq_true h13) h6 h7 ql qkl qa qk
            exact ⟨q, fun _ => t_val q rfl⟩
          · cases h13
        · cases h8
      | _ => (have h : false = true := h; cases h)
    | _ => (have h : false = true := h; cases h)
  | .callv i es, X, E, sc, Z, fr, pe, cx, h => by
    cases pe with
    | Call f as ks p =>
      cases f with
      | Name x p1 =>
        cases as with
        | nil => (have h : false = true := h; cases h)
        | cons y ys =>
          cases ks with
          | cons _ _ => (have h : false = true := h; cases h)
          | nil =>
            unfold corr at h
            obtain ⟨h, h5⟩ := ba h
            obtain ⟨h, h4⟩ := ba h
            obtain ⟨h, h3⟩ := ba h
            obtain ⟨h1, h2⟩ := ba h
            have hfr := nf h1
            subst hfr
            obtain ⟨qa, qs, _⟩ := sA xa Γ k es cx h4
            have q := e_callv (p := p1) (pos := p) cx h3 (of_decide_eq_false (nf h2)) qs h5 qa
            exact ⟨q, fun _ => t_val q rfl⟩
      | _ => (have h : false = true := h; cases h)
    | _ => (have h : false = true := h; cases h)
  | .bi b es, X, E, sc, Z, fr, pe, cx, h => by
    cases pe with
    | Call f as ks p =>
      cases f with
      | Name x p1 =>
        cases as with
        | nil => (have h : false = true := h; cases h)
        | cons y ys =>
          cases ks with
          | cons _ _ => (have h : false = true := h; cases h)
          | nil =>
            unfold corr at h
            obtain ⟨h, h4⟩ := ba h
            obtain ⟨h, h3⟩ := ba h
            obtain ⟨h1, h2⟩ := ba h
            have e := of_decide_eq_true h2
            subst e
            obtain ⟨qa, qs, _⟩ := sA xa Γ k es cx h3
            rw [List.all_cons, Bool.and_eq_true] at qs
            have q := fun fr => e_bi (p := p1) (pos := p) (fr := fr) cx h1 qs.1 qs.2 qa h4
            exact ⟨q fr, fun _ => t_val (q false) rfl⟩
      | _ => (have h : false = true := h; cases h)
    | _ => (have h : false = true := h; cases h)
  | .bits a, X, E, sc, Z, fr, pe, cx, h => by
    cases pe with
    | Call f as ks p =>
      cases f with
      | Attribute o n ap =>
        cases as with
        | cons _ _ => (have h : false = true := h; cases h)
        | nil =>
          cases ks with
          | cons _ _ => (have h : false = true := h; cases h)
          | nil =>
            unfold corr at h
            obtain ⟨h, h5⟩ := ba h
            obtain ⟨h, h4⟩ := ba h
            obtain ⟨h, h3⟩ := ba h
            obtain ⟨h1, h2⟩ := ba h
            have hfr := nf h1
            subst hfr
            have e := of_decide_eq_true h2
            subst e
            have q := e_bits (ap := ap) (p := p) (sE xa Γ k a cx h3).1 h4 h5
            exact ⟨q, fun _ => t_val q rfl⟩
      | _ => (have h : false = true := h; cases h)
    | _ => (have h : false = true := h; cases h)
  | .pop i es, X, E, sc, Z, fr, pe, cx, h => by cases pe <;> (have h : false = true := h; cases h)
  | .lc vs tg it c e, X, E, sc, Z, fr, pe, cx, h => by
    cases pe with
    | ListComp elt gs scope p =>
      match gs, h with
      | [⟨t, iter, ifs, kk⟩], h =>
        unfold corr at h
        obtain ⟨h, h10⟩ := ba h
        obtain ⟨h, h9⟩ := ba h
        obtain ⟨h, h8⟩ := ba h
        obtain ⟨h, h7⟩ := ba h
        obtain ⟨h, h6⟩ := ba h
        obtain ⟨h, h5⟩ := ba h
        obtain ⟨h, h4⟩ := ba h
        obtain ⟨h, h3⟩ := ba h
        obtain ⟨h1, h2⟩ := ba h
        have e0 := of_decide_eq_true h1
        subst e0
        have hv : ∀ v ∈ vs, v ∉ Z.own := fun v hv => of_decide_eq_false (nf (List.all_eq_true.mp h2 v hv))
        have hs : ∀ i ∈ tg.slots, i ∈ vs := fun i hi => of_decide_eq_true (List.all_eq_true.mp h8 i hi)
        have qi := sI xa Γ k it cx h5
        have qc := fun (s : Shared) (H : Hp) (A : Addr) (cl : List (Str × Addr)) (fp : List Addr) (Z' : Stt) (hW : Z'.W = Z.W) (ho : Z'.own = Z.own) => sC xa Γ k c (Z := Z') (sc := scope) (by rw [hW]; exact cx.blk s H A cl fp) (by rw [ho]; exact h9)
        have qe := fun (s : Shared) (H : Hp) (A : Addr) (cl : List (Str × Addr)) (fp : List Addr) (Z' : Stt) (hW : Z'.W = Z.W) (ho : Z'.own = Z.own) => (sE xa Γ k e (Z := Z') (sc := scope) (by rw [hW]; exact cx.blk s H A cl fp) (by rw [ho]; exact h10)).1
        have q : ∀ fr, PE X (.ListComp elt [⟨t, iter, ifs, 0⟩] scope p) (semE xa E Z (CF Γ.T k) fr (.lc vs tg it c e)) := fun fr => by
          have base := pe_lc (pos := p) cx.calm cx.nd qi (blk_ok cx h3) (fun s H A cl fp => g_it (cx.blk s H A cl fp) h7) (fun s H A cl fp => ⟨fun pins s σ H Q I ⟨Z', hW, ho, q⟩ => (qc _ _ _ _ _ Z' hW ho).run pins s σ H Q I q⟩)
            (fun s H A cl fp => ⟨fun pins s σ H Q I ⟨Z', hW, ho, q⟩ => (qe _ _ _ _ _ Z' hW ho).run pins s σ H Q I q⟩) (fold_ok h6) (g := gIT X.K tg) (tt := anyC Z.W Z.own xa (CF Γ.T k) c) (te := anyE Z.W Z.own xa (CF Γ.T k) e)
          rw [of_decide_eq_true h4] at base
          exact base.weak fun σ H Q hq => e_lc (pos := p) cx hv h3 (of_decide_eq_true h4) h6 hs h7 qi qc qe hq
        exact ⟨q fr, fun _ => t_val (q false) rfl⟩
      | [], h => (have h : false = true := h; cases h)
      | ⟨_, _, _, _⟩ :: _ :: _, h => (have h : false = true := h; cases h)
    | _ => (have h : false = true := h; cases h)
theorem sA (xa : Nat → Addr) (Γ : Cfg) (k : Nat) : (es : IEs) → ∀ {X : Cx} {E : XK} {sc : Scope} {Z : Stt} {xs : List Expr}, CxOk X Z.W xa E Γ k sc → corrs Γ Z.own sc es xs = true →
    PA X xs (semA xa E Z (CF Γ.T k) es) ∧ xs.all notStar = true ∧ es.owns.length = xs.length
  | .nil, X, E, sc, Z, xs, cx, h => by
    cases xs with
    | nil => exact ⟨a_nil, rfl, rfl⟩
    | cons _ _ => (have h : false = true := h; cases h)
  | .cons e es, X, E, sc, Z, xs, cx, h => by
    cases xs with
    | nil => (have h : false = true := h; cases h)
    | cons x xs =>
      unfold corrs at h
      obtain ⟨h, h3⟩ := ba h
      obtain ⟨h1, h2⟩ := ba h
      obtain ⟨q1, q2, q3⟩ := sA xa Γ k es cx h3
      have hall : (x :: xs).all notStar = true := by rw [List.all_cons, h1, q2]; rfl
      by_cases ho : ∃ i, e = .own i
      · obtain ⟨i, rfl⟩ := ho
        cases x with
        | Name n p =>
          obtain ⟨h4, h5⟩ := ba h2
          exact ⟨a_own cx h5 q1, hall, by show es.owns.length + 1 = xs.length + 1; rw [q3]⟩
        | _ => (have h2 : false = true := h2; cases h2)
      · have ho : ∀ i, e ≠ .own i := fun i z => ho ⟨i, z⟩
        have h2 : corr Γ Z.own sc false e x = true := by
          split at h2
          · exact absurd rfl (ho _)
          · exact h2
        exact ⟨a_cons h1 (sE xa Γ k e cx h2).1 q1 ho, hall, by rw [owns_cons ho]; simp [q3]⟩
theorem sK (xa : Nat → Addr) (Γ : Cfg) (k : Nat) : (es : IEs) → ∀ {X : Cx} {E : XK} {sc : Scope} {Z : Stt} {xs : List Keyword}, CxOk X Z.W xa E Γ k sc → corrk Γ Z.own sc es xs = true →
    PK X xs (semA xa E Z (CF Γ.T k) es) ∧ es.owns.length = xs.length
  | .nil, X, E, sc, Z, xs, cx, h => by
    cases xs with
    | nil => exact ⟨k_nil, rfl⟩
    | cons _ _ => (have h : false = true := h; cases h)
  | .cons e es, X, E, sc, Z, xs, cx, h => by
    cases xs with
    | nil => (have h : false = true := h; cases h)
    | cons x xs =>
      obtain ⟨nm, x, p⟩ := x
      unfold corrk at h
      obtain ⟨h2, h3⟩ := ba h
      obtain ⟨q1, q3⟩ := sK xa Γ k es cx h3
      have ho : ∀ i, e ≠ .own i := fun i z => by subst z; cases x <;> (have h2 : false = true := h2; cases h2)
      exact ⟨k_cons (sE xa Γ k e cx h2).1 q1 ho, by rw [owns_cons ho]; simp [q3]⟩
theorem sO (xa : Nat → Addr) (Γ : Cfg) (k : Nat) : (o : IO) → ∀ {X : Cx} {E : XK} {sc : Scope} {Z : Stt} {x : Option Expr}, CxOk X Z.W xa E Γ k sc → corro Γ Z.own sc o x = true → PO X x (semO xa E Z (CF Γ.T k) o)
  | .none, X, E, sc, Z, x, cx, h => by
    cases x with
    | none => exact o_none
    | some _ => (have h : false = true := h; cases h)
  | .some e, X, E, sc, Z, x, cx, h => by
    cases x with
    | none => (have h : false = true := h; cases h)
    | some x =>
      unfold corro at h
      exact o_some (sE xa Γ k e cx h).1
theorem sC (xa : Nat → Addr) (Γ : Cfg) (k : Nat) : (o : IO) → ∀ {X : Cx} {E : XK} {sc : Scope} {Z : Stt} {xs : List Expr}, CxOk X Z.W xa E Γ k sc → corrc Γ Z.own sc o xs = true → PTs X xs (semC xa E Z (CF Γ.T k) o)
  | .none, X, E, sc, Z, xs, cx, h => by
    cases xs with
    | nil => exact c_none
    | cons _ _ => (have h : false = true := h; cases h)
  | .some e, X, E, sc, Z, xs, cx, h => by
    match xs, h with
    | [], h => (have h : false = true := h; cases h)
    | [x], h =>
      unfold corrc at h
      exact c_some ((sE xa Γ k e cx h).2 rfl)
    | _ :: _ :: _, h => (have h : false = true := h; cases h)
theorem sI (xa : Nat → Addr) (Γ : Cfg) (k : Nat) : (it : II) → ∀ {X : Cx} {E : XK} {sc : Scope} {Z : Stt} {tg x : Expr}, CxOk X Z.W xa E Γ k sc → corri Γ Z.own sc it tg x = true → PI X tg x (semI xa E Z (CF Γ.T k) it)
  | .val e, X, E, sc, Z, tg, x, cx, h => by
    unfold corri at h
    exact i_val cx (sE xa Γ k e cx h).1
  | .rng e, X, E, sc, Z, tg, x, cx, h => by
    match x, h with
    | .Call (.Name n _) [y] [] _, h =>
      unfold corri at h
      obtain ⟨h, h4⟩ := ba h
      obtain ⟨h, h3⟩ := ba h
      obtain ⟨h1, h2⟩ := ba h
      have e0 := of_decide_eq_true h2
      subst e0
      exact i_rng cx h1 h3 (sE xa Γ k e cx h4).1
  | .rng2 a b, X, E, sc, Z, tg, x, cx, h => by
    match x, h with
    | .Call (.Name n _) [y, z] [] _, h =>
      unfold corri at h
      obtain ⟨h, h6⟩ := ba h
      obtain ⟨h, h5⟩ := ba h
      obtain ⟨h, h4⟩ := ba h
      obtain ⟨h, h3⟩ := ba h
      obtain ⟨h1, h2⟩ := ba h
      have e0 := of_decide_eq_true h2
      subst e0
      exact i_rng2 cx h1 h3 h4 (sE xa Γ k a cx h5).1 (sE xa Γ k b cx h6).1
  | .enum e, X, E, sc, Z, tg, x, cx, h => by
    match tg, x, h with
    | .Tuple _ _ _, .Call (.Name n _) [y] [] _, h =>
      unfold corri at h
      obtain ⟨h, h4⟩ := ba h
      obtain ⟨h, h3⟩ := ba h
      obtain ⟨h1, h2⟩ := ba h
      have e0 := of_decide_eq_true h2
      subst e0
      exact i_enum cx h1 h3 (sE xa Γ k e cx h4).1
  | .zip a b, X, E, sc, Z, tg, x, cx, h => by
    match tg, x, h with
    | .Tuple _ _ _, .Call (.Name n _) [y, z] [] _, h =>
      unfold corri at h
      obtain ⟨h, h6⟩ := ba h
      obtain ⟨h, h5⟩ := ba h
      obtain ⟨h, h4⟩ := ba h
      obtain ⟨h, h3⟩ := ba h
      obtain ⟨h1, h2⟩ := ba h
      have e0 := of_decide_eq_true h2
      subst e0
      exact i_zip cx h1 h3 h4 (sE xa Γ k a cx h5).1 (sE xa Γ k b cx h6).1
end
end VI
/-! VIi: statements. -/
namespace VI
open PySem PySem.Spec PyProof.Rows L2

/-! ### what never goes on -/
mutual
def stops : IS → Bool
  | .ret _ => true
  | .retOwn _ => true
  | .brk => true
  | .cnt => true
  | .raise _ _ => true
  | .never => true
  | .ifs _ a b => stopss a && stopss b
  | _ => false
def stopss : ISs → Bool
  | .nil => false
  | .cons s ss => stops s || stopss ss
end
theorem sbind_next {α : Type} {r : Res α} {f : α → Env → SRes} {env' : Env} (h : r.sbind f = .next env') : ∃ a e, r = .ok a e ∧ f a e = .next env' := by
  cases r with
  | ok a e => exact ⟨a, e, rfl, h⟩
  | exc k d => cases h
  | bad => cases h
mutual
theorem stops_ok (C : CT) : (s : IS) → stops s = true → ∀ env env', ex C s env ≠ .next env'
  | .ret e, _, env, env', q => by
    unfold ex at q
    obtain ⟨a, e1, _, q⟩ := sbind_next q
    cases q
  | .retOwn i, _, env, env', q => by
    unfold ex at q
    split at q <;> cases q
  | .brk, _, env, env', q => by unfold ex at q; cases q
  | .cnt, _, env, env', q => by unfold ex at q; cases q
  | .raise k e, _, env, env', q => by
    unfold ex at q
    obtain ⟨a, e1, _, q⟩ := sbind_next q
    cases q
  | .never, _, env, env', q => by unfold ex at q; cases q
  | .ifs c a b, h, env, env', q => by
    unfold stops at h
    obtain ⟨h1, h2⟩ := ba h
    unfold ex at q
    obtain ⟨t, e1, _, q⟩ := sbind_next q
    cases t with
    | true => exact stopss_ok C a h1 e1 env' q
    | false => exact stopss_ok C b h2 e1 env' q
  | .set .., h, _, _, _ => by unfold stops at h; cases h
  | .par .., h, _, _, _ => by unfold stops at h; cases h
  | .par3 .., h, _, _, _ => by unfold stops at h; cases h
  | .app .., h, _, _, _ => by unfold stops at h; cases h
  | .seti .., h, _, _, _ => by unfold stops at h; cases h
  | .expr .., h, _, _, _ => by unfold stops at h; cases h
  | .whl .., h, _, _, _ => by unfold stops at h; cases h
  | .for_ .., h, _, _, _ => by unfold stops at h; cases h
  | .pass, h, _, _, _ => by unfold stops at h; cases h
  | .frz .., h, _, _, _ => by unfold stops at h; cases h
theorem stopss_ok (C : CT) : (ss : ISs) → stopss ss = true → ∀ env env', exs C ss env ≠ .next env'
  | .nil, h, _, _, _ => by unfold stopss at h; cases h
  | .cons s ss, h, env, env', q => by
    unfold stopss at h
    unfold exs at q
    split at q
    · rename_i e1 e2
      rcases Bool.or_eq_true_iff.mp h with h | h
      · exact stops_ok C s h env e1 e2
      · exact stopss_ok C ss h e1 env' q
    · rename_i hne
      exact hne _ q
end

/-! ### what a statement asks -/
/-- what a return gives -/
def RetV (Z : Stt) (fr : Bool) (S H : Hp) (d : D) (v : V) : Prop := (fr = true → ∃ p es ws, d = .lst es ∧ v = .ref p ∧ H p = some (.lst ws) ∧ S p = none ∧ Reps Z.W S es ws ∧ Z.H0 p = none) ∧ (fr = false → Rep Z.W S d v)
def FinS (ex : Nat → D → Prop) (Z : Stt) (S : Hp) (own' lp : List Nat) (fr : Bool) (r : SRes) (D : Ends) : Prop := match r with
  | .next env' => ∀ σ' H' S', Rel { Z with own := own' } σ' S' H' env' → Sub S S' → D.nx σ' H'
  | .brk env' => ∀ σ' H' S', Rel { Z with own := lp } σ' S' H' env' → Sub S S' → D.bk σ' H'
  | .cnt env' => ∀ σ' H' S', Rel { Z with own := lp } σ' S' H' env' → Sub S S' → D.ct σ' H'
  | .ret d env' => (fr = true → isL d = true) ∧ ∀ own2 v σ' H' S', Rel { Z with own := own2 } σ' S' H' env' → Sub S S' → RetV Z fr S' H' d v → D.rt v H'
  | .exc k d => ex k d
  | .bad => False
theorem FinS.mono {ex : Nat → D → Prop} {Z : Stt} {S S' : Hp} {own' lp : List Nat} {fr : Bool} {r : SRes} {D : Ends} (h : FinS ex Z S own' lp fr r D) (hs : Sub S S') : FinS ex Z S' own' lp fr r D := by
  cases r with
  | next env' => exact fun σ' H' S2 R s2 => h σ' H' S2 R (hs.trans s2)
  | brk env' => exact fun σ' H' S2 R s2 => h σ' H' S2 R (hs.trans s2)
  | cnt env' => exact fun σ' H' S2 R s2 => h σ' H' S2 R (hs.trans s2)
  | ret d env' => exact ⟨h.1, fun own2 v σ' H' S2 R s2 => h.2 own2 v σ' H' S2 R (hs.trans s2)⟩
  | exc k d => exact h
  | bad => exact h
/-- an expression ahead of a statement's rest -/
theorem FinS.bind {α β : Type} {ex : Nat → D → Prop} {Z : Stt} {σ : L2.St} {S : Hp} {V1 : Hp → Hp → Env → α → β → Prop} {own' lp : List Nat} {fr : Bool} {r : Res α} {f : α → Env → SRes} {D : Ends} (h : FinS ex Z S own' lp fr (r.sbind f) D) :
    Fin ex Z σ S V1 r (fun b H' => ∃ S' env' a, r = .ok a env' ∧ Rel Z σ S' H' env' ∧ Sub S S' ∧ V1 S' H' env' a b ∧ FinS ex Z S' own' lp fr (f a env') D) := by
  cases r with
  | ok a env' => exact fun b H' S' R hs v => ⟨S', env', a, rfl, R, hs, v, FinS.mono (r := f a env') h hs⟩
  | exc k d => exact h
  | bad => exact h
def sameM (a b : List Nat) : Bool := a.all (fun i => decide (i ∈ b)) && b.all (fun i => decide (i ∈ a))
theorem sameM_ok {a b : List Nat} (h : sameM a b = true) : ∀ i, i ∈ a ↔ i ∈ b := fun i => by
  obtain ⟨h1, h2⟩ := ba h
  exact ⟨fun z => of_decide_eq_true (List.all_eq_true.mp h1 i z), fun z => of_decide_eq_true (List.all_eq_true.mp h2 i z)⟩
/-- marks that agree as sets, where the end is reached -/
theorem FinS.marks {ex : Nat → D → Prop} {Z : Stt} {S : Hp} {own1 own2 lp : List Nat} {fr : Bool} {r : SRes} {D : Ends} (h : FinS ex Z S own2 lp fr r D) (hm : (∀ env', r ≠ .next env') ∨ ∀ i, i ∈ own1 ↔ i ∈ own2) : FinS ex Z S own1 lp fr r D := by
  cases r with
  | next env' =>
    rcases hm with hm | hm
    · exact absurd rfl (hm env')
    · exact fun σ' H' S' R hs => h σ' H' S' (Rel.marks (Z := { Z with own := own1 }) R fun i => (hm i).symm) hs
  | brk env' => exact h
  | cnt env' => exact h
  | ret d env' => exact h
  | exc k d => exact h
  | bad => exact h
section
variable (xa : Nat → Addr) (E : XK) (Z : Stt) (C : CT) (own' lp : List Nat) (fr : Bool)
def semS (s : IS) : TS := fun D σ H => ∃ S env, Rel Z σ S H env ∧ FinS (Exs Z.W xa E Z) Z S own' lp fr (ex C s env) D
def semSs (ss : ISs) : TS := fun D σ H => ∃ S env, Rel Z σ S H env ∧ FinS (Exs Z.W xa E Z) Z S own' lp fr (exs C ss env) D
end

/-! ### the match -/
/-- name = [..] exchanges its stores -/
def swB (sc : Scope) (x : Str) (px : Pos) : Expr → Bool
  | .ListComp _ _ s pos => (sc.names.lookup x == some .local) && (px.line == pos.line) && !(s.names.any fun y => y.1 == x && (y.2 == .local || y.2 == .cell))
  | .SetComp .. => true
  | .DictComp .. => true
  | _ => false
def starX : Expr → Bool
  | .Starred .. => true
  | _ => false
def lineN (sc : Scope) (line : Nat) : Expr → Option Str
  | .Name x p => if sc.names.lookup x == some .local && p.line == line then some x else none
  | _ => none
/-- a, b = x, y: whether the stores are exchanged, and of which names -/
def swS (sc : Scope) (ts vs : List Expr) : Option (Option (List Str)) :=
  if (!(ts.length == 2 || ts.length == 3) || vs.length != ts.length) = true then some none
  else if vs.any starX = true then some none
  else
    let names := ts.filterMap (lineN sc ((ts.head?.map (·.pos.line)).getD 0))
    if (names.length != ts.length || names.eraseDups.length != names.length) = true then some none
    else if vs.all (foldedForSure 8) = true then some none
    else if vs.all (constantsAlone 8) = true then none
    else some (some names)
theorem swB_ok {env : PySem.Env} {sc : Scope} {x : Str} {px : Pos} {e : Expr} {l : Nat} (hs : env.scope = sc) (hk : sc.kind = .function) (hn : (match e with
    | .SetComp .. => true
    | .DictComp .. => true
    | _ => false) = false) : swapsWith e (some (.Name x px)) l env = pure (swB sc x px e) := by
  subst hs
  have hb : env.blockKind = .function := by unfold PySem.Env.blockKind; rw [hk]; rfl
  cases e <;> first | rfl | (cases hn) | skip
  unfold swapsWith swB
  simp only [hb]
  rfl
theorem swS_ok {env : PySem.Env} {sc : Scope} {ts vs : List Expr} {a b : Nat} {c d : Pos} {o : Option (List Str)} (hs : env.scope = sc) (hk : sc.kind = .function) (h : swS sc ts vs = some o) : swappedStores [.Tuple ts a c] (.Tuple vs b d) env = pure o := by
  subst hs
  have hb : env.blockKind = .function := by unfold PySem.Env.blockKind; rw [hk]; rfl
  unfold swS at h
  unfold swappedStores
  simp only [hb]
  change (if (!(ts.length == 2 || ts.length == 3) || vs.length != ts.length || ScopeKind.function != ScopeKind.function) = true then pure none
    else if vs.any starX = true then pure none
    else if ((List.filterMap (lineN env.scope ((ts.head?.map (·.pos.line)).getD 0)) ts).length != ts.length || (List.filterMap (lineN env.scope ((ts.head?.map (·.pos.line)).getD 0)) ts).eraseDups.length != (List.filterMap (lineN env.scope ((ts.head?.map (·.pos.line)).getD 0)) ts).length) = true then pure none
    else if vs.all (foldedForSure 8) = true then pure none
    else if vs.all (constantsAlone 8) = true then (unsupported "assign.tuple-of-constant-expressions:order-of-the-stores" >>= fun _ => pure (some (List.filterMap (lineN env.scope ((ts.head?.map (·.pos.line)).getD 0)) ts)))
    else pure (some (List.filterMap (lineN env.scope ((ts.head?.map (·.pos.line)).getD 0)) ts))) = pure o
  have e0 : (!(ts.length == 2 || ts.length == 3) || vs.length != ts.length || ScopeKind.function != ScopeKind.function) = (!(ts.length == 2 || ts.length == 3) || vs.length != ts.length) := Bool.or_false _
  rw [e0]
  split at h
  · rename_i q; rw [if_pos q]; cases h; rfl
  rename_i q; rw [if_neg q]
  split at h
  · rename_i q; rw [if_pos q]; cases h; rfl
  rename_i q; rw [if_neg q]
  simp only at h
  split at h
  · rename_i q; rw [if_pos q]; cases h; rfl
  rename_i q; rw [if_neg q]
  split at h
  · rename_i q; rw [if_pos q]; cases h; rfl
  rename_i q; rw [if_neg q]
  split at h
  · cases h
  rename_i q; rw [if_neg q]
  cases h
  rfl
def lcOk : IE → Expr → Bool
  | .lc .., .ListComp .. => true
  | _, .ListComp .. => false
  | _, .SetComp .. => false
  | _, .DictComp .. => false
  | _, _ => true
def setOk (sc : Scope) (e : IE) : IT → Bool → Expr → Expr → Bool
  | .nm _, _, .Name .., x => lcOk e x
  | .tp _, false, .Tuple ts _ _, .Tuple vs _ _ => (match swS sc ts vs with
    | some none => true
    | _ => false)
  | .tp _, false, .Tuple .., _ => true
  | _, _, _, _ => false
def lclC (Γ : Cfg) (sc : Scope) (i : Nat) (x : Str) : Bool := decide (Γ.N[i]? = some x) && (sc.names.lookup x == some .local)
mutual
def corrS (Γ : Cfg) (sc : Scope) (par : List Nat) (fr : Bool) : IS → List Nat → List Nat → Stmt → Option (List Nat)
  | .set t f e, own, _, .Assign [tg] x _ => if (t.slots.all (fun i => !decide (i ∈ par)) && itC Γ sc t tg && corr Γ own sc f e x && setOk sc e t f tg x) = true then some (if f = true then t.slots ++ own else own.filter fun j => !decide (j ∈ t.slots)) else none
  | .par i j a b, own, _, .Assign [.Tuple [.Name x px, .Name y py] k1 p1] (.Tuple [ea, eb] k2 p2) _ =>
      if (decide (i ≠ j) && !decide (i ∈ par) && !decide (j ∈ par) && lclC Γ sc i x && lclC Γ sc j y && corrs Γ own sc (.cons a (.cons b .nil)) [ea, eb] && noOwn (IEs.cons a (.cons b .nil)).owns && decide (swS sc [.Name x px, .Name y py] [ea, eb] = some (some [x, y]))) = true then some ((own.filter (· ≠ i)).filter (· ≠ j)) else none
  | .par3 i j l a b c, own, _, .Assign [.Tuple [.Name x px, .Name y py, .Name z pz] k1 p1] (.Tuple [ea, eb, ec] k2 p2) _ =>
      if (decide (i ≠ j) && decide (i ≠ l) && decide (j ≠ l) && !decide (i ∈ par) && !decide (j ∈ par) && !decide (l ∈ par) && lclC Γ sc i x && lclC Γ sc j y && lclC Γ sc l z && corrs Γ own sc (.cons a (.cons b (.cons c .nil))) [ea, eb, ec] && noOwn (IEs.cons a (.cons b (.cons c .nil))).owns && decide (swS sc [.Name x px, .Name y py, .Name z pz] [ea, eb, ec] = some (some [x, y, z]))) = true then some (((own.filter (· ≠ i)).filter (· ≠ j)).filter (· ≠ l)) else none
  | .app i e, own, _, .Expr (.Call (.Attribute (.Name x _) n ap) [y] [] cp) _ => if (decide (n = "append") && decide (i ∈ own) && slotC Γ sc i x && corrs Γ own sc (.cons e .nil) [y] && noOwn (IEs.cons e .nil).owns && (ap.endLine == cp.line)) = true then some own else none
  | .seti i e1 e2, own, _, .Assign [.Subscript (.Name x _) ie _] ve _ => if (decide (i ∈ own) && slotC Γ sc i x && corr Γ own sc false e1 ie && corr Γ own sc false e2 ve && plainIx ie) = true then some own else none
  | .expr e, own, _, .Expr x _ => if (corr Γ own sc false e x && notLc x) = true then some own else none
  | .ret e, own, _, .Return (some x) _ => if corr Γ own sc fr e x = true then some own else none
  | .retOwn i, own, _, .Return (some (.Name x _)) _ => if (fr && decide (i ∈ own) && !decide (i ∈ par) && slotC Γ sc i x) = true then some own else none
  | .ifs c a b, own, lp, .If t x y _ => if corr Γ own sc false c t = true then (match corrSs Γ sc par fr a own lp x, corrSs Γ sc par fr b own lp y with
    | some o1, some o2 => if stopss b || sameM o1 o2 then some o1 else if stopss a then some o2 else none
    | _, _ => none) else none
  | .whl c a, own, _, .While t body [] _ => if corr Γ own sc false c t = true then (match corrSs Γ sc par fr a own own body with
    | some o1 => if stopss a || sameM own o1 then some own else none
    | none => none) else none
  | .for_ t it a, own, _, .For tg x body [] _ => if (t.slots.all (fun i => !decide (i ∈ par) && !decide (i ∈ own)) && itC Γ sc t tg && corri Γ own sc it tg x && notSet x) = true then (match corrSs Γ sc par fr a own own body with
    | some o1 => if stopss a || sameM own o1 then some own else none
    | none => none) else none
  | .pass, own, _, .Pass _ => some own
  | .brk, own, lp, .Break _ => if sameM lp own then some own else none
  | .cnt, own, lp, .Continue _ => if sameM lp own then some own else none
  | .never, own, _, _ => some own
  | _, _, _, _ => none
def corrSs (Γ : Cfg) (sc : Scope) (par : List Nat) (fr : Bool) : ISs → List Nat → List Nat → List Stmt → Option (List Nat)
  | .nil, own, _, [] => some own
  | .cons (.frz i) ss, own, lp, sts => if decide (i ∈ par) = true then none else corrSs Γ sc par fr ss (own.filter (· ≠ i)) lp sts
  | .cons .never _, own, _, _ => some own
  | .cons s ss, own, lp, st :: sts => (match corrS Γ sc par fr s own lp st with
    | some o1 => corrSs Γ sc par fr ss o1 lp sts
    | none => none)
  | _, _, _, _ => none
end

/-! ### each statement -/
theorem _root_.L2.PS.weak {X : Cx} {e : Stmt} {t t' : TS} (h : PS X e t) (hq : ∀ D σ H, t' D σ H → t D σ H) : PS X e t' := ⟨fun pins s σ H D I q => h.run pins s σ H D I (hq D σ H q)⟩
theorem _root_.L2.PSs.weak {X : Cx} {e : List Stmt} {t t' : TS} (h : PSs X e t) (hq : ∀ D σ H, t' D σ H → t D σ H) : PSs X e t' := ⟨fun pins s σ H D I q => h.run pins s σ H D I (hq D σ H q)⟩
structure SxOk (X : Cx) (sc : Scope) : Prop where
  scope : X.env.scope = sc
  kind : sc.kind = .function
  pass : PassesOwn (model X.prog X.w) X.A X.env X.xe
section
variable {X : Cx} {xa : Nat → Addr} {E : XK} {Γ : Cfg} {k : Nat} {sc : Scope} {Z : Stt} {C : CT} {own' lp : List Nat} {fr : Bool}
theorem set_nm {i : Nat} {f : Bool} {e : IE} {D : Ends} {σ : L2.St} {H : Hp} (hp : ∀ p ∈ Z.P, p.1 ≠ i) (ho : own' = if f = true then [i] ++ Z.own else Z.own.filter fun j => !decide (j ∈ [i])) (h : semS xa E Z C own' lp fr (.set (.nm i) f e) D σ H) : tAsg (semE xa E Z C f e) (gName i) D σ H := by
  obtain ⟨S, env, R, fin⟩ := h
  unfold ex at fin
  refine ⟨S, env, R, (FinS.bind fin).post fun v H1 q => ?_⟩
  obtain ⟨S1, env1, d, _, R1, hs1, vx, f1⟩ := q
  split at f1
  · exact f1.elim
  · rename_i hf
    unfold bindT at f1
    simp only at f1
    split at f1
    · rename_i env2 hb
      split at hb
      · rename_i hl
        cases hb
        show D.nx (σ.set i (some v)) H1
        cases f with
        | false =>
          refine f1 _ _ _ (Rel.marks (Z := { Z with own := Z.own.filter (· ≠ i) }) (R1.store hl hp (vx_false vx)) fun j => ?_) (Sub.refl _)
          rw [ho]
          simp
        | true =>
          have hd : isL d = true := by cases q : isL d <;> simp_all
          refine f1 _ _ _ (Rel.marks (Z := { Z with own := i :: Z.own }) (R1.storeOwn hl hp (vx.1 rfl hd)) fun j => ?_) (Sub.refl _)
          rw [ho]
          simp
      · cases hb
    · exact f1.elim
theorem swTup {ts : List Expr} {a l : Nat} {b : Pos} {x : Expr} {env : PySem.Env} : swapsWithSole [.Tuple ts a b] x l env = pure false := by cases x <;> rfl
theorem s_set {t : IT} {f : Bool} {e : IE} {tg x : Expr} {p : Pos} {par : List Nat} (cx : CxOk X Z.W xa E Γ k sc) (sx : SxOk X sc) (hP : ∀ p ∈ Z.P, p.1 ∈ par) (h1 : t.slots.all (fun i => !decide (i ∈ par)) = true) (h2 : itC Γ sc t tg = true) (h3 : corr Γ Z.own sc f e x = true) (h4 : setOk sc e t f tg x = true)
    (ho : own' = if f = true then t.slots ++ Z.own else Z.own.filter fun j => !decide (j ∈ t.slots)) : PS X (.Assign [tg] x p) (semS xa E Z (CF Γ.T k) own' lp fr (.set t f e)) := by
  have hsl : ∀ p ∈ Z.P, p.1 ∉ t.slots := fun p hp z => of_decide_eq_false (nf (List.all_eq_true.mp h1 _ z)) (hP p hp)
  have qe := (sE xa Γ k e cx h3).1
  cases t with
  | nm i =>
    have hp : ∀ p ∈ Z.P, p.1 ≠ i := fun p hp z => hsl p hp (by rw [z]; exact List.mem_singleton.mpr rfl)
    cases tg <;> first | (have h2 : false = true := h2; cases h2) | skip
    rename_i y py
    replace h4 : lcOk e x = true := h4
    replace h2 : (decide (Γ.N[i]? = some y) && locC sc y) = true := h2
    obtain ⟨h5, h6⟩ := ba h2
    have h5 := of_decide_eq_true h5
    cases hsw : swB sc y py x with
    | false =>
      refine PS.weak (ps_set (i := i) cx.nd (by rw [cx.N]; exact h5) (cx.loc y h6).1 qe ?_ (cx.loc y h6).2) fun D σ H h => set_nm hp ho h
      rw [swB_ok sx.scope sx.kind, hsw]
      cases x <;> first | rfl | (cases e <;> (have h4 : false = true := h4; cases h4))
    | true =>
      cases x <;> first | (have hsw : false = true := hsw; cases hsw) | (cases e <;> (have h4 : false = true := h4; cases h4)) | skip
      rename_i elt gs scope pl
      cases e <;> first | (have h4 : false = true := h4; cases h4) | skip
      rename_i vs tg2 it c e
      match gs, h3, hsw, qe with
      | [⟨t, iter, ifs, kk⟩], h3, hsw, qe =>
        unfold corr at h3
        obtain ⟨h, g10⟩ := ba h3
        obtain ⟨h, g9⟩ := ba h
        obtain ⟨h, g8⟩ := ba h
        obtain ⟨h, g7⟩ := ba h
        obtain ⟨h, g6⟩ := ba h
        obtain ⟨h, g5⟩ := ba h
        obtain ⟨h, g4⟩ := ba h
        obtain ⟨h, g3⟩ := ba h
        obtain ⟨g1, g2⟩ := ba h
        have e0 := of_decide_eq_true g1
        subst e0
        have hv : ∀ v ∈ vs, v ∉ Z.own := fun v hv => of_decide_eq_false (nf (List.all_eq_true.mp g2 v hv))
        have hs : ∀ i ∈ tg2.slots, i ∈ vs := fun i hi => of_decide_eq_true (List.all_eq_true.mp g8 i hi)
        have qi := sI xa Γ k it cx g5
        have qc := fun (s : Shared) (H : Hp) (A : Addr) (cl : List (Str × Addr)) (fp : List Addr) (Z' : Stt) (hW : Z'.W = Z.W) (ho : Z'.own = Z.own) => sC xa Γ k c (Z := Z') (sc := scope) (by rw [hW]; exact cx.blk s H A cl fp) (by rw [ho]; exact g9)
        have qe := fun (s : Shared) (H : Hp) (A : Addr) (cl : List (Str × Addr)) (fp : List Addr) (Z' : Stt) (hW : Z'.W = Z.W) (ho : Z'.own = Z.own) => (sE xa Γ k e (Z := Z') (sc := scope) (by rw [hW]; exact cx.blk s H A cl fp) (by rw [ho]; exact g10)).1
        have hyl : X.env.scope.names.lookup y = some .local := by
          unfold swB at hsw
          obtain ⟨hsw, _⟩ := ba hsw
          obtain ⟨hsw, _⟩ := ba hsw
          rw [sx.scope]
          exact eq_of_beq hsw
        have base := ps_setLc (i := i) (y := y) (py := py) (pos := pl) (spos := p) cx.calm cx.nd (by rw [cx.N]; exact h5) hyl (by rw [swB_ok sx.scope sx.kind rfl, hsw]) qi (blk_ok cx g3) (fun s H A cl fp => g_it (cx.blk s H A cl fp) g7) (fun s H A cl fp => ⟨fun pins s σ H Q I ⟨Z', hW, ho, q⟩ => (qc _ _ _ _ _ Z' hW ho).run pins s σ H Q I q⟩)
          (fun s H A cl fp => ⟨fun pins s σ H Q I ⟨Z', hW, ho, q⟩ => (qe _ _ _ _ _ Z' hW ho).run pins s σ H Q I q⟩) (fold_ok g6) (g := gIT X.K tg2) (tt := anyC Z.W Z.own xa (CF Γ.T k) c) (te := anyE Z.W Z.own xa (CF Γ.T k) e)
        rw [of_decide_eq_true g4] at base
        refine base.weak fun D σ H h => ?_
        exact e_lc (pos := pl) cx hv g3 (of_decide_eq_true g4) g6 hs g7 qi qc qe (set_nm hp ho h)
      | [], h3, _, _ => (have h3 : false = true := h3; cases h3)
      | ⟨_, _, _, _⟩ :: _ :: _, h3, _, _ => (have h3 : false = true := h3; cases h3)
  | tp is =>
    cases tg <;> first | (have h2 : false = true := h2; cases h2) | skip
    rename_i ts kt pt
    have hf : f = false := by
      cases f
      · rfl
      · cases x <;> (have h4 : false = true := h4; cases h4)
    subst hf
    refine PS.weak (ps_asg qe (g_it cx h2) swTup ?_) fun D σ H h => ?_
    · cases x <;> first | rfl | skip
      rename_i vs k2 p2
      have h4 : (match swS sc ts vs with
        | some none => true
        | _ => false) = true := h4
      split at h4
      · rename_i h5
        exact swS_ok sx.scope sx.kind h5
      · cases h4
    · obtain ⟨S, env, R, fin⟩ := h
      unfold ex at fin
      refine ⟨S, env, R, (FinS.bind fin).post fun v H1 q => ?_⟩
      obtain ⟨S1, env1, d, _, R1, hs1, vx, f1⟩ := q
      rw [if_neg (by simp)] at f1
      split at f1
      · rename_i env2 hb
        show gIT X.K (.tp is) v σ H1 D.nx
        rw [← cx.K]
        refine target_rel R1 hb hsl (vx_false vx) fun σ' own2 hown R2 _ => ?_
        refine f1 _ _ _ (Rel.marks (Z := { Z with own := own2 }) R2 fun j => ?_) (Sub.refl _)
        rw [ho, hown]
        simp
      · exact f1.elim
/-- two values stored at once -/
theorem par_eq {C : CT} {i j : Nat} {a b : IE} {env : Env} : ex C (.par i j a b) env = (evs C (.cons a (.cons b .nil)) env).sbind fun ds env2 => match ds with
    | [x, y] => if i < env2.length ∧ j < env2.length then .next ((env2.set i (some x)).set j (some y)) else .bad
    | _ => .bad := by
  unfold ex evs
  cases ev C a env with
  | ok x env1 =>
    simp only [Res.sbind_ok, Res.bind_ok]
    unfold evs
    cases ev C b env1 with
    | ok y env2 =>
      simp only [Res.sbind_ok, Res.bind_ok]
      unfold evs
      rfl
    | exc k d => rfl
    | bad => rfl
  | exc k d => rfl
  | bad => rfl
theorem par3_eq {C : CT} {i j l : Nat} {a b c : IE} {env : Env} : ex C (.par3 i j l a b c) env = (evs C (.cons a (.cons b (.cons c .nil))) env).sbind fun ds env3 => match ds with
    | [x, y, z] => if i < env3.length ∧ j < env3.length ∧ l < env3.length then .next (((env3.set i (some x)).set j (some y)).set l (some z)) else .bad
    | _ => .bad := by
  unfold ex evs
  cases ev C a env with
  | ok x env1 =>
    simp only [Res.sbind_ok, Res.bind_ok]
    unfold evs
    cases ev C b env1 with
    | ok y env2 =>
      simp only [Res.sbind_ok, Res.bind_ok]
      unfold evs
      cases ev C c env2 with
      | ok z env3 =>
        simp only [Res.sbind_ok, Res.bind_ok]
        unfold evs
        rfl
      | exc k d => rfl
      | bad => rfl
    | exc k d => rfl
    | bad => rfl
  | exc k d => rfl
  | bad => rfl
theorem reps_two {W : Wd} {S : Hp} {x y : D} {vs : List V} (r : Reps W S [x, y] vs) : ∃ v w, vs = [v, w] ∧ Rep W S x v ∧ Rep W S y w := by
  rw [reps_cons] at r
  obtain ⟨v, q, rfl, r1, r⟩ := r
  rw [reps_cons] at r
  obtain ⟨w, q, rfl, r2, r⟩ := r
  rw [reps_nil] at r
  subst r
  exact ⟨v, w, rfl, r1, r2⟩
theorem reps_three {W : Wd} {S : Hp} {x y z : D} {vs : List V} (r : Reps W S [x, y, z] vs) : ∃ u v w, vs = [u, v, w] ∧ Rep W S x u ∧ Rep W S y v ∧ Rep W S z w := by
  rw [reps_cons] at r
  obtain ⟨u, q, rfl, r1, r⟩ := r
  obtain ⟨v, w, rfl, r2, r3⟩ := reps_two r
  exact ⟨u, v, w, rfl, r1, r2, r3⟩
theorem lclC_ok {i : Nat} {x : Str} (cx : CxOk X Z.W xa E Γ k sc) (sx : SxOk X sc) (h : lclC Γ sc i x = true) : X.N[i]? = some x ∧ X.env.scope.names.lookup x = some .local := by
  obtain ⟨h1, h2⟩ := ba h
  exact ⟨by rw [cx.N]; exact of_decide_eq_true h1, by rw [sx.scope]; exact eq_of_beq h2⟩
theorem swSole {ts : List Expr} {a l : Nat} {b : Pos} {vs : List Expr} {a2 : Nat} {b2 : Pos} {env : PySem.Env} : swapsWithSole [.Tuple ts a b] (.Tuple vs a2 b2) l env = pure false := rfl
theorem s_par {i j : Nat} {a b : IE} {x y : Str} {px py p1 p2 p : Pos} {k1 k2 : Nat} {ea eb : Expr} {par : List Nat} (cx : CxOk X Z.W xa E Γ k sc) (sx : SxOk X sc) (hP : ∀ p ∈ Z.P, p.1 ∈ par) (hij : i ≠ j) (hi : i ∉ par) (hj : j ∉ par) (l1 : lclC Γ sc i x = true) (l2 : lclC Γ sc j y = true)
    (hc : corrs Γ Z.own sc (.cons a (.cons b .nil)) [ea, eb] = true) (hn : noOwn (IEs.cons a (.cons b .nil)).owns = true) (hsw : swS sc [.Name x px, .Name y py] [ea, eb] = some (some [x, y])) (ho : own' = (Z.own.filter (· ≠ i)).filter (· ≠ j)) :
    PS X (.Assign [.Tuple [.Name x px, .Name y py] k1 p1] (.Tuple [ea, eb] k2 p2) p) (semS xa E Z (CF Γ.T k) own' lp fr (.par i j a b)) := by
  obtain ⟨n1, n2⟩ := lclC_ok cx sx l1
  obtain ⟨n3, n4⟩ := lclC_ok cx sx l2
  refine PS.weak (ps_par (i := i) (j := j) cx.calm cx.nd n1 n3 hij n2 n4 (sA xa Γ k _ cx hc).1 (swS_ok sx.scope sx.kind hsw) swSole) fun D σ H h => ?_
  obtain ⟨S, env, R, fin⟩ := h
  rw [par_eq] at fin
  refine ⟨S, env, R, (FinS.bind fin).post fun vs H1 q => ?_⟩
  obtain ⟨S1, env1, ds, _, R1, hs1, va, f1⟩ := q
  have rs := va.none hn
  split at f1
  · rename_i d1 d2
    obtain ⟨v, w, rfl, r1, r2⟩ := reps_two rs
    refine ⟨v, w, rfl, ?_⟩
    split at f1
    · rename_i hl
      have Ra := R1.store hl.1 (fun p hp z => hi (z ▸ hP p hp)) r1
      have Rb := Rel.store (Z := { Z with own := Z.own.filter (· ≠ i) }) Ra (by rw [List.length_set]; exact hl.2) (fun p hp (z : p.1 = j) => hj (z ▸ hP p hp)) r2
      subst ho
      exact f1 _ _ _ Rb (Sub.refl _)
    · exact f1.elim
  · exact f1.elim
theorem s_par3 {i j l : Nat} {a b c : IE} {x y z : Str} {px py pz p1 p2 p : Pos} {k1 k2 : Nat} {ea eb ec : Expr} {par : List Nat} (cx : CxOk X Z.W xa E Γ k sc) (sx : SxOk X sc) (hP : ∀ p ∈ Z.P, p.1 ∈ par) (hij : i ≠ j) (hil : i ≠ l) (hjl : j ≠ l) (hi : i ∉ par) (hj : j ∉ par) (hl : l ∉ par) (l1 : lclC Γ sc i x = true) (l2 : lclC Γ sc j y = true) (l3 : lclC Γ sc l z = true)
    (hc : corrs Γ Z.own sc (.cons a (.cons b (.cons c .nil))) [ea, eb, ec] = true) (hn : noOwn (IEs.cons a (.cons b (.cons c .nil))).owns = true) (hsw : swS sc [.Name x px, .Name y py, .Name z pz] [ea, eb, ec] = some (some [x, y, z])) (ho : own' = ((Z.own.filter (· ≠ i)).filter (· ≠ j)).filter (· ≠ l)) :
    PS X (.Assign [.Tuple [.Name x px, .Name y py, .Name z pz] k1 p1] (.Tuple [ea, eb, ec] k2 p2) p) (semS xa E Z (CF Γ.T k) own' lp fr (.par3 i j l a b c)) := by
  obtain ⟨n1, n2⟩ := lclC_ok cx sx l1
  obtain ⟨n3, n4⟩ := lclC_ok cx sx l2
  obtain ⟨n5, n6⟩ := lclC_ok cx sx l3
  refine PS.weak (ps_par3 (i := i) (j := j) (l := l) cx.calm cx.nd n1 n3 n5 hij hil hjl n2 n4 n6 (sA xa Γ k _ cx hc).1 (swS_ok sx.scope sx.kind hsw) swSole) fun D σ H h => ?_
  obtain ⟨S, env, R, fin⟩ := h
  rw [par3_eq] at fin
  refine ⟨S, env, R, (FinS.bind fin).post fun vs H1 q => ?_⟩
  obtain ⟨S1, env1, ds, _, R1, hs1, va, f1⟩ := q
  have rs := va.none hn
  split at f1
  · rename_i d1 d2 d3
    obtain ⟨u, v, w, rfl, r1, r2, r3⟩ := reps_three rs
    refine ⟨u, v, w, rfl, ?_⟩
    split at f1
    · rename_i hl'
      have Ra := R1.store hl'.1 (fun p hp z => hi (z ▸ hP p hp)) r1
      have Rb := Rel.store (Z := { Z with own := Z.own.filter (· ≠ i) }) Ra (by rw [List.length_set]; exact hl'.2.1) (fun p hp (z : p.1 = j) => hj (z ▸ hP p hp)) r2
      have Rc := Rel.store (Z := { Z with own := (Z.own.filter (· ≠ i)).filter (· ≠ j) }) Rb (by rw [List.length_set, List.length_set]; exact hl'.2.2) (fun p hp (z : p.1 = l) => hl (z ▸ hP p hp)) r3
      subst ho
      exact f1 _ _ _ Rc (Sub.refl _)
    · exact f1.elim
  · exact f1.elim
theorem app_eq {C : CT} {i : Nat} {e : IE} {env : Env} : ex C (.app i e) env = match getE env i with
    | none => .bad
    | some _ => (evs C (.cons e .nil) env).sbind fun ds env1 => match ds with
      | [d] => (match getE env1 i with
        | some (.lst xs) => if xs.length < sizeLine then .next (env1.set i (some (.lst (xs ++ [d])))) else .bad
        | _ => .bad)
      | _ => .bad := by
  unfold ex
  cases getE env i with
  | none => rfl
  | some d0 =>
    simp only
    unfold evs
    cases ev C e env with
    | ok x env1 =>
      simp only [Res.sbind_ok, Res.bind_ok]
      unfold evs
      rfl
    | exc k d => rfl
    | bad => rfl
theorem s_app {i : Nat} {e : IE} {x n : Str} {xp ap cp p : Pos} {y : Expr} (cx : CxOk X Z.W xa E Γ k sc) (sx : SxOk X sc) (h1 : n = "append") (hi : i ∈ Z.own) (hs : slotC Γ sc i x = true) (hc : corrs Γ Z.own sc (.cons e .nil) [y] = true) (hn : noOwn (IEs.cons e .nil).owns = true) (hl : (ap.endLine == cp.line) = true) (ho : own' = Z.own) :
    PS X (.Expr (.Call (.Attribute (.Name x xp) n ap) [y] [] cp) p) (semS xa E Z (CF Γ.T k) own' lp fr (.app i e)) := by
  subst h1
  subst ho
  have hst : notStar y = true := by
    unfold corrs at hc
    exact (ba (ba hc).1).1
  have hone : starEach [y] X.env = (false, eval y X.env) :: starEach [] X.env := notStar_each (env := fun X => X.env) hst
  refine PS.weak (ps_expr (pe_bm F.plainAttrs_list F.slot_list_append F.type_list_append mt_append (slot_own cx hs) (sA xa Γ k _ cx hc).1 rfl ?_ hl hone rfl)) fun D σ H h => ?_
  · rw [hone]; rfl
  · obtain ⟨S, env, R, fin⟩ := h
    rw [app_eq] at fin
    obtain ⟨d0, e0, fin⟩ : ∃ d, getE env i = some d ∧ FinS (Exs Z.W xa E Z) Z S Z.own lp fr ((evs (CF Γ.T k) (.cons e .nil) env).sbind fun ds env1 => match ds with
      | [d] => (match getE env1 i with
        | some (.lst xs) => if xs.length < sizeLine then .next (env1.set i (some (.lst (xs ++ [d])))) else .bad
        | _ => .bad)
      | _ => .bad) D := by
      cases e0 : getE env i with
      | some d => rw [e0] at fin; exact ⟨d, rfl, fin⟩
      | none => rw [e0] at fin; exact fin.elim
    obtain ⟨a, ds0, vs0, rfl, s1, hH, hS, _⟩ := R.owned hi e0
    refine ⟨.ref a, s1, .inl ⟨rfl, vs0, .inl (.inl hH)⟩, S, env, R, (FinS.bind fin).post fun vs H1 q => ?_⟩
    obtain ⟨S1, env1, ds, _, R1, hs1, va, f1⟩ := q
    have rs := va.none hn
    split at f1
    · rename_i d
      rw [reps_cons] at rs
      obtain ⟨v, q, rfl, r1, rs⟩ := rs
      rw [reps_nil] at rs
      subst rs
      split at f1
      · rename_i xs e1
        split at f1
        · rename_i hlen
          obtain ⟨b, ds1, vs1, e2, s2, hH1, hS1, rs1, _⟩ := R1.owned hi e1
          cases e2
          rw [s1] at s2
          cases s2
          have hvl : vs1.length < sizeLine := by rw [← rs1.length]; exact hlen
          refine ⟨a, vs1, v, rfl, rfl, hH1, hvl, ?_⟩
          refine f1 _ _ _ (R1.mut hi (by rw [e1]; exact fun q => by cases q) s1 (rs1.append (reps_cons.mpr ⟨v, [], rfl, r1, reps_nil.mpr rfl⟩)) (by rw [List.length_append]; exact hvl)) (Sub.refl _)
        · exact f1.elim
      · exact f1.elim
    · exact f1.elim
theorem s_seti {i : Nat} {e1 e2 : IE} {x : Str} {xp sp p : Pos} {ie ve : Expr} (cx : CxOk X Z.W xa E Γ k sc) (hi : i ∈ Z.own) (hs : slotC Γ sc i x = true) (h1 : corr Γ Z.own sc false e1 ie = true) (h2 : corr Γ Z.own sc false e2 ve = true) (hpl : plainIx ie = true) (ho : own' = Z.own) :
    PS X (.Assign [.Subscript (.Name x xp) ie sp] ve p) (semS xa E Z (CF Γ.T k) own' lp fr (.seti i e1 e2)) := by
  subst ho
  refine PS.weak (ps_asg (sE xa Γ k e2 cx h2).1 (pg_sub (slot_own cx hs) (sE xa Γ k e1 cx h1).1 set_list ?_) ?_ rfl) fun D σ H h => ?_
  · intro v
    cases ie <;> first | rfl | (have hpl : false = true := hpl; cases hpl)
  · cases ve <;> rfl
  · obtain ⟨S, env, R, fin⟩ := h
    unfold ex at fin
    refine ⟨S, env, R, (FinS.bind fin).post fun v H1 q => ?_⟩
    obtain ⟨S1, env1, d, _, R1, hs1, vx, f1⟩ := q
    split at f1
    · exact f1.elim
    · rename_i d0 e0
      obtain ⟨a, ds0, vs0, rfl, s1, hH, hS, _⟩ := R1.owned hi e0
      refine ⟨.ref a, s1, S1, env1, R1, (FinS.bind f1).post fun w H2 q => ?_⟩
      obtain ⟨S2, env2, dk, he, R2, hs2, wx, f2⟩ := q
      clear he
      split at f2
      · rename_i xs z e3
        split at f2
        · rename_i j hj
          obtain ⟨b, ds1, vs1, e4, s2, hH1, hS1, rs1, _⟩ := R2.owned hi e3
          cases e4
          rw [s1] at s2
          cases s2
          have hw := vx_false wx
          rw [rep_int] at hw
          subst hw
          refine ⟨a, vs1, z, j, rfl, rfl, hH1, by rw [← rs1.length]; exact hj, ?_⟩
          refine f2 _ _ _ (R2.mut hi (by rw [e3]; exact fun q => by cases q) s1 (rs1.set j ((vx_false vx).mono hs2)) (by rw [List.length_set]; exact R2.sz _ _ hH1)) (Sub.refl _)
        · exact f2.elim
      · exact f2.elim
theorem s_expr {e : IE} {x : Expr} {p : Pos} (cx : CxOk X Z.W xa E Γ k sc) (h : corr Γ Z.own sc false e x = true) (hn : notLc x = true) (ho : own' = Z.own) : PS X (.Expr x p) (semS xa E Z (CF Γ.T k) own' lp fr (.expr e)) := by
  subst ho
  refine PS.weak (ps_expr (sE xa Γ k e cx h).1 ?_) fun D σ H h => ?_
  · cases x <;> first | rfl | (have hn : false = true := hn; cases hn)
  · obtain ⟨S, env, R, fin⟩ := h
    unfold ex at fin
    refine ⟨S, env, R, (FinS.bind fin).post fun v H1 q => ?_⟩
    obtain ⟨S1, env1, d, _, R1, hs1, vx, f1⟩ := q
    exact f1 _ _ _ R1 (Sub.refl _)
theorem retV_of {σ : L2.St} {S H : Hp} {env : Env} {d : D} {v : V} (vx : Vx Z σ fr S H env d v) (hd : fr = true → isL d = true) : RetV Z fr S H d v := by
  refine ⟨fun hf => ?_, fun hf => vx.2 fun q => by rw [hf] at q; cases q⟩
  obtain ⟨p, es, ws, h1, h2, h3, h4, h5, h6, _⟩ := vx.1 hf (hd hf)
  exact ⟨p, es, ws, h1, h2, h3, h4, h5, h6⟩
theorem s_ret {e : IE} {x : Expr} {p : Pos} (cx : CxOk X Z.W xa E Γ k sc) (h : corr Γ Z.own sc fr e x = true) : PS X (.Return (some x) p) (semS xa E Z (CF Γ.T k) own' lp fr (.ret e)) := by
  refine PS.weak (ps_ret (sE xa Γ k e cx h).1) fun D σ H h => ?_
  obtain ⟨S, env, R, fin⟩ := h
  unfold ex at fin
  refine ⟨S, env, R, (FinS.bind fin).post fun v H1 q => ?_⟩
  obtain ⟨S1, env1, d, _, R1, hs1, vx, f1⟩ := q
  exact f1.2 _ v σ H1 S1 R1 (Sub.refl _) (retV_of vx f1.1)
theorem s_retOwn {i : Nat} {x : Str} {xp p : Pos} {par : List Nat} (cx : CxOk X Z.W xa E Γ k sc) (hP : ∀ p ∈ Z.P, p.1 ∈ par) (hi : i ∈ Z.own) (hp : i ∉ par) (hs : slotC Γ sc i x = true) (hf : fr = true) : PS X (.Return (some (.Name x xp)) p) (semS xa E Z (CF Γ.T k) own' lp fr (.retOwn i)) := by
  subst hf
  refine PS.weak (ps_ret (slot_own cx hs)) fun D σ H h => ?_
  obtain ⟨S, env, R, fin⟩ := h
  unfold ex at fin
  split at fin
  · rename_i d e0
    obtain ⟨a, ds, vs, rfl, s1, hH, hS, rs, h0⟩ := R.owned hi e0
    refine ⟨.ref a, s1, fin.2 _ _ σ H S R (Sub.refl _) ⟨fun _ => ⟨a, ds, vs, rfl, rfl, hH, hS, rs, ?_⟩, fun q => by cases q⟩⟩
    rcases h0 with h0 | ⟨q, hq, rfl⟩
    · exact h0
    · obtain ⟨y1, y2, y3⟩ := R.pa q hq
      have := R.dj q.1 i q.2 y1 hi y3 (by rw [e0]; exact fun q => by cases q) y2 s1
      exact absurd (this ▸ hP q hq) hp
  · exact fin.elim
theorem s_pass {p : Pos} (ho : own' = Z.own) : PS X (.Pass p) (semS xa E Z C own' lp fr .pass) := by
  subst ho
  refine PS.weak ps_pass fun D σ H h => ?_
  obtain ⟨S, env, R, fin⟩ := h
  unfold ex at fin
  exact fin _ _ _ R (Sub.refl _)
theorem s_brk {p : Pos} (h : sameM lp Z.own = true) : PS X (.Break p) (semS xa E Z C own' lp fr .brk) := by
  refine PS.weak ps_break fun D σ H h' => ?_
  obtain ⟨S, env, R, fin⟩ := h'
  unfold ex at fin
  exact fin _ _ _ (R.marks (sameM_ok h)) (Sub.refl _)
theorem s_cnt {p : Pos} (h : sameM lp Z.own = true) : PS X (.Continue p) (semS xa E Z C own' lp fr .cnt) := by
  refine PS.weak ps_continue fun D σ H h' => ?_
  obtain ⟨S, env, R, fin⟩ := h'
  unfold ex at fin
  exact fin _ _ _ (R.marks (sameM_ok h)) (Sub.refl _)
theorem s_never {st : Stmt} : PS X st (semS xa E Z C own' lp fr .never) := PS.weak ps_never fun D σ H h => by
  obtain ⟨S, env, R, fin⟩ := h
  unfold ex at fin
  exact fin.elim
theorem s_if {c : IE} {a b : ISs} {t : Expr} {x y : List Stmt} {p : Pos} {o1 o2 : List Nat} (cx : CxOk X Z.W xa E Γ k sc) (hc : corr Γ Z.own sc false c t = true) (ha : PSs X x (semSs xa E Z (CF Γ.T k) o1 lp fr a)) (hb : PSs X y (semSs xa E Z (CF Γ.T k) o2 lp fr b))
    (h1 : stopss a = true ∨ ∀ i, i ∈ o1 ↔ i ∈ own') (h2 : stopss b = true ∨ ∀ i, i ∈ o2 ↔ i ∈ own') : PS X (.If t x y p) (semS xa E Z (CF Γ.T k) own' lp fr (.ifs c a b)) := by
  refine PS.weak (ps_if ((sE xa Γ k c cx hc).2 rfl) ha hb) fun D σ H h => ?_
  obtain ⟨S, env, R, fin⟩ := h
  unfold ex at fin
  refine ⟨S, env, R, (FinS.bind fin).post fun v H1 q => ?_⟩
  obtain ⟨S1, env1, d, _, R1, hs1, vx, f1⟩ := q
  have vx : d = v := vx
  subst vx
  cases d with
  | true =>
    rw [if_pos rfl]
    exact ⟨S1, env1, R1, f1.marks (h1.imp (fun h env' => stopss_ok _ a h _ env') fun h => h)⟩
  | false =>
    rw [if_neg (by simp)]
    exact ⟨S1, env1, R1, f1.marks (h2.imp (fun h env' => stopss_ok _ b h _ env') fun h => h)⟩
theorem s_whl {c : IE} {a : ISs} {t : Expr} {body : List Stmt} {p : Pos} {o1 : List Nat} (cx : CxOk X Z.W xa E Γ k sc) (sx : SxOk X sc) (hc : corr Γ Z.own sc false c t = true) (hb : PSs X body (semSs xa E Z (CF Γ.T k) o1 Z.own fr a))
    (h1 : stopss a = true ∨ ∀ i, i ∈ Z.own ↔ i ∈ o1) (ho : own' = Z.own) : PS X (.While t body [] p) (semS xa E Z (CF Γ.T k) own' lp fr (.whl c a)) := by
  subst ho
  refine PS.weak (ps_while sx.pass ((sE xa Γ k c cx hc).2 rfl) hb) fun D σ H h => ?_
  obtain ⟨S, env, R, fin⟩ := h
  unfold ex at fin
  by_cases hw : ∃ n r, whN (evb (CF Γ.T k) c) (exs (CF Γ.T k) a) n env = some r
  · obtain ⟨n, r, hw⟩ := hw
    rw [whD_of hw] at fin
    refine ⟨fun m σ H => ∃ S2 env2, Sub S S2 ∧ Rel Z σ S2 H env2 ∧ whN (evb (CF Γ.T k) c) (exs (CF Γ.T k) a) m env2 = some r, ⟨n, S, env, Sub.refl _, R, hw⟩, ?_⟩
    rintro m σ1 H1 ⟨S2, env2, hs2, R2, hm⟩
    cases m with
    | zero => unfold whN at hm; cases hm
    | succ m =>
      unfold whN at hm
      refine ⟨S2, env2, R2, ?_⟩
      show Fin (Exs Z.W xa E Z) Z σ1 S2 (Vb Z) (evb (CF Γ.T k) c env2) _
      cases hcc : evb (CF Γ.T k) c env2 with
      | bad => rw [hcc] at hm; cases hm; exact fin.elim
      | exc j d => rw [hcc] at hm; cases hm; exact fin
      | ok tt env3 =>
        rw [hcc] at hm
        intro b H3 S3 R3 hs3 hbb
        have hbb : tt = b := hbb
        subst hbb
        cases tt with
        | false =>
          simp only at hm
          cases hm
          rw [if_neg (by simp)]
          exact fin _ _ _ R3 (hs2.trans hs3)
        | true =>
          simp only at hm
          rw [if_pos rfl]
          refine ⟨fun σ H => ∃ S2 env2, Sub S S2 ∧ Rel Z σ S2 H env2 ∧ whN (evb (CF Γ.T k) c) (exs (CF Γ.T k) a) m env2 = some r, fun σ' H' hN => ⟨m, Nat.lt_succ_self m, hN⟩, S3, env3, R3, ?_⟩
          refine FinS.marks (own2 := Z.own) ?_ (h1.imp (fun h env' => stopss_ok _ a h _ env') fun h i => (h i).symm)
          cases hbd : exs (CF Γ.T k) a env3 with
          | next env4 => rw [hbd] at hm; exact fun σ' H' S' R' hs' => ⟨S', env4, hs2.trans (hs3.trans hs'), R', hm⟩
          | cnt env4 => rw [hbd] at hm; exact fun σ' H' S' R' hs' => ⟨S', env4, hs2.trans (hs3.trans hs'), R', hm⟩
          | brk env4 => rw [hbd] at hm; cases hm; exact fun σ' H' S' R' hs' => fin _ _ _ R' (hs2.trans (hs3.trans hs'))
          | ret d env4 => rw [hbd] at hm; cases hm; exact FinS.mono (r := .ret d env4) (D := D) fin (hs2.trans hs3)
          | exc j d => rw [hbd] at hm; cases hm; exact fin
          | bad => rw [hbd] at hm; cases hm; exact fin.elim
  · rw [whD_bad hw] at fin
    exact fin.elim
theorem s_for {t : IT} {it : II} {a : ISs} {tg x : Expr} {body : List Stmt} {p : Pos} {o1 par : List Nat} (cx : CxOk X Z.W xa E Γ k sc) (sx : SxOk X sc) (hP : ∀ p ∈ Z.P, p.1 ∈ par) (hsl : t.slots.all (fun i => !decide (i ∈ par) && !decide (i ∈ Z.own)) = true) (ht : itC Γ sc t tg = true) (hi : corri Γ Z.own sc it tg x = true) (hn : notSet x = true)
    (hb : PSs X body (semSs xa E Z (CF Γ.T k) o1 Z.own fr a)) (h1 : stopss a = true ∨ ∀ i, i ∈ Z.own ↔ i ∈ o1) (ho : own' = Z.own) : PS X (.For tg x body [] p) (semS xa E Z (CF Γ.T k) own' lp fr (.for_ t it a)) := by
  subst ho
  have hsp : ∀ i ∈ t.slots, i ∉ par ∧ i ∉ Z.own := fun i hi => by
    obtain ⟨q1, q2⟩ := ba (List.all_eq_true.mp hsl i hi)
    exact ⟨of_decide_eq_false (nf q1), of_decide_eq_false (nf q2)⟩
  refine PS.weak (ps_for sx.pass cx.calm (sI xa Γ k it cx hi) (g_it cx ht) hb (fold_ok hn)) fun D σ H h => ?_
  obtain ⟨S, env, R, fin⟩ := h
  unfold ex at fin
  refine ⟨S, env, R, (FinS.bind fin).post fun J H1 q => ?_⟩
  obtain ⟨S1, env1, ds, _, R1, hs1, wk, f1⟩ := q
  have wk : Walk Z.W S1 J ds := wk
  obtain ⟨r, hr⟩ : ∃ r, forD t (exs (CF Γ.T k) a) ds env1 = r := ⟨_, rfl⟩
  rw [hr] at f1
  refine ⟨fun i m σ H => m = ds.length - i ∧ i ≤ ds.length ∧ ∃ S2 env2, Sub S1 S2 ∧ Rel Z σ S2 H env2 ∧ forD t (exs (CF Γ.T k) a) (ds.drop i) env2 = r, ⟨ds.length, by simp, Nat.zero_le _, S1, env1, Sub.refl _, R1, by rw [List.drop_zero]; exact hr⟩, ?_⟩
  rintro i m σ2 H2 ⟨rfl, hle, S2, env2, hs2, R2, hrec⟩
  rw [← hrec] at f1
  by_cases hlt : i < ds.length
  · right
    refine ⟨wk.go i H2 (hs2.trans R2.sub) hlt, fun σ' H' => i + 1 ≤ ds.length ∧ ∃ S2 env2, Sub S1 S2 ∧ Rel Z σ' S2 H' env2 ∧ forD t (exs (CF Γ.T k) a) (ds.drop (i + 1)) env2 = r, fun σ' H' hN => ⟨ds.length - (i + 1), by omega, rfl, hN⟩, fun v H' y => ?_⟩
    have hx : ds[i]? = some ds[i] := List.getElem?_eq_getElem hlt
    have hdrop : ds.drop i = ds[i] :: ds.drop (i + 1) := List.drop_eq_getElem_cons hlt
    rw [hdrop] at f1 hrec
    unfold forD at f1 hrec
    have hitem : ∃ S3, Sub S2 S3 ∧ Rel Z σ2 S3 H' env2 ∧ Rep Z.W S3 ds[i] v := by
      rcases wk.yld i H2 v H' ds[i] (hs2.trans R2.sub) y hx with ⟨rfl, rx⟩ | ⟨p, es, ws, hp, rfl, rfl, e2, rs, hlen⟩
      · exact ⟨S2, Sub.refl _, R2, rx.mono hs2⟩
      · have hs := Sub.upd (o := .tup ws) (R2.sub.none hp)
        refine ⟨_, hs, R2.both hp (Nat.le_trans hlen (by decide)), ?_⟩
        rw [e2]
        exact rep_tup.mpr ⟨p, ws, rfl, upd_same, (rs.mono hs2).mono hs⟩
    obtain ⟨S3, hs3, R3, rx⟩ := hitem
    cases hbind : bindT t ds[i] env2 with
    | none => rw [hbind] at f1; exact f1.elim
    | some env3 =>
      rw [hbind] at f1 hrec
      simp only at f1 hrec
      rw [← cx.K]
      refine target_rel R3 hbind (fun p hp z => (hsp _ z).1 (hP p hp)) rx fun σ3 own3 hown R4 _ => ?_
      have R4 : Rel Z σ3 S3 H' env3 := Rel.marks (Z := { Z with own := own3 }) R4 fun j => by
        rw [hown]
        exact ⟨fun z => ⟨z, fun w => (hsp _ w).2 z⟩, fun z => z.1⟩
      refine ⟨S3, env3, R4, ?_⟩
      have f1 := FinS.mono f1 (hs2.trans hs3)
      refine FinS.marks (own2 := Z.own) ?_ (h1.imp (fun h env' => stopss_ok _ a h _ env') fun h i => (h i).symm)
      cases hbd : exs (CF Γ.T k) a env3 with
      | next env4 => rw [hbd] at hrec; exact fun σ' H' S' R' hs' => ⟨hlt, S', env4, hs2.trans (hs3.trans hs'), R', hrec⟩
      | cnt env4 => rw [hbd] at hrec; exact fun σ' H' S' R' hs' => ⟨hlt, S', env4, hs2.trans (hs3.trans hs'), R', hrec⟩
      | brk env4 => rw [hbd] at f1; exact fun σ' H' S' R' hs' => f1 _ _ _ R' hs'
      | ret d env4 => rw [hbd] at f1; exact f1
      | exc j d => rw [hbd] at f1; exact f1
      | bad => rw [hbd] at f1; exact f1
  · left
    have hi' : ds.length ≤ i := by omega
    refine ⟨wk.stop i H2 (hs2.trans R2.sub) hi', ?_⟩
    have hnil : ds.drop i = [] := List.drop_eq_nil_of_le hi'
    rw [hnil] at f1
    unfold forD at f1
    exact f1 _ _ _ R2 hs2
end
mutual
theorem sS (xa : Nat → Addr) (Γ : Cfg) (k : Nat) (par : List Nat) (fr : Bool) : (s : IS) → ∀ {X : Cx} {E : XK} {sc : Scope} {Z : Stt} {own' lp : List Nat} {st : Stmt}, CxOk X Z.W xa E Γ k sc → SxOk X sc → (∀ p ∈ Z.P, p.1 ∈ par) → corrS Γ sc par fr s Z.own lp st = some own' →
    PS X st (semS xa E Z (CF Γ.T k) own' lp fr s)
  | .set t f e, X, E, sc, Z, own', lp, st, cx, sx, hP, h => by
    unfold corrS at h
    split at h <;> try contradiction
    rename_i heq
    cases heq
    split at h
    · rename_i hc
      cases h
      obtain ⟨hc, h4⟩ := ba hc
      obtain ⟨hc, h3⟩ := ba hc
      obtain ⟨h1, h2⟩ := ba hc
      exact s_set cx sx hP h1 h2 h3 h4 rfl
    · cases h
  | .par i j a b, X, E, sc, Z, own', lp, st, cx, sx, hP, h => by
    unfold corrS at h
    split at h <;> try contradiction
    rename_i heq
    cases heq
    split at h
    · rename_i hc
      cases h
      obtain ⟨hc, h8⟩ := ba hc
      obtain ⟨hc, h7⟩ := ba hc
      obtain ⟨hc, h6⟩ := ba hc
      obtain ⟨hc, h5⟩ := ba hc
      obtain ⟨hc, h4⟩ := ba hc
      obtain ⟨hc, h3⟩ := ba hc
      obtain ⟨h1, h2⟩ := ba hc
      exact s_par cx sx hP (of_decide_eq_true h1) (of_decide_eq_false (nf h2)) (of_decide_eq_false (nf h3)) h4 h5 h6 h7 (of_decide_eq_true h8) rfl
    · cases h
  | .par3 i j l a b c, X, E, sc, Z, own', lp, st, cx, sx, hP, h => by
    unfold corrS at h
    split at h <;> try contradiction
    rename_i heq
    cases heq
    split at h
    · rename_i hc
      cases h
      obtain ⟨hc, q12⟩ := ba hc
      obtain ⟨hc, q11⟩ := ba hc
      obtain ⟨hc, q10⟩ := ba hc
      obtain ⟨hc, q9⟩ := ba hc
      obtain ⟨hc, q8⟩ := ba hc
      obtain ⟨hc, q7⟩ := ba hc
      obtain ⟨hc, q6⟩ := ba hc
      obtain ⟨hc, q5⟩ := ba hc
      obtain ⟨hc, q4⟩ := ba hc
      obtain ⟨hc, q3⟩ := ba hc
      obtain ⟨q1, q2⟩ := ba hc
      exact s_par3 cx sx hP (of_decide_eq_true q1) (of_decide_eq_true q2) (of_decide_eq_true q3) (of_decide_eq_false (nf q4)) (of_decide_eq_false (nf q5)) (of_decide_eq_false (nf q6)) q7 q8 q9 q10 q11 (of_decide_eq_true q12) rfl
    · cases h
  | .app i e, X, E, sc, Z, own', lp, st, cx, sx, hP, h => by
    unfold corrS at h
    split at h <;> try contradiction
    rename_i heq
    cases heq
    split at h
    · rename_i hc
      cases h
      obtain ⟨hc, h6⟩ := ba hc
      obtain ⟨hc, h5⟩ := ba hc
      obtain ⟨hc, h4⟩ := ba hc
      obtain ⟨hc, h3⟩ := ba hc
      obtain ⟨h1, h2⟩ := ba hc
      exact s_app cx sx (of_decide_eq_true h1) (of_decide_eq_true h2) h3 h4 h5 h6 rfl
    · cases h
  | .seti i e1 e2, X, E, sc, Z, own', lp, st, cx, sx, hP, h => by
    unfold corrS at h
    split at h <;> try contradiction
    rename_i heq
    cases heq
    split at h
    · rename_i hc
      cases h
      obtain ⟨hc, h5⟩ := ba hc
      obtain ⟨hc, h4⟩ := ba hc
      obtain ⟨hc, h3⟩ := ba hc
      obtain ⟨h1, h2⟩ := ba hc
      exact s_seti cx (of_decide_eq_true h1) h2 h3 h4 h5 rfl
    · cases h
  | .expr e, X, E, sc, Z, own', lp, st, cx, sx, hP, h => by
    unfold corrS at h
    split at h <;> try contradiction
    rename_i heq
    cases heq
    split at h
    · rename_i hc
      cases h
      obtain ⟨h1, h2⟩ := ba hc
      exact s_expr cx h1 h2 rfl
    · cases h
  | .ret e, X, E, sc, Z, own', lp, st, cx, sx, hP, h => by
    unfold corrS at h
    split at h <;> try contradiction
    rename_i heq
    cases heq
    split at h
    · rename_i hc
      exact s_ret cx hc
    · cases h
  | .retOwn i, X, E, sc, Z, own', lp, st, cx, sx, hP, h => by
    unfold corrS at h
    split at h <;> try contradiction
    rename_i heq
    cases heq
    split at h
    · rename_i hc
      obtain ⟨hc, h4⟩ := ba hc
      obtain ⟨hc, h3⟩ := ba hc
      obtain ⟨h1, h2⟩ := ba hc
      exact s_retOwn cx hP (of_decide_eq_true h2) (of_decide_eq_false (nf h3)) h4 h1
    · cases h
  | .ifs c a b, X, E, sc, Z, own', lp, st, cx, sx, hP, h => by
    unfold corrS at h
    split at h <;> try contradiction
    rename_i heq
    cases heq
    split at h
    · rename_i hc
      split at h
      · rename_i o1 o2 ha hb
        have pa := sSs xa Γ k par fr a cx sx hP ha
        have pb := sSs xa Γ k par fr b cx sx hP hb
        split at h
        · rename_i hj
          cases h
          refine s_if cx hc pa pb (.inr fun i => Iff.rfl) ?_
          rcases Bool.or_eq_true_iff.mp hj with hj | hj
          · exact .inl hj
          · exact .inr fun i => (sameM_ok hj i).symm
        · split at h
          · rename_i hj
            cases h
            exact s_if cx hc pa pb (.inl hj) (.inr fun i => Iff.rfl)
          · cases h
      · cases h
    · cases h
  | .whl c a, X, E, sc, Z, own', lp, st, cx, sx, hP, h => by
    unfold corrS at h
    split at h <;> try contradiction
    rename_i heq
    cases heq
    split at h
    · rename_i hc
      split at h
      · rename_i o1 ha
        split at h
        · rename_i hj
          cases h
          refine s_whl cx sx hc (sSs xa Γ k par fr a cx sx hP ha) ?_ rfl
          exact (Bool.or_eq_true_iff.mp hj).imp (fun h => h) sameM_ok
        · cases h
      · cases h
    · cases h
  | .for_ t it a, X, E, sc, Z, own', lp, st, cx, sx, hP, h => by
    unfold corrS at h
    split at h <;> try contradiction
    rename_i heq
    cases heq
    split at h
    · rename_i hc
      obtain ⟨hc, h4⟩ := ba hc
      obtain ⟨hc, h3⟩ := ba hc
      obtain ⟨h1, h2⟩ := ba hc
      split at h
      · rename_i o1 ha
        split at h
        · rename_i hj
          cases h
          refine s_for cx sx hP h1 h2 h3 h4 (sSs xa Γ k par fr a cx sx hP ha) ?_ rfl
          exact (Bool.or_eq_true_iff.mp hj).imp (fun h => h) sameM_ok
        · cases h
      · cases h
    · cases h
  | .pass, X, E, sc, Z, own', lp, st, cx, sx, hP, h => by
    unfold corrS at h
    split at h <;> try contradiction
    cases h
    exact s_pass rfl
  | .brk, X, E, sc, Z, own', lp, st, cx, sx, hP, h => by
    unfold corrS at h
    split at h <;> try contradiction
    split at h
    · rename_i hc
      exact s_brk hc
    · cases h
  | .cnt, X, E, sc, Z, own', lp, st, cx, sx, hP, h => by
    unfold corrS at h
    split at h <;> try contradiction
    split at h
    · rename_i hc
      exact s_cnt hc
    · cases h
  | .never, X, E, sc, Z, own', lp, st, cx, sx, hP, h => s_never
  | .frz i, X, E, sc, Z, own', lp, st, cx, sx, hP, h => by
    unfold corrS at h
    cases h
  | .raise j e, X, E, sc, Z, own', lp, st, cx, sx, hP, h => by
    unfold corrS at h
    cases h
theorem sSs (xa : Nat → Addr) (Γ : Cfg) (k : Nat) (par : List Nat) (fr : Bool) : (ss : ISs) → ∀ {X : Cx} {E : XK} {sc : Scope} {Z : Stt} {own' lp : List Nat} {sts : List Stmt}, CxOk X Z.W xa E Γ k sc → SxOk X sc → (∀ p ∈ Z.P, p.1 ∈ par) → corrSs Γ sc par fr ss Z.own lp sts = some own' →
    PSs X sts (semSs xa E Z (CF Γ.T k) own' lp fr ss)
  | .nil, X, E, sc, Z, own', lp, sts, cx, sx, hP, h => by
    cases sts with
    | nil =>
      unfold corrSs at h
      cases h
      refine PSs.weak pss_nil fun D σ H h => ?_
      obtain ⟨S, env, R, fin⟩ := h
      unfold exs at fin
      exact fin _ _ _ R (Sub.refl _)
    | cons _ _ => unfold corrSs at h; cases h
  | .cons s ss, X, E, sc, Z, own', lp, sts, cx, sx, hP, h => by
    by_cases hfz : ∃ i, s = .frz i
    · obtain ⟨i, rfl⟩ := hfz
      unfold corrSs at h
      split at h
      · cases h
      · rename_i hi
        have hi' : i ∉ par := by simpa using hi
        refine PSs.weak (sSs xa Γ k par fr ss (Z := { Z with own := Z.own.filter (· ≠ i) }) cx sx hP h) fun D σ H q => ?_
        obtain ⟨S, env, R, fin⟩ := q
        obtain ⟨S', hs, R'⟩ := R.frz (i := i) fun p hp z => hi' (z ▸ hP p hp)
        have fin : FinS (Exs Z.W xa E Z) Z S own' lp fr (match ex (CF Γ.T k) (.frz i) env with
          | .next env1 => exs (CF Γ.T k) ss env1
          | r => r) D := fin
        have e : ex (CF Γ.T k) (.frz i) env = .next env := by unfold ex; rfl
        rw [e] at fin
        exact ⟨S', env, R', FinS.mono (Z := Z) fin hs⟩
    · by_cases hnv : s = .never
      · subst hnv
        refine PSs.weak pss_never fun D σ H q => ?_
        obtain ⟨S, env, R, fin⟩ := q
        have fin : FinS (Exs Z.W xa E Z) Z S own' lp fr (match ex (CF Γ.T k) .never env with
          | .next env1 => exs (CF Γ.T k) ss env1
          | r => r) D := fin
        have e : ex (CF Γ.T k) .never env = .bad := by unfold ex; rfl
        rw [e] at fin
        exact fin.elim
      · cases sts with
        | nil =>
          exfalso
          unfold corrSs at h
          split at h <;> try contradiction
          · rename_i q; cases q; exact hfz ⟨_, rfl⟩
          · rename_i q; cases q; exact hnv rfl
        | cons st sts =>
          obtain ⟨o1, h1, h2⟩ : ∃ o1, corrS Γ sc par fr s Z.own lp st = some o1 ∧ corrSs Γ sc par fr ss o1 lp sts = some own' := by
            have h' : (match corrS Γ sc par fr s Z.own lp st with
              | some o1 => corrSs Γ sc par fr ss o1 lp sts
              | none => none) = some own' := by
              cases s <;> first | exact h | exact absurd ⟨_, rfl⟩ hfz | exact absurd rfl hnv
            cases q : corrS Γ sc par fr s Z.own lp st with
            | none => rw [q] at h'; cases h'
            | some o1 => rw [q] at h'; exact ⟨o1, rfl, h'⟩
          refine PSs.weak (pss_cons (sS xa Γ k par fr s cx sx hP h1) (sSs xa Γ k par fr ss (Z := { Z with own := o1 }) cx sx hP h2)) fun D σ H q => ?_
          obtain ⟨S, env, R, fin⟩ := q
          refine ⟨S, env, R, ?_⟩
          have fin : FinS (Exs Z.W xa E Z) Z S own' lp fr (match ex (CF Γ.T k) s env with
            | .next env1 => exs (CF Γ.T k) ss env1
            | r => r) D := fin
          cases hx : ex (CF Γ.T k) s env with
          | next env1 => rw [hx] at fin; exact fun σ' H' S' R' hs => ⟨S', env1, R', FinS.mono (Z := Z) fin hs⟩
          | ret d env1 => rw [hx] at fin; exact fin
          | brk env1 => rw [hx] at fin; exact fin
          | cnt env1 => rw [hx] at fin; exact fin
          | exc j d => rw [hx] at fin; exact fin
          | bad => rw [hx] at fin; exact fin
end
end VI
/-! VIj: defs, the table. -/
namespace VI
open PySem PySem.Spec PyProof.Rows L2

/-! ### the parameters at a body's entry -/
def ownIx : Nat → List Bool → List Nat
  | _, [] => []
  | i, true :: m => i :: ownIx (i + 1) m
  | i, false :: m => ownIx (i + 1) m
def argP : Nat → List Bool → List V → List (Nat × Addr)
  | i, true :: m, .ref a :: vs => (i, a) :: argP (i + 1) m vs
  | i, _ :: m, _ :: vs => argP (i + 1) m vs
  | _, _, _ => []
theorem ownIx_ge : ∀ {i : Nat} {m : List Bool} {j : Nat}, j ∈ ownIx i m → i ≤ j
  | _, [], _, h => by simp [ownIx] at h
  | i, true :: m, j, h => by
    unfold ownIx at h
    rcases List.mem_cons.mp h with h | h
    · omega
    · have := ownIx_ge h; omega
  | i, false :: m, j, h => by
    unfold ownIx at h
    have := ownIx_ge h
    omega
section
variable {W : Wd} {S H : Hp}
theorem argP_snd : ∀ {i : Nat} {m : List Bool} {vs : List V}, (argP i m vs).map (·.2) = ownAddrs m vs
  | _, [], _ => by unfold argP ownAddrs; rfl
  | i, true :: m, [] => by unfold argP ownAddrs; rfl
  | i, false :: m, [] => by unfold argP ownAddrs; rfl
  | i, true :: m, v :: vs => by cases v <;> (unfold argP ownAddrs; simp [argP_snd])
  | i, false :: m, v :: vs => by cases v <;> (unfold argP ownAddrs; simp [argP_snd])
theorem args_len : ∀ {m : List Bool} {ds : List D} {vs : List V}, ArgsOk W S H m ds vs → ds.length = vs.length
  | [], _, _, r => r.length
  | true :: m, d :: ds, v :: vs, r => by unfold ArgsOk at r; simp [args_len r.2]
  | false :: m, d :: ds, v :: vs, r => by unfold ArgsOk at r; simp [args_len r.2]
  | true :: m, [], _, r => by unfold ArgsOk at r; exact r.elim
  | false :: m, [], _, r => by unfold ArgsOk at r; exact r.elim
  | true :: m, d :: ds, [], r => by unfold ArgsOk at r; exact r.elim
  | false :: m, d :: ds, [], r => by unfold ArgsOk at r; exact r.elim
theorem args_get : ∀ {m : List Bool} {i j : Nat} {ds : List D} {vs : List V} {d : D}, ArgsOk W S H m ds vs → ds[j]? = some d →
    ∃ v, vs[j]? = some v ∧ (i + j ∈ ownIx i m → ownAt W S H d v ∧ ∃ a, v = .ref a ∧ (i + j, a) ∈ argP i m vs) ∧ (i + j ∉ ownIx i m → Rep W S d v)
  | [], i, j, ds, vs, d, r, e => by
    obtain ⟨v, h1, h2⟩ := Reps.get r e
    exact ⟨v, h1, fun z => by simp [ownIx] at z, fun _ => h2⟩
  | true :: m, i, 0, d :: ds, v :: vs, _, r, e => by
    unfold ArgsOk at r
    simp at e
    subst e
    refine ⟨v, rfl, fun _ => ⟨r.1, ?_⟩, fun z => absurd (by unfold ownIx; simp) z⟩
    obtain ⟨a, es, ws, h1, rfl, _⟩ := r.1
    exact ⟨a, rfl, by unfold argP; simp⟩
  | false :: m, i, 0, d :: ds, v :: vs, _, r, e => by
    unfold ArgsOk at r
    simp at e
    subst e
    refine ⟨v, rfl, fun z => ?_, fun _ => r.1⟩
    unfold ownIx at z
    have := ownIx_ge z
    omega
  | true :: m, i, j + 1, d :: ds, v :: vs, d', r, e => by
    unfold ArgsOk at r
    rw [List.getElem?_cons_succ] at e
    obtain ⟨w, h1, h2, h3⟩ := args_get (i := i + 1) r.2 e
    have q : i + 1 + j = i + (j + 1) := by omega
    rw [q] at h2 h3
    refine ⟨w, by rw [List.getElem?_cons_succ]; exact h1, fun z => ?_, fun z => h3 fun w => z (by unfold ownIx; exact List.mem_cons_of_mem _ w)⟩
    unfold ownIx at z
    rcases List.mem_cons.mp z with z | z
    · omega
    · obtain ⟨q1, a, q2, q3⟩ := h2 z
      obtain ⟨b, _, _, _, rfl, _⟩ := r.1
      exact ⟨q1, a, q2, by unfold argP; exact List.mem_cons_of_mem _ q3⟩
  | false :: m, i, j + 1, d :: ds, v :: vs, d', r, e => by
    unfold ArgsOk at r
    rw [List.getElem?_cons_succ] at e
    obtain ⟨w, h1, h2, h3⟩ := args_get (i := i + 1) r.2 e
    have q : i + 1 + j = i + (j + 1) := by omega
    rw [q] at h2 h3
    refine ⟨w, by rw [List.getElem?_cons_succ]; exact h1, fun z => ?_, fun z => h3 fun w => z (by unfold ownIx; exact w)⟩
    unfold ownIx at z
    obtain ⟨q1, a, q2, q3⟩ := h2 z
    exact ⟨q1, a, q2, by cases v <;> (unfold argP; exact q3)⟩
  | true :: m, _, _, [], _, _, r, _ => by unfold ArgsOk at r; exact r.elim
  | false :: m, _, _, [], _, _, r, _ => by unfold ArgsOk at r; exact r.elim
  | true :: m, _, _, d :: ds, [], _, r, _ => by unfold ArgsOk at r; exact r.elim
  | false :: m, _, _, d :: ds, [], _, r, _ => by unfold ArgsOk at r; exact r.elim
theorem argP_get : ∀ {m : List Bool} {i : Nat} {ds : List D} {vs : List V} {p : Nat × Addr}, ArgsOk W S H m ds vs → p ∈ argP i m vs → ∃ j, p.1 = i + j ∧ vs[j]? = some (.ref p.2) ∧ p.1 ∈ ownIx i m ∧ j < ds.length
  | [], i, _, vs, _, _, h => by unfold argP at h; simp at h
  | true :: m, i, d :: ds, v :: vs, p, r, h => by
    unfold ArgsOk at r
    obtain ⟨⟨b, _, _, _, rfl, _⟩, r⟩ := r
    unfold argP at h
    rcases List.mem_cons.mp h with rfl | h
    · exact ⟨0, rfl, rfl, by unfold ownIx; simp, by simp⟩
    · obtain ⟨j, h1, h2, h3, h4⟩ := argP_get r h
      exact ⟨j + 1, by omega, by rw [List.getElem?_cons_succ]; exact h2, by unfold ownIx; exact List.mem_cons_of_mem _ h3, by simp; omega⟩
  | false :: m, i, d :: ds, v :: vs, p, r, h => by
    unfold ArgsOk at r
    have h : p ∈ argP (i + 1) m vs := by cases v <;> (unfold argP at h; exact h)
    obtain ⟨j, h1, h2, h3, h4⟩ := argP_get r.2 h
    exact ⟨j + 1, by omega, by rw [List.getElem?_cons_succ]; exact h2, by unfold ownIx; exact h3, by simp; omega⟩
  | true :: m, _, [], _, _, r, _ => by unfold ArgsOk at r; exact r.elim
  | false :: m, _, [], _, _, r, _ => by unfold ArgsOk at r; exact r.elim
  | true :: m, _, d :: ds, [], _, r, _ => by unfold ArgsOk at r; exact r.elim
  | false :: m, _, d :: ds, [], _, r, _ => by unfold ArgsOk at r; exact r.elim
theorem nodup_inj {α β : Type} {f : α → β} : ∀ {l : List α} {x y : α}, (l.map f).Nodup → x ∈ l → y ∈ l → f x = f y → x = y
  | [], _, _, _, h, _, _ => by simp at h
  | a :: l, x, y, nd, hx, hy, e => by
    rw [List.map_cons, List.nodup_cons] at nd
    rcases List.mem_cons.mp hx with h1 | h1 <;> rcases List.mem_cons.mp hy with h2 | h2
    · rw [h1, h2]
    · subst h1; exact absurd (List.mem_map.mpr ⟨y, h2, e.symm⟩) nd.1
    · subst h2; exact absurd (List.mem_map.mpr ⟨x, h1, e⟩) nd.1
    · exact nodup_inj nd.2 h1 h2 e
/-- the state at a body's entry -/
theorem rel_start {N : List Str} {m : List Bool} {ds : List D} {vs : List V} (sub : Sub S H) (sz : SzH H) (r : ArgsOk W S H m ds vs) (nd : (ownAddrs m vs).Nodup) :
    Rel ⟨W, ownIx 0 m, S, H, argP 0 m vs⟩ (L2.start N vs) S H (ds.map some ++ List.replicate (N.length - ds.length) none) := by
  have hl := args_len r
  have env_get : ∀ {i : Nat} {d : D}, getE (ds.map some ++ List.replicate (N.length - ds.length) none) i = some d → ds[i]? = some d := fun {i d} e => by
    unfold getE at e
    by_cases hi : i < ds.length
    · rw [List.getElem?_append_left (by simpa using hi), List.getElem?_map] at e
      cases q : ds[i]? with
      | none => rw [q] at e; cases e
      | some d' => rw [q] at e; exact e
    · rw [List.getElem?_append_right (by simpa using hi), List.getElem?_replicate] at e
      split at e <;> cases e
  have get_env : ∀ {i : Nat} {d : D}, ds[i]? = some d → getE (ds.map some ++ List.replicate (N.length - ds.length) none) i = some d := fun {i d} e => by
    unfold getE
    have hi : i < ds.length := (List.getElem?_eq_some_iff.mp e).1
    rw [List.getElem?_append_left (by simpa using hi), List.getElem?_map, e]
    rfl
  have st_get : ∀ {i : Nat} {v : V}, vs[i]? = some v → (L2.start N vs)[i]? = some (some v) := fun {i v} e => by
    unfold L2.start
    have hi : i < vs.length := (List.getElem?_eq_some_iff.mp e).1
    rw [List.getElem?_append_left (by simpa using hi), List.getElem?_map, e]
    rfl
  refine ⟨sub, Sub.refl S, fun _ _ e _ => e, fun _ _ _ => rfl, fun i d e => ?_, fun i j a hi hj e1 e2 e3 e4 => ?_, fun p hp => ?_, by unfold L2.start; simp [hl], sz⟩
  · obtain ⟨v, h1, h2, h3⟩ := args_get (i := 0) r (env_get e)
    rw [Nat.zero_add] at h2 h3
    refine ⟨v, st_get h1, fun z => ?_, h3⟩
    obtain ⟨⟨a, es, ws, q1, q2, q3, q4, q5⟩, b, q6, q7⟩ := h2 z
    rw [q2] at q6
    cases q6
    exact ⟨a, es, ws, q1, q2, q3, q4, q5, .inr ⟨_, q7, rfl⟩⟩
  · have key : ∀ k, k ∈ ownIx 0 m → getE (ds.map some ++ List.replicate (N.length - ds.length) none) k ≠ none → (L2.start N vs)[k]? = some (some (.ref a)) → (k, a) ∈ argP 0 m vs := fun k hk e e' => by
      cases q : getE (ds.map some ++ List.replicate (N.length - ds.length) none) k with
      | none => exact absurd q e
      | some d =>
        obtain ⟨v, h1, h2, h3⟩ := args_get (i := 0) r (env_get q)
        rw [Nat.zero_add] at h2
        obtain ⟨_, b, rfl, q7⟩ := h2 hk
        rw [st_get h1] at e'
        cases e'
        exact q7
    have := nodup_inj (f := fun p : Nat × Addr => p.2) (by rw [argP_snd]; exact nd) (key i hi e1 e3) (key j hj e2 e4) rfl
    exact congrArg (·.1) this
  · obtain ⟨j, h1, h2, h3, h4⟩ := argP_get r hp
    rw [Nat.zero_add] at h1
    refine ⟨h3, by rw [h1]; exact st_get h2, ?_⟩
    rw [h1, get_env (List.getElem?_eq_getElem h4)]
    exact fun q => by cases q
/-- what the lists of its own hold at the end -/
theorem outs_end {H0 S' H' : Hp} {W : Wd} {S : Hp} : ∀ {m : List Bool} {i : Nat} {ds : List D} {vs : List V} {env env' : Env} {outs : List D}, ArgsOk W S H0 m ds vs → (∀ j, env[j]? = env'[i + j]?) → outsOf m env = some outs →
    (∀ p ∈ argP i m vs, ∃ d, getE env' p.1 = some d ∧ ownAt W S' H' d (.ref p.2)) → OutsOk W S' H' m outs vs
  | [], i, _, vs, env, env', outs, r, he, e, h => by
    have : some [] = some outs := by unfold outsOf at e; exact e
    cases this
    rfl
  | true :: m, i, d :: ds, v :: vs, env, env', outs, r, he, e, h => by
    unfold ArgsOk at r
    obtain ⟨⟨b, _, _, _, rfl, _⟩, r⟩ := r
    cases env with
    | nil => unfold outsOf at e; cases e
    | cons o env =>
      cases o with
      | none => unfold outsOf at e; cases e
      | some d1 =>
        unfold outsOf at e
        cases q : outsOf m env with
        | none => rw [q] at e; cases e
        | some outs' =>
          rw [q] at e
          cases e
          obtain ⟨d2, h1, h2⟩ := h (i, b) (by unfold argP; simp)
          have h0 := he 0
          have h0' : env'[i]? = some (some d1) := h0.symm
          have e3 : getE env' i = some d1 := by unfold getE; rw [h0']; rfl
          rw [e3] at h1
          cases h1
          exact ⟨h2, outs_end (i := i + 1) r (fun j => by have := he (j + 1); rw [List.getElem?_cons_succ] at this; rw [this]; congr 1; omega) q fun p hp => h p (by unfold argP; exact List.mem_cons_of_mem _ hp)⟩
  | false :: m, i, d :: ds, v :: vs, env, env', outs, r, he, e, h => by
    unfold ArgsOk at r
    cases env with
    | nil => unfold outsOf at e; cases e
    | cons o env =>
      unfold outsOf at e
      show OutsOk W S' H' m outs vs
      exact outs_end (i := i + 1) r.2 (fun j => by have := he (j + 1); rw [List.getElem?_cons_succ] at this; rw [this]; congr 1; omega) e fun p hp => h p (by cases v <;> (unfold argP; exact hp))
  | true :: m, _, [], _, _, _, _, r, _, _, _ => by unfold ArgsOk at r; exact r.elim
  | false :: m, _, [], _, _, _, _, r, _, _, _ => by unfold ArgsOk at r; exact r.elim
  | true :: m, _, d :: ds, [], _, _, _, r, _, _, _ => by unfold ArgsOk at r; exact r.elim
  | false :: m, _, d :: ds, [], _, _, _, r, _, _, _ => by unfold ArgsOk at r; exact r.elim
end

/-! ### a def -/
theorem cf_succ {T : List Fn} {k g : Nat} {ds : List D} : CF T (k + 1) g ds = match T[g]? with
  | some f => runF (CF T k) f ds
  | none => .bad := rfl
/-- a def of the table: where it stands, its names (the parameters first), its form in the small language -/
structure Dfn where
  d : He.DefD
  N : List Str
  f : Fn
def isFun : ScopeKind → Bool
  | .function => true
  | _ => false
def isFree : NameKind → Bool
  | .free => true
  | _ => false
def isLC : Option NameKind → Bool
  | some .local => true
  | some .cell => true
  | _ => false
def bodyC (T : List Fn) (kb : List (Nat × Nat × List Str × List Nat)) (x : Dfn) : Bool := (corrSs ⟨x.N, T, kb⟩ x.d.scope (ownIx 0 x.f.msk) x.f.fr x.f.body (ownIx 0 x.f.msk) (ownIx 0 x.f.msk) x.d.body).isSome
def scopeC (x : Dfn) : Bool := isFun x.d.scope.kind && !x.d.scope.isCoroutine && !x.d.scope.isGenerator && decide x.N.Nodup && decide (x.N.length = x.f.nn) && decide (x.f.np ≤ x.f.nn) && ((x.N.take x.f.np).all fun y => isLC (x.d.scope.names.lookup y)) && (x.d.scope.names.all fun y => !isFree y.2)
theorem scope_ok {x : Dfn} (h : scopeC x = true) : FnScope x.N (x.N.take x.f.np) x.d.scope ∧ x.N.length = x.f.nn ∧ (x.N.take x.f.np).length = x.f.np := by
  obtain ⟨h, h8⟩ := ba h
  obtain ⟨h, h7⟩ := ba h
  obtain ⟨h, h6⟩ := ba h
  obtain ⟨h, h5⟩ := ba h
  obtain ⟨h, h4⟩ := ba h
  obtain ⟨h, h3⟩ := ba h
  obtain ⟨h1, h2⟩ := ba h
  have h5 := of_decide_eq_true h5
  have h6 := of_decide_eq_true h6
  have hl : (x.N.take x.f.np).length = x.f.np := by rw [List.length_take]; omega
  refine ⟨⟨?_, nf h2, nf h3, of_decide_eq_true h4, by rw [hl], fun y hy => ?_, fun y hy e => ?_⟩, h5, hl⟩
  · cases q : x.d.scope.kind <;> rw [q] at h1 <;> first | rfl | (cases h1)
  · have q := List.all_eq_true.mp h7 y hy
    unfold isLC at q
    split at q
    · rename_i e; exact .inl e
    · rename_i e; exact .inr e
    · cases q
  · have q := List.all_eq_true.mp h8 y hy
    rw [e] at q
    cases q
section
variable {P : Program} {w : World} {K : PySem.W.Frag} {mg : Str → Option Value} {base : Heap}
/-- what stands of a def of the table behind the top -/
structure DefAt (K : PySem.W.Frag) (mg : Str → Option Value) (kb : List (Nat × Nat × List Str × List Nat)) (fa : Nat → Addr) (g : Nat) (x : Dfn) (fd : FuncData) : Prop where
  fn : FunD K x.d.name x.d.qual x.d.params x.d.body x.d.scope [] [] (fa g) fd
  glo : mg x.f.name = some (.ref (fa g))
  bind : Binds K fd (x.N.take x.f.np) []
  kws : ∀ n ks perm, (g, n, ks, perm) ∈ kb → KB K fd (x.N.take x.f.np) n ks perm
def wdOf (K : PySem.W.Frag) (fa : Nat → Addr) (T : List Fn) : Wd := { K := K, fa := fa, pl := fun g => match T[g]? with
  | some f => f.msk.isEmpty && !f.fr
  | none => false }
theorem tab_ok {X : List Dfn} {T : List Fn} {kb : List (Nat × Nat × List Str × List Nat)} {fa xa : Nat → Addr} (hT : X.map (·.f) = T) (hs : X.all scopeC = true) (hb : X.all (bodyC T kb) = true) (hbl : ∀ y ∈ blNames, mg y = none) (hd : ∀ g x, X[g]? = some x → ∃ fd, DefAt K mg kb fa g x fd) :
    ∀ (k g : Nat) (x : Dfn), X[g]? = some x → ∃ fd, DefAt K mg kb fa g x fd ∧ FnOk P w K mg base (L2.CX P w) k (fa g) fd (x.N.take x.f.np) (spD (wdOf K fa T) xa x.f (CF T k g))
  | 0, g, x, hx => by
    obtain ⟨fd, hD⟩ := hd g x hx
    refine ⟨fd, hD, ⟨fun vs H Q E h => ?_, fun A outer s H args us vs Q E _ _ _ _ h => ?_⟩⟩
    · obtain ⟨_, S, ds, _, _, _, _, h⟩ := h
      exact h.elim
    · obtain ⟨_, S, ds, _, _, _, _, h⟩ := h
      exact h.elim
  | k + 1, g, x, hx => by
    obtain ⟨fd, hD⟩ := hd g x hx
    have ih := tab_ok (xa := xa) hT hs hb hbl hd k
    have hmem := List.mem_of_getElem? hx
    obtain ⟨fs, hN, hnp⟩ := scope_ok (List.all_eq_true.mp hs x hmem)
    have hbody := List.all_eq_true.mp hb x hmem
    have hTg : T[g]? = some x.f := by rw [← hT, List.getElem?_map, hx]; rfl
    obtain ⟨own', hown⟩ := Option.isSome_iff_exists.mp (show (corrSs ⟨x.N, T, kb⟩ x.d.scope (ownIx 0 x.f.msk) x.f.fr x.f.body (ownIx 0 x.f.msk) (ownIx 0 x.f.msk) x.d.body).isSome = true from hbody)
    refine ⟨fd, hD, hD.fn.ok (k := k) fs (fun vs H Q E h => by rw [hnp]; exact h.1) fun cdv A outer s H vs Q E hr h => ?_⟩
    obtain ⟨hvs, S, ds, sub, sz, ao, nd, h⟩ := h
    have hR := rel_start (N := x.N) sub sz ao nd
    have hlen := args_len ao
    obtain ⟨Z, hZ⟩ : ∃ Z : Stt, Z = ⟨wdOf K fa T, ownIx 0 x.f.msk, S, H, argP 0 x.f.msk vs⟩ := ⟨_, rfl⟩
    have fnAt : ∀ g f, T[g]? = some f → FnAt (cxOf (L2.CX P w) P w K mg base x.N x.d.qual x.d.scope (fa g) cdv A outer s H E) (wdOf K fa T) xa ⟨x.N, T, kb⟩ k g f := fun g f hf => by
      rw [← hT, List.getElem?_map] at hf
      cases q : X[g]? with
      | none => rw [q] at hf; cases hf
      | some y =>
        rw [q] at hf
        cases hf
        obtain ⟨fd2, hD2, F2⟩ := ih g y q
        obtain ⟨_, _, hnp2⟩ := scope_ok (List.all_eq_true.mp hs y (List.mem_of_getElem? q))
        exact ⟨fd2, y.N.take y.f.np, F2, hD2.glo, hD2.fn.kp, hD2.bind, hnp2, hD2.kws⟩
    have cx : CxOk (cxOf (L2.CX P w) P w K mg base x.N x.d.qual x.d.scope (fa g) cdv A outer s H E) Z.W xa E ⟨x.N, T, kb⟩ k x.d.scope := by
      subst hZ
      refine ⟨rfl, fs.nd, rfl, fun y hy => ?_, fun y hy => ?_, fun y hy => ?_, fun y hy => ?_, rfl, fnAt, fun g hg => ?_, fun g f hf hm hfr => ?_, hr, takes_of rfl rfl rfl rfl, hbl⟩
      · unfold visC at hy
        split at hy
        · rename_i e; exact .inl e
        · rename_i e; exact .inr (.inl e)
        · rename_i e; exact .inr (.inr e)
        · cases hy
      · refine ⟨?_, .inl rfl⟩
        unfold locC at hy
        split at hy
        · rename_i e; exact .inl e
        · rename_i e; exact .inr e
        · cases hy
      · unfold cfC at hy
        split at hy
        · rename_i e; exact .inl e
        · rename_i e; exact .inr e
        · cases hy
      · unfold glC at hy
        split at hy
        · rename_i e; exact e
        · cases hy
      · have hg : (match T[g]? with
          | some f => f.msk.isEmpty && !f.fr
          | none => false) = true := hg
        split at hg
        · rename_i f hf
          obtain ⟨h1, h2⟩ := ba hg
          exact ⟨f, hf, List.isEmpty_iff.mp h1, nf h2⟩
        · cases hg
      · show (match T[g]? with
          | some f => f.msk.isEmpty && !f.fr
          | none => false) = true
        rw [hf]
        show (f.msk.isEmpty && !f.fr) = true
        rw [hm, hfr]
        rfl
    have sx : SxOk (cxOf (L2.CX P w) P w K mg base x.N x.d.qual x.d.scope (fa g) cdv A outer s H E) x.d.scope := ⟨rfl, fs.kind, passes_of rfl⟩
    have hP : ∀ p ∈ Z.P, p.1 ∈ ownIx 0 x.f.msk := fun p hp => by
      subst hZ
      obtain ⟨j, _, _, h3, _⟩ := argP_get ao hp
      exact h3
    refine ⟨_, sSs xa ⟨x.N, T, kb⟩ k (ownIx 0 x.f.msk) x.f.fr x.f.body (Z := Z) cx sx hP (lp := ownIx 0 x.f.msk) (own' := own') (by subst hZ; exact hown), S, _, by subst hZ; exact hR, ?_⟩
    subst hZ
    have hcf : CF T (k + 1) g ds = runF (CF T k) x.f ds := by
      rw [cf_succ, hTg]
    rw [hcf] at h
    unfold runF at h
    have hnd : ds.length = x.f.np := by omega
    rw [if_pos hnd] at h
    have hnn : x.f.nn - x.f.np = x.N.length - ds.length := by omega
    rw [hnn] at h
    have P2 : ∀ {own2 : List Nat} {σ' : L2.St} {S' H' : Hp} {env' : Env} {outs : List D}, Rel ⟨wdOf K fa T, own2, S, H, argP 0 x.f.msk vs⟩ σ' S' H' env' → outsOf x.f.msk env' = some outs → OutsOk (wdOf K fa T) S' H' x.f.msk outs vs := fun {own2 σ' S' H' env' outs} R e => by
      refine outs_end (i := 0) ao (fun j => by rw [Nat.zero_add]) e fun p hp => ?_
      obtain ⟨y1, y2, y3⟩ := R.pa p hp
      cases q : getE env' p.1 with
      | none => exact absurd q y3
      | some d =>
        obtain ⟨a, es, ws, z1, z2, z3, z4, z5, _⟩ := R.owned y1 q
        rw [y2] at z2
        cases z2
        exact ⟨d, rfl, p.2, es, ws, z1, rfl, z3, z4, z5⟩
    have P3 : ∀ {own2 : List Nat} {σ' : L2.St} {S' H' : Hp} {env' : Env}, Rel ⟨wdOf K fa T, own2, S, H, argP 0 x.f.msk vs⟩ σ' S' H' env' → ∀ b o, H b = some o → b ∉ ownAddrs x.f.msk vs → H' b = some o := fun {own2 σ' S' H' env'} R b o e hb => R.fr b o e fun p hp z => hb (by rw [← argP_snd (i := 0)]; exact List.mem_map.mpr ⟨p, hp, z⟩)
    cases hx2 : exs (CF T k) x.f.body (ds.map some ++ List.replicate (x.N.length - ds.length) none) with
    | next env' =>
      rw [hx2] at h
      simp only at h
      cases hfr : x.f.fr with
      | true => rw [hfr] at h; exact h.elim
      | false =>
        rw [hfr, if_neg (by simp)] at h
        cases ho : outsOf x.f.msk env' with
        | none => rw [ho] at h; exact h.elim
        | some outs =>
          rw [ho] at h
          exact fun σ' H' S' R hs' => h .non S' H' ⟨hs', R.sub, P3 R, R.gr, R.sz, P2 R ho, fun q => (by rw [hfr] at q; cases q), fun _ => rep_non.mpr rfl⟩
    | ret d env' =>
      rw [hx2] at h
      simp only at h
      by_cases hbad : (x.f.fr && !isL d) = true
      · rw [if_pos hbad] at h; exact h.elim
      · rw [if_neg hbad] at h
        cases ho : outsOf x.f.msk env' with
        | none => rw [ho] at h; exact h.elim
        | some outs =>
          rw [ho] at h
          refine ⟨fun hfr => by cases q : isL d <;> simp_all, fun own2 v σ' H' S' R hs' rv => h v S' H' ⟨hs', R.sub, P3 R, R.gr, R.sz, P2 R ho, fun hfr => ?_, rv.2⟩⟩
          obtain ⟨p, es, ws, q1, q2, q3, q4, q5, q6⟩ := rv.1 hfr
          exact ⟨p, es, ws, q1, q2, q6, q3, q4, q5⟩
    | brk env' => rw [hx2] at h; exact h.elim
    | cnt env' => rw [hx2] at h; exact h.elim
    | exc j d =>
      rw [hx2] at h
      show ExcOk (wdOf K fa T) xa E S H ((argP 0 x.f.msk vs).map (·.2)) j d
      rw [argP_snd]
      exact h
    | bad => rw [hx2] at h; exact h.elim
/-! ### arguments -/
theorem kb_of {x : Dfn} {fd : FuncData} {f : Addr} {n : Nat} {ks : List Str} {perm : List Nat} (F : FunD K x.d.name x.d.qual x.d.params x.d.body x.d.scope [] [] f fd)
    (h : ∀ (kV doc pm : Value) (an : Option Addr) (cdv ct : Value) (us ws : List Value), us.length = n → ws.length = ks.length → ∃ bs, permL perm (us ++ ws) = some bs ∧ bindArgs (PySem.W.fnOf x.d.name x.d.qual x.d.params x.d.body x.d.scope .none kV doc pm an cdv ct) ⟨us, ks.zip ws⟩ = pure ((x.N.take x.f.np).zip bs)) :
    KB K fd (x.N.take x.f.np) n ks perm := by
  obtain ⟨oc, od, dV, kV, doc, pm, an, cdv, ct, osl, rfl, lk, hcd, hD, hK⟩ := F.ex
  rcases hD with ⟨_, rfl⟩ | ⟨e, _⟩
  · refine ⟨fun s us ws _ h1 h2 => ?_⟩
    obtain ⟨bs, e1, e2⟩ := h kV doc pm an cdv ct us ws h1 h2
    exact ⟨bs, e1, .of_eq e2⟩
  · exact absurd rfl e
/-- the law -/
theorem law_sp {T : List Fn} {fa xa : Nat → Addr} {f : Fn} {k g n : Nat} {H : Hp} {a : Addr} {ns : List Int} (hn2 : n ≤ sizeLine) (hnp : f.np = 1) (hm : f.msk = []) (hfr : f.fr = false) (hl : ns.length ≤ n) (hO : Only H) (hS : SqL K H a (ns.map V.int)) (h : CF T k g [.scr ns] = .ret (.bl true) []) :
    spD (wdOf K fa T) xa f (CF T k g) [.ref a] H (fun v _ => v = .bl true) fun _ _ _ => False := by
  refine ⟨hnp.symm, H, [.scr ns], Sub.refl H, fun b o e => ?_, ?_, ?_, ?_⟩
  · rcases hO b with q | ⟨u, xs, q⟩
    · rw [q] at e; cases e
    · rw [q] at e; cases e; trivial
  · rw [hm]
    exact reps_cons.mpr ⟨.ref a, [], rfl, rep_scr.mpr ⟨a, rfl, hS⟩, reps_nil.mpr rfl⟩
  · rw [hm]
    exact List.nodup_nil
  · rw [h]
    intro v S' H' ro
    obtain ⟨_, _, _, _, _, _, _, r⟩ := ro
    exact rep_bl.mp (r hfr)
end
def plainP (p : Arguments) (ps : List Str) : Bool := p.posonlyargs.isEmpty && p.kwonlyargs.isEmpty && p.vararg.isNone && p.kwarg.isNone && decide (p.args.map (·.arg) = ps)
theorem zip_look : ∀ {ps : List Str} {us : List Value} {n : Str}, us.length = ps.length → n ∈ ps → ∃ u, (ps.zip us).lookup n = some u
  | [], _, _, _, h => by simp at h
  | p :: ps, [], _, hl, _ => by simp at hl
  | p :: ps, u :: us, n, hl, h => by
    rw [List.zip_cons_cons, List.lookup_cons]
    by_cases e : n = p
    · subst e; exact ⟨u, by simp⟩
    · have : (n == p) = false := by simpa using e
      rw [this]
      exact zip_look (by simpa using hl) (by simpa [e] using h)
theorem fm_congr {α β : Type} {f g : α → Option β} : ∀ {l : List α}, (∀ x ∈ l, f x = g x) → l.filterMap f = l.filterMap g
  | [], _ => rfl
  | a :: l, h => by
    rw [List.filterMap_cons, List.filterMap_cons, h a (List.mem_cons_self ..), fm_congr fun x hx => h x (List.mem_cons_of_mem _ hx)]
theorem zip_map : ∀ {ps : List Str} {us : List Value}, us.length = ps.length → ps.Nodup → (ps.filterMap fun n => ((ps.zip us).lookup n).map fun u => (n, u)) = ps.zip us
  | [], us, _, _ => by simp
  | p :: ps, [], hl, _ => by simp at hl
  | p :: ps, u :: us, hl, nd => by
    rw [List.nodup_cons] at nd
    rw [List.zip_cons_cons, List.filterMap_cons]
    have e1 : ((p, u) :: ps.zip us).lookup p = some u := by rw [List.lookup_cons]; simp
    rw [e1]
    simp only [Option.map_some]
    congr 1
    refine Eq.trans ?_ (zip_map (ps := ps) (us := us) (by simpa using hl) nd.2)
    refine fm_congr fun n hn => ?_
    have : (n == p) = false := by simp; rintro rfl; exact nd.1 hn
    rw [List.lookup_cons, this]
theorem bind_plain {x qual : Str} {params : Arguments} {body : List Stmt} {scope : Scope} {kV doc pm : Value} {an : Option Addr} {cdv ct : Value} {ps : List Str} {us : List Value} (h : plainP params ps = true) (nd : ps.Nodup) (hl : us.length = ps.length) :
    bindArgs (PySem.W.fnOf x qual params body scope .none kV doc pm an cdv ct) ⟨us, []⟩ = pure (ps.zip us) := by
  unfold plainP at h
  obtain ⟨h, h5⟩ := ba h
  obtain ⟨h, h4⟩ := ba h
  obtain ⟨h, h3⟩ := ba h
  obtain ⟨h1, h2⟩ := ba h
  have h1 := List.isEmpty_iff.mp h1
  have h2 := List.isEmpty_iff.mp h2
  have h3 := Option.isNone_iff_eq_none.mp h3
  have h4 := Option.isNone_iff_eq_none.mp h4
  have h5 := of_decide_eq_true h5
  unfold bindArgs PySem.W.fnOf
  simp only [h1, h2, h3, h4, h5]
  have e0 : seqItems? Value.none = pure none := rfl
  simp only [List.forIn_nil, pure_bind, List.map_nil, List.nil_append, e0, List.append_nil]
  have e1 : (decide (us.length > ps.length) && (none : Option Arg).isNone) = false := by rw [hl]; simp
  rw [e1]
  have e2 : List.filter (fun n => (List.lookup n (ps.zip us)).isNone) (List.take (ps.length - (List.drop (((none : Option (Array Value)).getD #[]).toList.length - ps.length) ((none : Option (Array Value)).getD #[]).toList).length) ps) = [] := by
    refine List.filter_eq_nil_iff.mpr fun n hn => ?_
    obtain ⟨u, hu⟩ := zip_look hl (List.mem_of_mem_take hn)
    rw [hu]
    simp
  rw [e2]
  have e3 := zip_map hl nd
  have e4 : List.drop (((none : Option (Array Value)).getD #[]).toList.length - ps.length) ((none : Option (Array Value)).getD #[]).toList = [] := by simp
  rw [e4]
  simp only [List.zip_nil_right, List.forIn_nil, pure_bind, List.isEmpty_nil, Bool.not_true, Bool.false_eq_true, if_false]
  rw [e3]

/-! ### a law -/
def dC (x : Dfn) : Bool := decide (x.d.at_ = (x.f.name, none)) && x.d.dfl.isEmpty && x.d.kwd.isEmpty && plainP x.d.params (x.N.take x.f.np)
def faL (X : List Dfn) : List He.Fa := X.map (fun x => .glo x.f.name) ++ blNames.map .free
def faOf (K : PySem.W.Frag) (X : List Dfn) (g : Nat) : Addr := match X[g]? with
  | some x => He.fAd K x.d.at_
  | none => 0
/-- the forms of calls with keywords: by each def's own binding -/
def KBs (X : List Dfn) (kb : List (Nat × Nat × List Str × List Nat)) : Prop := ∀ q ∈ kb, ∀ x, X[q.1]? = some x → ∀ (kV doc pm : Value) (an : Option Addr) (cdv ct : Value) (us ws : List Value), us.length = q.2.1 → ws.length = q.2.2.1.length →
  ∃ bs, permL q.2.2.2 (us ++ ws) = some bs ∧ bindArgs (PySem.W.fnOf x.d.name x.d.qual x.d.params x.d.body x.d.scope .none kV doc pm an cdv ct) ⟨us, q.2.2.1.zip ws⟩ = pure ((x.N.take x.f.np).zip bs)
section
variable {K : PySem.W.Frag} {mg : Str → Option Value} {h : Heap} {X : List Dfn} {kb : List (Nat × Nat × List Str × List Nat)}
theorem defs_at (KX : K.In h) (G : h.Ns mainGlobals mg) (c : He.SaysD (faL X) (X.map (·.d)) K) (hs : X.all scopeC = true) (hd : X.all dC = true) (hkb : KBs X kb) : ∀ g x, X[g]? = some x → ∃ fd, DefAt K mg kb (faOf K X) g x fd := fun g x hx => by
  have hmem := List.mem_of_getElem? hx
  obtain ⟨fs, hN, hnp⟩ := scope_ok (List.all_eq_true.mp hs x hmem)
  have hdx := List.all_eq_true.mp hd x hmem
  obtain ⟨hdx, h4⟩ := ba hdx
  obtain ⟨hdx, h3⟩ := ba hdx
  obtain ⟨h1, h2⟩ := ba hdx
  have h1 := of_decide_eq_true h1
  have h2 := List.isEmpty_iff.mp h2
  have h3 := List.isEmpty_iff.mp h3
  have hg : (X.map (·.d))[g]? = some x.d := by rw [List.getElem?_map, hx]; rfl
  obtain ⟨fd, F⟩ := c.def_ g hg
  have e1 : x.d.dvs K = [] := by unfold He.DefD.dvs; rw [h2]; rfl
  have e2 : x.d.kws K = [] := by unfold He.DefD.kws; rw [h3]; rfl
  rw [e1, e2] at F
  have e3 : faOf K X g = He.fAd K x.d.at_ := by unfold faOf; rw [hx]
  rw [← e3] at F
  have hglo : (faL X)[g]? = some (.glo x.f.name) := by
    unfold faL
    have hlt : g < X.length := (List.getElem?_eq_some_iff.mp hx).1
    rw [List.getElem?_append_left (by simpa using hlt), List.getElem?_map, hx]
    rfl
  have hm := He.glo_ok KX G (c.fact g hglo)
  have ndp : (x.N.take x.f.np).Nodup := fs.nd.sublist (List.take_sublist _ _)
  refine ⟨fd, ⟨F, ?_, F.bindsN fun kV doc pm an cdv ct us hl => bind_plain h4 ndp hl, fun n ks perm hq => kb_of F fun kV doc pm an cdv ct us ws q1 q2 => hkb _ hq x hx kV doc pm an cdv ct us ws q1 q2⟩⟩
  rw [hm, e3, h1]
  rfl
theorem bl_free (KX : K.In h) (G : h.Ns mainGlobals mg) (c : He.SaysD (faL X) (X.map (·.d)) K) : ∀ y ∈ blNames, mg y = none := fun y hy => by
  obtain ⟨i, hi⟩ := List.getElem?_of_mem hy
  refine He.free_ok KX G (c.fact (X.length + i) ?_)
  unfold faL
  rw [List.getElem?_append_right (by simp), List.length_map, Nat.add_sub_cancel_left, List.getElem?_map, hi]
  rfl
theorem fd_uniq {x qual : Str} {params : Arguments} {body : List Stmt} {scope : Scope} {dvs dvs' : List V} {kws kws' : List (Str × V)} {f : Addr} {fd fd' : FuncData} (F : FunD K x qual params body scope dvs kws f fd) (F' : FunD K x qual params body scope dvs' kws' f fd') : fd = fd' := by
  obtain ⟨oc, od, dV, kV, doc, pm, an, cdv, ct, osl, rfl, lk, _⟩ := F.ex
  obtain ⟨oc', od', dV', kV', doc', pm', an', cdv', ct', osl', rfl, lk', _⟩ := F'.ex
  rw [lk] at lk'
  injection lk' with e
  injection e with e1 e2 e3 e4
  injection e3
/-- whatever the world -/
def CXw (P : Program) : CXT := fun outer H s E u s' => ∃ w, L2.CX P w outer H s E u s'
theorem fn_cx {P : Program} {w : World} {base : Heap} {CX CX' : CXT} {k : Nat} {f : Addr} {fd : FuncData} {ps : List Str} {sp : Sp} (hc : ∀ outer H s E u s', CX outer H s E u s' → CX' outer H s E u s') (F : FnOk P w K mg base CX k f fd ps sp) : FnOk P w K mg base CX' k f fd ps sp :=
  ⟨F.len, fun A outer s H args us vs Q E hr e0 hb hv h => codeAny_mono (F.run A outer s H args us vs Q E hr e0 hb hv h) fun r s' hq => by
    cases r with
    | error e => exact hc _ _ _ _ _ _ hq
    | ok fl => cases fl <;> exact hq⟩
/-- what walk_ofE asks of a law -/
theorem law_facts {P : Program} {w : World} {T : List Fn} {k n g : Nat} {fa : Addr} {x : Dfn} {y : Str} (KX : K.In h) (G : h.Ns mainGlobals mg) (c : He.SaysD (faL X) (X.map (·.d)) K) (hT : X.map (·.f) = T) (hs : X.all scopeC = true) (hb : X.all (bodyC T kb) = true) (hd : X.all dC = true) (hkb : KBs X kb)
    (hx : X[g]? = some x) (hfa : mg x.f.name = some (.ref fa)) (hn2 : n ≤ sizeLine) (hnp : x.f.np = 1) (hm : x.f.msk = []) (hfr : x.f.fr = false) (hy : x.N.take 1 = [y])
    (hlaw : ∀ ns : List Int, ns.length ≤ n → CF T k g [.scr ns] = .ret (.bl true) []) :
    ∃ (K : PySem.W.Frag) (fd : FuncData) (sp : Sp), K.In h ∧ (∀ (s : Shared) (u : Value), BindsTo s fd ⟨[u], []⟩ [(y, u)]) ∧
      (∀ (H : Hp) (a : Addr) (ns : List Int), ns.length ≤ n → Only H → SqL K H a (ns.map V.int) → sp [.ref a] H (fun v _ => v = .bl true) fun _ _ _ => False) ∧
      ∀ base : Heap, K.In base → base.Ns mainGlobals mg → FnOk P w K mg base (CXw P) k fa fd [y] sp := by
  obtain ⟨fd, D⟩ := defs_at KX G c hs hd hkb g x hx
  have e := D.glo
  rw [hfa] at e
  cases e
  have hmem := List.mem_of_getElem? hx
  obtain ⟨fs, hN, hlen⟩ := scope_ok (List.all_eq_true.mp hs x hmem)
  have hdx := (ba (List.all_eq_true.mp hd x hmem)).2
  have ep : x.N.take x.f.np = [y] := by rw [hnp]; exact hy
  refine ⟨K, fd, spD (wdOf K (faOf K X) T) (fun _ => 0) x.f (CF T k g), KX, fun s u => ?_, fun H a ns hl hO hS => law_sp hn2 hnp hm hfr hl hO hS (hlaw ns hl), fun base KB GB => ?_⟩
  · have ndp : (x.N.take x.f.np).Nodup := fs.nd.sublist (List.take_sublist _ _)
    have b := FunD.bindsA (ps := x.N.take x.f.np) D.fn (fun kV doc pm an cdv ct us hl => bind_plain hdx ndp hl) s [u] (by rw [ep]; rfl)
    rw [ep] at b
    exact b
  · obtain ⟨fd2, D2, F2⟩ := tab_ok (P := P) (w := w) (base := base) (xa := fun _ => 0) hT hs hb (bl_free KX G c) (defs_at KX G c hs hd hkb) k g x hx
    have := fd_uniq D.fn D2.fn
    subst this
    rw [ep] at F2
    exact fn_cx (fun _ _ _ _ _ _ q => ⟨w, q⟩) F2
theorem cx_none {P : Program} : ∀ (H : Hp) (s : Shared) (e : Value) (s' : Shared), CXw P [] H s (fun _ _ _ => False) e s' → False := fun _ _ _ _ ⟨_, _, _, _, _, _, _, _, _, _, _, _, _, h⟩ => h
end
end VI
/-! VK: what laws share: numbers drawn, data compared. -/
namespace VI
open PySem PySem.Spec PyProof.Rows L2
theorem kt1 : kitB "int" "int" = some true := by decide +kernel
theorem kt2 : kitB "int" "bool" = some false := by decide +kernel
theorem kt3 : kitB "int" "list" = some false := by decide +kernel
theorem kt4 : kitB "int" "tuple" = some false := by decide +kernel
theorem kt5 : kitB "int" "str" = some false := by decide +kernel
theorem kt6 : kitB "bool" "int" = some true := by decide +kernel
theorem kt7 : kitB "bool" "bool" = some true := by decide +kernel
theorem kt8 : kitB "bool" "list" = some false := by decide +kernel
theorem kt9 : kitB "bool" "tuple" = some false := by decide +kernel
theorem kt10 : kitB "bool" "str" = some false := by decide +kernel
theorem kt11 : kitB "list" "int" = some false := by decide +kernel
theorem kt12 : kitB "list" "bool" = some false := by decide +kernel
theorem kt13 : kitB "list" "list" = some true := by decide +kernel
theorem kt14 : kitB "list" "tuple" = some false := by decide +kernel
theorem kt15 : kitB "list" "str" = some false := by decide +kernel
theorem kt16 : kitB "tuple" "int" = some false := by decide +kernel
theorem kt17 : kitB "tuple" "bool" = some false := by decide +kernel
theorem kt18 : kitB "tuple" "list" = some false := by decide +kernel
theorem kt19 : kitB "tuple" "tuple" = some true := by decide +kernel
theorem kt20 : kitB "tuple" "str" = some false := by decide +kernel
theorem kt21 : kitB "str" "int" = some false := by decide +kernel
theorem kt22 : kitB "str" "bool" = some false := by decide +kernel
theorem kt23 : kitB "str" "list" = some false := by decide +kernel
theorem kt24 : kitB "str" "tuple" = some false := by decide +kernel
theorem kt25 : kitB "str" "str" = some true := by decide +kernel
theorem kt26 : kitB "NoneType" "int" = some false := by decide +kernel
theorem kt27 : kitB "NoneType" "bool" = some false := by decide +kernel
theorem kt28 : kitB "NoneType" "list" = some false := by decide +kernel
theorem kt29 : kitB "NoneType" "tuple" = some false := by decide +kernel
theorem kt30 : kitB "NoneType" "str" = some false := by decide +kernel

theorem sz_le {n : Nat} (h : n ≤ 100000) : n ≤ sizeLine := Nat.le_trans h (by decide)
theorem eq_int (a b : Int) : eqD (.int a) (.int b) = some (a == b) := by
  unfold eqD toPy SeqAt.shaped PyData.canLay0 PyData.depth PyData.eqv
  rfl
theorem mulOk_of {i j : Int} (a b : Nat) (hi : i.natAbs < 2 ^ a) (hj : j.natAbs < 2 ^ b) (h : a + b ≤ 900000) : mulOk i j = true := by
  have key : ∀ (n a : Nat), n < 2 ^ a → n.log2 ≤ a := fun n a hn => by
    by_cases h0 : n = 0
    · subst h0; simp
    · exact Nat.le_of_lt ((Nat.log2_lt h0).mpr hn)
  have h1 := key _ _ hi
  have h2 := key _ _ hj
  unfold mulOk
  exact decide_eq_true (by omega)
theorem mul_int {i j : Int} (a b : Nat) (hi : i.natAbs < 2 ^ a) (hj : j.natAbs < 2 ^ b) (h : a + b ≤ 900000) : mulD (.int i) (.int j) = some (.int (i * j)) := by
  show (if mulOk i j = true then _ else _) = _
  rw [if_pos (mulOk_of a b hi hj h)]
theorem add_int (i j : Int) : addD (.int i) (.int j) = some (.int (i + j)) := rfl
theorem sub_int (i j : Int) : subD (.int i) (.int j) = some (.int (i - j)) := rfl
theorem mod_int {i j : Int} (h : j ≠ 0) : modD (.int i) (.int j) = some (.int (i.fmod j)) := by
  show (if j ≠ 0 then _ else _) = _
  rw [if_pos h]
theorem fdiv_int {i j : Int} (a : Nat) (h : j ≠ 0) (hj : j.natAbs < 2 ^ a) (ha : a ≤ 9000) : fdivD (.int i) (.int j) = some (.int (i.fdiv j)) := by
  have h0 : j.natAbs ≠ 0 := by omega
  show (if j ≠ 0 ∧ j.natAbs.log2 < 9000 then _ else _) = _
  rw [if_pos ⟨h, Nat.lt_of_lt_of_le ((Nat.log2_lt h0).mpr hj) ha⟩]
theorem natAbs_lt {d : Int} {k : Nat} (h0 : 0 ≤ d) (h : d < 2 ^ k) : d.natAbs < 2 ^ k := by
  have e : ((2 ^ k : Nat) : Int) = (2 : Int) ^ k := Int.natCast_pow 2 k
  omega
theorem fmod_range {i j : Int} (h : 0 < j) : 0 ≤ i.fmod j ∧ i.fmod j < j := ⟨Int.fmod_nonneg_of_pos i h, Int.fmod_lt_of_pos i h⟩

/-! ### numbers drawn -/
def fnHash : Fn := ⟨"_law_hash", 2, 3, [], false, (.cons (.set (.nm 2) false (.bin .Mod (.bi .int (.cons (.bin .Add (.bin .Add (.bin .Add (.bin .Mult (.var 0) (.int 1140671)) (.bin .Mult (.bin .Mult (.int 27644437) (.var 1)) (.var 1))) (.bin .Mult (.int 131) (.var 1))) (.int 19)) .nil)) (.int 2147483629))) (.cons (.set (.nm 2) false (.bin .Mod (.bi .int (.cons (.bin .Add (.bin .Add (.bin .Mult (.var 2) (.var 2)) (.bin .Mult (.int 62089) (.var 1))) (.int 32416187)) .nil)) (.int 2147483587))) (.cons (.ret (.bin .Mod (.bi .int (.cons (.bin .Mult (.var 2) (.int 48271)) .nil)) (.int 2147483647))) .nil)))⟩
def hashN (s i : Int) : Int :=
  let m1 := (s * 1140671 + 27644437 * i * i + 131 * i + 19).fmod 2147483629
  let m2 := (m1 * m1 + 62089 * i + 32416187).fmod 2147483587
  (m2 * 48271).fmod 2147483647
theorem hash_ok (C : CT) {s i : Int} (hs : s.natAbs < 2 ^ 40) (hi : i.natAbs < 2 ^ 40) : runF C fnHash [.int s, .int i] = .ret (.int (hashN s i)) [] := by
  have e1 : mulD (.int s) (.int 1140671) = some (.int (s * 1140671)) := mul_int 40 40 hs (by decide) (by decide)
  have e2 : mulD (.int 27644437) (.int i) = some (.int (27644437 * i)) := mul_int 40 40 (by decide) hi (by decide)
  have e3 : mulD (.int (27644437 * i)) (.int i) = some (.int (27644437 * i * i)) := mul_int 80 40 (by omega) hi (by decide)
  have e4 : mulD (.int 131) (.int i) = some (.int (131 * i)) := mul_int 40 40 (by decide) hi (by decide)
  obtain ⟨m1, hm1⟩ : ∃ m, (s * 1140671 + 27644437 * i * i + 131 * i + 19).fmod 2147483629 = m := ⟨_, rfl⟩
  have r1 := fmod_range (i := s * 1140671 + 27644437 * i * i + 131 * i + 19) (j := 2147483629) (by decide)
  rw [hm1] at r1
  have e5 : mulD (.int m1) (.int m1) = some (.int (m1 * m1)) := mul_int 40 40 (by omega) (by omega) (by decide)
  have e6 : mulD (.int 62089) (.int i) = some (.int (62089 * i)) := mul_int 40 40 (by decide) hi (by decide)
  obtain ⟨m2, hm2⟩ : ∃ m, (m1 * m1 + 62089 * i + 32416187).fmod 2147483587 = m := ⟨_, rfl⟩
  have r2 := fmod_range (i := m1 * m1 + 62089 * i + 32416187) (j := 2147483587) (by decide)
  rw [hm2] at r2
  have e7 : mulD (.int m2) (.int 48271) = some (.int (m2 * 48271)) := mul_int 40 40 (by omega) (by decide) (by decide)
  simp [runF, fnHash, exs, ex, ev, evs, getE, biD, binD, bindT, outsOf, isL, e1, e2, e3, e4, e5, e6, e7, add_int, modD, hm1, hm2, hashN]
theorem hashN_range (s i : Int) : 0 ≤ hashN s i ∧ hashN s i < 2147483647 := fmod_range (by decide)
/-- the loop of a draw -/
def rndBody (h : Nat) : ISs := (.cons (.seti 0 (.int 2) (.bin .Add (.idxo 0 (.int 2)) (.int 1))) (.cons (.set (.nm 2) false (.bin .Add (.bin .Mult (.var 2) (.int 2147483587)) (.call h (.cons (.idxo 0 (.int 1)) (.cons (.idxo 0 (.int 2)) .nil))))) .nil))
def fnRandom (h : Nat) : Fn := ⟨"_law_random", 2, 4, [true], false, (.cons (.ifs (.cmp .Gt (.idxo 0 (.int 0)) (.int 0)) (.cons (.set (.nm 2) false (.bin .Mod (.bi .int (.cons (.idxo 0 (.int 0)) .nil)) (.var 1))) (.cons (.seti 0 (.int 0) (.bin .FloorDiv (.idxo 0 (.int 0)) (.var 1))) (.cons (.ret (.var 2)) .nil))) .nil) (.cons (.set (.nm 2) false (.int 0)) (.cons (.for_ (.nm 3) (.rng (.bin .Add (.int 1) (.bin .FloorDiv (.bits (.var 1)) (.int 30)))) (rndBody h)) (.cons (.ret (.bin .Mod (.bi .int (.cons (.var 2) .nil)) (.var 1))) .nil))))⟩
/-- the generator: m bounds how far it has counted -/
def Gn (m : Nat) (g : D) : Prop := ∃ a b c : Int, g = .lst [.int a, .int b, .int c] ∧ 0 ≤ a ∧ 0 ≤ b ∧ b < 2147483647 ∧ 0 ≤ c ∧ c ≤ m
theorem at3 (a b c : D) : atI [a, b, c] 0 = some a ∧ atI [a, b, c] 1 = some b ∧ atI [a, b, c] 2 = some c := ⟨rfl, rfl, rfl⟩
theorem ix3 : ixN 3 0 = some 0 ∧ ixN 3 2 = some 2 := ⟨rfl, rfl⟩
theorem rnd_loop {C : CT} {h : Nat} {a b : Int} {bd : D} (hC : ∀ s i : Int, s.natAbs < 2 ^ 40 → i.natAbs < 2 ^ 40 → C h [.int s, .int i] = .ret (.int (hashN s i)) []) (hb : 0 ≤ b) (hb2 : b < 2147483647) : ∀ (n e : Nat) (lo c d : Int) (t : Option D), 0 ≤ d → d < 2 ^ (31 * e) → 31 * (e + n) ≤ 100000 → 0 ≤ c → c + n < 2 ^ 39 →
    ∃ d' t', forD (.nm 3) (exs C (rndBody h)) (rangeD lo n) [some (.lst [.int a, .int b, .int c]), some bd, some (.int d), t] = .next [some (.lst [.int a, .int b, .int (c + n)]), some bd, some (.int d'), t'] ∧ 0 ≤ d'
  | 0, e, lo, c, d, t, hd, _, _, _, _ => ⟨d, t, by simp [rangeD, forD], hd⟩
  | n + 1, e, lo, c, d, t, hd, hd2, he, hc, hc2 => by
    have e1 : mulD (.int d) (.int 2147483587) = some (.int (d * 2147483587)) := mul_int (31 * e) 40 (natAbs_lt hd hd2) (by decide) (by omega)
    have e2 := hC b (c + 1) (by omega) (by omega)
    have hr := hashN_range b (c + 1)
    have e3 : d * 2147483587 + hashN b (c + 1) < 2 ^ (31 * (e + 1)) := by
      have : (2 : Int) ^ (31 * (e + 1)) = 2 ^ (31 * e) * 2147483648 := by rw [Nat.mul_add, Int.pow_add]; rfl
      omega
    obtain ⟨d', t', h1, h2⟩ := rnd_loop hC hb hb2 n (e + 1) (lo + 1) (c + 1) (d * 2147483587 + hashN b (c + 1)) (some (.int lo)) (by omega) e3 (by omega) (by omega) (by omega)
    refine ⟨d', t', ?_, h2⟩
    have e4 : c + ((n + 1 : Nat) : Int) = c + 1 + (n : Int) := by omega
    rw [e4, ← h1]
    simp [rangeD, forD, bindT, rndBody, exs, ex, ev, evs, getE, binD, idxD, at3, ix3, add_int, e1, e2, callD, argsAt, outsAt, IEs.owns]
theorem bits_le {i : Int} {k : Nat} (h0 : 0 < i) (h : i < 2 ^ k) : Builtin.Int.intBits i ≤ k := by
  unfold Builtin.Int.intBits
  have e : (i == 0) = false := by simp; omega
  rw [e]
  have := (Nat.log2_lt (n := i.natAbs) (by omega)).mpr (natAbs_lt (by omega) h)
  simp
  omega
/-- one draw -/
theorem random_ok {C : CT} {h m k : Nat} {g : D} {bd : Int} (hC : ∀ s i : Int, s.natAbs < 2 ^ 40 → i.natAbs < 2 ^ 40 → C h [.int s, .int i] = .ret (.int (hashN s i)) []) (hg : Gn m g) (hb : 0 < bd) (hb2 : bd < 2 ^ k) (hk : k ≤ 3000) (hm : m < 2 ^ 38) :
    ∃ (r : Int) (g' : D), runF C (fnRandom h) [g, .int bd] = .ret (.int r) [g'] ∧ 0 ≤ r ∧ r < bd ∧ Gn (m + 101) g' := by
  obtain ⟨a, b, c, rfl, ha, hb0, hb1, hc, hcm⟩ := hg
  have hbd : bd ≠ 0 := by omega
  by_cases h0 : 0 < a
  · have e1 : fdivD (.int a) (.int bd) = some (.int (a.fdiv bd)) := fdiv_int k hbd (natAbs_lt (by omega) hb2) (by omega)
    have r1 := fmod_range (i := a) hb
    refine ⟨a.fmod bd, .lst [.int (a.fdiv bd), .int b, .int c], ?_, r1.1, r1.2, _, _, _, rfl, ?_, hb0, hb1, hc, by omega⟩
    · simp [runF, fnRandom, exs, ex, ev, evs, evb, getE, biD, binD, bindT, outsOf, isL, truD, cmpD, idxD, at3, ix3, mod_int hbd, e1, h0]
    · exact Int.fdiv_nonneg ha (by omega)
  · have hbits : Builtin.Int.intBits bd ≤ k := bits_le hb hb2
    have hn : ((1 + (Builtin.Int.intBits bd : Int).fdiv 30)).toNat ≤ 101 := by
      rw [Int.fdiv_eq_ediv_of_nonneg _ (by decide)]
      omega
    have hn0 : rngOk (1 + (Builtin.Int.intBits bd : Int).fdiv 30) = true := by
      rw [Int.fdiv_eq_ediv_of_nonneg _ (by decide)]
      unfold rngOk
      simp
      omega
    obtain ⟨n, hn'⟩ : ∃ n, (1 + (Builtin.Int.intBits bd : Int).fdiv 30).toNat = n := ⟨_, rfl⟩
    rw [hn'] at hn
    obtain ⟨d', t', h1, h2⟩ := rnd_loop (a := a) (bd := .int bd) hC hb0 hb1 n 0 0 c 0 none (by decide) (by decide) (by omega) hc (by omega)
    have r1 := fmod_range (i := d') hb
    refine ⟨d'.fmod bd, .lst [.int a, .int b, .int (c + n)], ?_, r1.1, r1.2, _, _, _, rfl, ha, hb0, hb1, by omega, by omega⟩
    have e1 : fdivD (.int (Builtin.Int.intBits bd : Nat)) (.int 30) = some (.int ((Builtin.Int.intBits bd : Int).fdiv 30)) := fdiv_int 30 (by decide) (by decide) (by decide)
    simp [runF, fnRandom, exs, ex, ev, evs, evb, evi, getE, biD, binD, bindT, outsOf, isL, truD, cmpD, idxD, at3, ix3, mod_int hbd, e1, h0, add_int, hn0, hn', h1]
def fnCell : Fn := ⟨"_law_cell", 2, 2, [], false, (.cons (.ifs (.cmp .Lt (.var 1) (.bi .len (.cons (.var 0) .nil))) (.cons (.ret (.idx (.var 0) (.var 1))) .nil) .nil) (.cons (.ret (.bin .Mod (.bi .sum (.cons (.sl (.var 0) .none (.some (.int 1))) .nil)) (.int 1000003))) .nil))⟩
theorem intsOf_map : ∀ ns : List Int, intsOf (ns.map D.int) = some ns
  | [] => rfl
  | n :: ns => by
    show (intsOf (ns.map D.int)).map (n :: ·) = _
    rw [intsOf_map ns]
    rfl
theorem cell_ok (C : CT) {ns : List Int} {i : Nat} (hl : ns.length ≤ sizeLine) : ∃ s, runF C fnCell [.scr ns, .int i] = .ret (.int s) [] := by
  by_cases h : i < ns.length
  · have e : atI ns (i : Int) = some ns[i] := by
      unfold atI ixN
      simp [h]
    exact ⟨ns[i], by simp [runF, fnCell, exs, ex, ev, evs, evb, getE, biD, lenD, binD, outsOf, isL, truD, cmpD, ltD, idxD, h, e]⟩
  · have h' : ¬ (i : Int) < (ns.length : Int) := by omega
    exact ⟨_, by simp [runF, fnCell, exs, ex, ev, evs, evo, evb, getE, biD, lenD, binD, outsOf, isL, truD, cmpD, ltD, idxD, slD, h', hl, modD, intsOf_map]; rfl⟩
def fnGen (c : Nat) : Fn := ⟨"_law_generator", 2, 3, [], true, (.cons (.set (.nm 2) false (.call c (.cons (.var 0) (.cons (.var 1) .nil)))) (.cons (.ret (.lst (.cons (.bin .Mod (.bi .int (.cons (.bi .max (.cons (.bin .Sub (.var 2) (.bin .Pow (.int 10) (.int 18))) (.cons (.int 0) .nil))) .nil)) (.bin .Pow (.bin .Pow (.int 10) (.int 60)) (.int 10))) (.cons (.bin .Mod (.bi .int (.cons (.var 2) .nil)) (.int 2147483647)) (.cons (.bin .Mult (.int 1000) (.var 1)) .nil))))) .nil))⟩
theorem pow_int {i j : Int} (h : (decide (0 ≤ j) && decide (((i.natAbs.log2 + 1 : Nat) : Int) * j ≤ 134217728)) = true) : powD (.int i) (.int j) = some (.int (i ^ j.toNat)) := by
  rw [Bool.and_eq_true, decide_eq_true_eq, decide_eq_true_eq] at h
  show (if _ ∧ _ then _ else _) = _
  rw [if_pos h]
theorem pow_a : powD (.int 10) (.int 18) = some (.int (10 ^ 18)) := pow_int (by decide +kernel)
theorem pow_b : powD (.int 10) (.int 60) = some (.int (10 ^ 60)) := pow_int (by decide +kernel)
theorem pow_c : powD (.int (10 ^ 60)) (.int 10) = some (.int ((10 ^ 60) ^ 10)) := pow_int (by decide +kernel)
theorem gen_ok {C : CT} {c i : Nat} {ns : List Int} (hC : ∃ s, C c [.scr ns, .int i] = .ret (.int s) []) (hi : i < 1000) : ∃ g, runF C (fnGen c) [.scr ns, .int i] = .ret g [] ∧ Gn (1000 * i) g := by
  obtain ⟨s, hs⟩ := hC
  have e1 : mulD (.int 1000) (.int i) = some (.int (1000 * i)) := mul_int 30 30 (by decide) (by omega) (by decide)
  obtain ⟨z, hz⟩ : ∃ z : Int, z = if (0 : Int) > s - 10 ^ 18 then 0 else s - 10 ^ 18 := ⟨_, rfl⟩
  have r1 := fmod_range (i := z) (j := (10 ^ 60) ^ 10) (by decide +kernel)
  have r2 := fmod_range (i := s) (j := 2147483647) (by decide)
  obtain ⟨w, hw⟩ : ∃ w : Int, w = z.fmod ((10 ^ 60) ^ 10) := ⟨_, rfl⟩
  have e2 : modD (.int z) (.int ((10 ^ 60) ^ 10)) = some (.int w) := by rw [hw]; exact mod_int (by decide +kernel)
  have e3 : biD .max [.int (s - 10 ^ 18), .int 0] = some (.int z) := by rw [hz]; rfl
  refine ⟨.lst [.int w, .int (s.fmod 2147483647), .int (1000 * i)], ?_, _, _, _, rfl, by rw [hw]; exact r1.1, r2.1, r2.2, by omega, by omega⟩
  have e4 : ∀ i : Int, biD .int [.int i] = some (.int i) := fun _ => rfl
  have e5 : modD (.int s) (.int 2147483647) = some (.int (s.fmod 2147483647)) := mod_int (by decide)
  simp [-Int.reducePow, runF, fnGen, exs, ex, ev, evs, getE, binD, bindT, sub_int, pow_a, pow_b, pow_c, callD, argsAt, outsAt, IEs.owns, hs, e1, e2, e3, e4, e5, isL, outsOf, sz_le (n := 3) (by decide)]
/-! ### data compared -/
def fnPick (r : Nat) : Fn := ⟨"_law_pick", 2, 2, [true], false, (.cons (.ret (.idx (.var 1) (.call r (.cons (.own 0) (.cons (.bi .len (.cons (.var 1) .nil)) .nil))))) .nil)⟩
/-- what a draw does -/
def RndOk (C : CT) (r : Nat) : Prop := ∀ (m k : Nat) (g : D) (bd : Int), Gn m g → 0 < bd → bd < 2 ^ k → k ≤ 3000 → m < 2 ^ 38 → ∃ (x : Int) (g' : D), C r [g, .int bd] = .ret (.int x) [g'] ∧ 0 ≤ x ∧ x < bd ∧ Gn (m + 101) g'
theorem pick_ok {C : CT} {r m : Nat} {g : D} {ds : List D} (hr : RndOk C r) (hg : Gn m g) (hm : m < 2 ^ 38) (h0 : ds ≠ []) (hl : ds.length < 2 ^ 40) : ∃ d g', runF C (fnPick r) [g, .lst ds] = .ret d [g'] ∧ d ∈ ds ∧ Gn (m + 101) g' := by
  have hp : 0 < ds.length := List.length_pos_iff.mpr h0
  obtain ⟨x, g', h1, h2, h3, h4⟩ := hr m 40 g ds.length hg (by omega) (by omega) (by decide) hm
  obtain ⟨n, rfl⟩ : ∃ n : Nat, x = n := ⟨x.toNat, by omega⟩
  have hn : n < ds.length := by omega
  have e : atI ds (n : Int) = some ds[n] := by
    unfold atI ixN
    simp [hn]
  exact ⟨ds[n], g', by simp [runF, fnPick, exs, ex, ev, evs, getE, biD, lenD, callD, argsAt, outsAt, IEs.owns, h1, idxD, e, outsOf], List.getElem_mem hn, h4⟩
def sameLc (s : Nat) : IE := (.lc [2] (.nm 2) (.rng (.bi .len (.cons (.var 1) .nil))) (.some (.not (.call s (.cons (.idx (.var 0) (.var 2)) (.cons (.idx (.var 1) (.var 2)) .nil))))) (.var 2))
def fnSame (s : Nat) : Fn := ⟨"_law_same", 2, 3, [], false, (.cons (.ifs (.or (.cmp .Is (.var 1) .non) (.or (.cmp .Is (.var 1) (.bl true)) (.cmp .Is (.var 1) (.bl false)))) (.cons (.ret (.ife (.cmp .Is (.var 1) .non) (.cmp .Is (.var 0) .non) (.ife (.cmp .Is (.var 1) (.bl true)) (.cmp .Is (.var 0) (.bl true)) (.cmp .Is (.var 0) (.bl false))))) .nil) .nil) (.cons (.ifs (.bi .isi (.cons (.var 1) (.cons (.tup (.cons (.ty "list") (.cons (.ty "tuple") .nil))) .nil))) (.cons (.ifs (.or (.and (.not (.bi .isi (.cons (.var 0) (.cons (.ty "list") .nil)))) (.bi .isi (.cons (.var 1) (.cons (.ty "list") .nil)))) (.and (.not (.bi .isi (.cons (.var 0) (.cons (.ty "tuple") .nil)))) (.bi .isi (.cons (.var 1) (.cons (.ty "tuple") .nil))))) (.cons (.ret (.bl false)) .nil) .nil) (.cons (.ret (.and (.cmp .Eq (.bi .len (.cons (.var 0) .nil)) (.bi .len (.cons (.var 1) .nil))) (.cmp .Eq (sameLc s) (.lst .nil)))) .nil)) .nil) (.cons (.ifs (.bi .isi (.cons (.var 1) (.cons (.ty "int") .nil))) (.cons (.ret (.and (.bi .isi (.cons (.var 0) (.cons (.ty "int") .nil))) (.and (.not (.bi .isi (.cons (.var 0) (.cons (.ty "bool") .nil)))) (.cmp .Eq (.var 0) (.var 1))))) .nil) .nil) (.cons (.ret (.and (.bi .isi (.cons (.var 0) (.cons (.ty "str") .nil))) (.cmp .Eq (.var 0) (.var 1)))) .nil))))⟩
/-- how deep a datum is -/
inductive Deep : Nat → D → Prop where
  | int (n : Nat) (i : Int) : Deep n (.int i)
  | bl (n : Nat) (b : Bool) : Deep n (.bl b)
  | non (n : Nat) : Deep n .non
  | lst (n : Nat) (ds : List D) (h : ∀ d ∈ ds, Deep n d) (hl : ds.length ≤ sizeLine) : Deep (n + 1) (.lst ds)
  | tup (n : Nat) (ds : List D) (h : ∀ d ∈ ds, Deep n d) (hl : ds.length ≤ sizeLine) : Deep (n + 1) (.tup ds)
/-- no item is left: the comprehension gives an empty list -/
theorem lc_none {c : Env → Res Bool} {x y : D} : ∀ (n : Nat) (lo : Int) (t : Option D), (∀ (j : Nat), j < n → c [some x, some y, some (.int (lo + j))] = .ok false [some x, some y, some (.int (lo + j))]) → ∃ t', ∀ f : Env → Res D, lcD (.nm 2) [2] c f (rangeD lo n) 0 [some x, some y, t] = .ok [] [some x, some y, t']
  | 0, lo, t, _ => ⟨t, fun f => by simp [rangeD, lcD]⟩
  | n + 1, lo, t, h => by
    have h0 := h 0 (by omega)
    simp only [Int.add_zero, Int.natCast_zero] at h0
    obtain ⟨t', h1⟩ := lc_none (c := c) (x := x) (y := y) n (lo + 1) (some (.int lo)) fun j hj => by
      have := h (j + 1) (by omega)
      have e : lo + 1 + (j : Int) = lo + ((j + 1 : Nat) : Int) := by omega
      rw [e]; exact this
    refine ⟨t', fun f => ?_⟩
    simp [rangeD, lcD, wipeE, bindT, h0, h1]
theorem is_ok : isD .non .non = some true ∧ (∀ b, isD (.bl b) .non = some false) ∧ (∀ i, isD (.int i) .non = some false) ∧ (∀ x, isD (.lst x) .non = some false) ∧ (∀ x, isD (.tup x) .non = some false) ∧ (∀ a b, isD (.bl a) (.bl b) = some (a == b)) ∧ (∀ i b, isD (.int i) (.bl b) = some false) ∧ (∀ x b, isD (.lst x) (.bl b) = some false) ∧ (∀ x b, isD (.tup x) (.bl b) = some false) :=
  ⟨rfl, fun _ => rfl, fun _ => rfl, fun _ => rfl, fun _ => rfl, fun _ _ => rfl, fun _ _ => rfl, fun _ _ => rfl, fun _ _ => rfl⟩
theorem eq_nil : eqD (.lst []) (.lst []) = some true := by
  unfold eqD toPy toPys SeqAt.shaped
  simp [PyData.canLay0, PyData.canLayAll0, PyData.depth, PyData.depthAll, PyData.eqv, PyData.eqvAll]
theorem rngOk_len {n : Nat} (h : n ≤ sizeLine) : rngOk (n : Int) = true := by
  have : sizeLine < 2 ^ 62 := by decide
  unfold rngOk
  simp
  omega
/-- a datum is the same as itself -/
theorem same_items {C : CT} {s : Nat} {ds : List D} {x : D} (hx : ∀ i : Nat, idxD x (.int i) = ds[i]?) (hC : ∀ d ∈ ds, C s [d, d] = .ret (.bl true) []) : ∀ j : Nat, j < ds.length → evc C (.some (.not (.call s (.cons (.idx (.var 0) (.var 2)) (.cons (.idx (.var 1) (.var 2)) .nil))))) [some x, some x, some (.int j)] = .ok false [some x, some x, some (.int j)] := fun j hj => by
  have e : idxD x (.int j) = some ds[j] := by rw [hx]; exact List.getElem?_eq_getElem hj
  have e2 := hC ds[j] (List.getElem_mem hj)
  simp [evc, ev, evs, getE, e, callD, argsAt, outsAt, IEs.owns, e2, truD]
theorem atI_nat {α : Type} (ds : List α) (i : Nat) : atI ds (i : Int) = ds[i]? := by
  unfold atI ixN
  by_cases h : i < ds.length
  · simp [h]
  · have h1 : ds[i]? = none := List.getElem?_eq_none (by omega)
    simp [h, h1]
theorem same_int (C : CT) (s : Nat) (i : Int) : runF C (fnSame s) [.int i, .int i] = .ret (.bl true) [] := by
  have e1 : eqD (.int i) (.int i) = some true := by rw [eq_int]; simp
  simp [runF, fnSame, exs, ex, ev, evs, evb, getE, biD, isiD, isisD, tysOf, anyIsi, cmpD, is_ok, truD, outsOf, kt1, kt2, kt3, kt4, e1, isL, sz_le (n := 2) (by decide)]
theorem same_bl (C : CT) (s : Nat) (b : Bool) : runF C (fnSame s) [.bl b, .bl b] = .ret (.bl true) [] := by
  cases b <;> simp [runF, fnSame, exs, ex, ev, evs, evb, getE, cmpD, is_ok, truD, outsOf]
theorem same_non (C : CT) (s : Nat) : runF C (fnSame s) [.non, .non] = .ret (.bl true) [] := by
  simp [runF, fnSame, exs, ex, ev, evs, evb, getE, cmpD, is_ok, truD, outsOf]
theorem evi_rng {C : CT} {e : IE} {env env1 : Env} {i : Int} (h : ev C e env = .ok (.int i) env1) (hr : rngOk i = true) : evi C (.rng e) env = .ok (rangeD 0 i.toNat) env1 := by
  have q : evi C (.rng e) env = (ev C e env).bind fun x env1 => match x with
    | .int n => if rngOk n then .ok (rangeD 0 n.toNat) env1 else .bad
    | _ => .bad := rfl
  rw [q, h]
  show (if rngOk i = true then _ else _) = _
  rw [if_pos hr]
theorem ev_lc {C : CT} {vs : List Nat} {tg : IT} {it : II} {c : IO} {e : IE} {env env1 env2 : Env} {ds r : List D} (h1 : evi C it env = .ok ds env1) (h2 : lcD tg vs (evc C c) (ev C e) ds 0 env1 = .ok r env2) : ev C (.lc vs tg it c e) env = .ok (.lst r) (backE env1 env2 vs) := by
  have q : ev C (.lc vs tg it c e) env = (evi C it env).bind fun ds env1 => match lcD tg vs (evc C c) (ev C e) ds 0 env1 with
    | .ok r env2 => .ok (D.lst r) (backE env1 env2 vs)
    | _ => .bad := rfl
  rw [q, h1]
  show (match lcD tg vs (evc C c) (ev C e) ds 0 env1 with
    | .ok r env2 => Res.ok (D.lst r) (backE env1 env2 vs)
    | _ => .bad) = _
  rw [h2]
theorem ev_and {C : CT} {a b : IE} {env env1 : Env} (h : ev C a env = .ok (.bl true) env1) : ev C (.and a b) env = ev C b env1 := by
  have q : ev C (.and a b) env = (ev C a env).bind fun x env1 => match truD x with
    | some true => ev C b env1
    | some false => .ok x env1
    | none => .bad := rfl
  rw [q, h]
  rfl
theorem ev_eqnil {C : CT} {x : IE} {env env1 : Env} (e7 : ev C x env = .ok (.lst []) env1) : ev C (.cmp .Eq x (.lst .nil)) env = .ok (.bl true) env1 := by
  simp only [ev, e7, Res.bind_ok, evs]
  rw [if_pos (by show 0 ≤ sizeLine; exact Nat.zero_le _)]
  simp only [Res.bind_ok, cmpD, eq_nil, Option.map_some, lift_some]
theorem runF_ret {C : CT} {f : Fn} {args : List D} {d : D} {env : Env} {outs : List D} (hb : exs C f.body (args.map some ++ List.replicate (f.nn - f.np) none) = .ret d env) (hn : args.length = f.np) (hfr : f.fr = false) (ho : outsOf f.msk env = some outs) : runF C f args = .ret d outs := by
  unfold runF
  rw [if_pos hn, hb]
  simp only
  rw [hfr, ho]
  rfl
theorem same_lst {C : CT} {s : Nat} {ds : List D} (hl : ds.length ≤ sizeLine) (hC : ∀ d ∈ ds, C s [d, d] = .ret (.bl true) []) : runF C (fnSame s) [.lst ds, .lst ds] = .ret (.bl true) [] := by
  obtain ⟨t', e⟩ := lc_none (c := evc C (.some (.not (.call s (.cons (.idx (.var 0) (.var 2)) (.cons (.idx (.var 1) (.var 2)) .nil)))))) (x := .lst ds) (y := .lst ds) ds.length 0 none fun j hj => by
    rw [Int.zero_add]
    exact same_items (x := .lst ds) (ds := ds) (fun i => atI_nat ds i) hC j hj
  have e1 : eqD (.int ds.length) (.int ds.length) = some true := by rw [eq_int]; simp
  have e2 : isisD (.lst ds) [.ty "list", .ty "tuple"] = some true := by simp [isisD, tysOf, anyIsi, isiD, kt13, kt14]
  have e3 : lenD (.lst ds) = some (.int ds.length) := rfl
  have e4 : isiD (.lst ds) "list" = some true := kt13
  have e5 : isiD (.lst ds) "tuple" = some false := kt14
  obtain ⟨n, hn⟩ : ∃ n, ds.length = n := ⟨_, rfl⟩
  rw [hn] at e e1 e3
  have e6 : rngOk (n : Int) = true := rngOk_len (hn ▸ hl)
  have e7 : ev C (sameLc s) [some (.lst ds), some (.lst ds), none] = .ok (.lst []) [some (.lst ds), some (.lst ds), none] := by
    have q1 : ev C (.bi .len (.cons (.var 1) .nil)) [some (.lst ds), some (.lst ds), none] = .ok (.int n) [some (.lst ds), some (.lst ds), none] := by simp [ev, evs, getE, biD, e3]
    exact ev_lc (evi_rng q1 e6) (e _)
  have h1 : evb C (.or (.cmp .Is (.var 1) .non) (.or (.cmp .Is (.var 1) (.bl true)) (.cmp .Is (.var 1) (.bl false)))) [some (.lst ds), some (.lst ds), none] = .ok false [some (.lst ds), some (.lst ds), none] := by simp [evb, ev, evs, getE, cmpD, is_ok, truD]
  have h2 : evb C (.bi .isi (.cons (.var 1) (.cons (.tup (.cons (.ty "list") (.cons (.ty "tuple") .nil))) .nil))) [some (.lst ds), some (.lst ds), none] = .ok true [some (.lst ds), some (.lst ds), none] := by simp [evb, ev, evs, getE, biD, truD, e2, sz_le (n := 2) (by decide)]
  have h3 : evb C (.or (.and (.not (.bi .isi (.cons (.var 0) (.cons (.ty "list") .nil)))) (.bi .isi (.cons (.var 1) (.cons (.ty "list") .nil)))) (.and (.not (.bi .isi (.cons (.var 0) (.cons (.ty "tuple") .nil)))) (.bi .isi (.cons (.var 1) (.cons (.ty "tuple") .nil))))) [some (.lst ds), some (.lst ds), none] = .ok false [some (.lst ds), some (.lst ds), none] := by simp [evb, ev, evs, getE, biD, truD, e4, e5]
  have h4 : ev C (.and (.cmp .Eq (.bi .len (.cons (.var 0) .nil)) (.bi .len (.cons (.var 1) .nil))) (.cmp .Eq (sameLc s) (.lst .nil))) [some (.lst ds), some (.lst ds), none] = .ok (.bl true) [some (.lst ds), some (.lst ds), none] := by
    have h5 : ev C (.cmp .Eq (.bi .len (.cons (.var 0) .nil)) (.bi .len (.cons (.var 1) .nil))) [some (.lst ds), some (.lst ds), none] = .ok (.bl true) [some (.lst ds), some (.lst ds), none] := by simp [ev, evs, evb, getE, biD, cmpD, e1, e3]
    rw [ev_and h5]
    exact ev_eqnil e7
  have hb : exs C (fnSame s).body [some (.lst ds), some (.lst ds), none] = .ret (.bl true) [some (.lst ds), some (.lst ds), none] := by
    simp only [fnSame, exs, ex, h1, h2, h3, h4, Res.sbind_ok]
  exact runF_ret hb rfl rfl rfl
theorem same_tup {C : CT} {s : Nat} {ds : List D} (hl : ds.length ≤ sizeLine) (hC : ∀ d ∈ ds, C s [d, d] = .ret (.bl true) []) : runF C (fnSame s) [.tup ds, .tup ds] = .ret (.bl true) [] := by
  obtain ⟨t', e⟩ := lc_none (c := evc C (.some (.not (.call s (.cons (.idx (.var 0) (.var 2)) (.cons (.idx (.var 1) (.var 2)) .nil)))))) (x := .tup ds) (y := .tup ds) ds.length 0 none fun j hj => by
    rw [Int.zero_add]
    exact same_items (x := .tup ds) (ds := ds) (fun i => atI_nat ds i) hC j hj
  have e1 : eqD (.int ds.length) (.int ds.length) = some true := by rw [eq_int]; simp
  have e2 : isisD (.tup ds) [.ty "list", .ty "tuple"] = some true := by simp [isisD, tysOf, anyIsi, isiD, kt18, kt19]
  have e3 : lenD (.tup ds) = some (.int ds.length) := rfl
  have e4 : isiD (.tup ds) "list" = some false := kt18
  have e5 : isiD (.tup ds) "tuple" = some true := kt19
  obtain ⟨n, hn⟩ : ∃ n, ds.length = n := ⟨_, rfl⟩
  rw [hn] at e e1 e3
  have e6 : rngOk (n : Int) = true := rngOk_len (hn ▸ hl)
  have e7 : ev C (sameLc s) [some (.tup ds), some (.tup ds), none] = .ok (.lst []) [some (.tup ds), some (.tup ds), none] := by
    have q1 : ev C (.bi .len (.cons (.var 1) .nil)) [some (.tup ds), some (.tup ds), none] = .ok (.int n) [some (.tup ds), some (.tup ds), none] := by simp [ev, evs, getE, biD, e3]
    exact ev_lc (evi_rng q1 e6) (e _)
  have h1 : evb C (.or (.cmp .Is (.var 1) .non) (.or (.cmp .Is (.var 1) (.bl true)) (.cmp .Is (.var 1) (.bl false)))) [some (.tup ds), some (.tup ds), none] = .ok false [some (.tup ds), some (.tup ds), none] := by simp [evb, ev, evs, getE, cmpD, is_ok, truD]
  have h2 : evb C (.bi .isi (.cons (.var 1) (.cons (.tup (.cons (.ty "list") (.cons (.ty "tuple") .nil))) .nil))) [some (.tup ds), some (.tup ds), none] = .ok true [some (.tup ds), some (.tup ds), none] := by simp [evb, ev, evs, getE, biD, truD, e2, sz_le (n := 2) (by decide)]
  have h3 : evb C (.or (.and (.not (.bi .isi (.cons (.var 0) (.cons (.ty "list") .nil)))) (.bi .isi (.cons (.var 1) (.cons (.ty "list") .nil)))) (.and (.not (.bi .isi (.cons (.var 0) (.cons (.ty "tuple") .nil)))) (.bi .isi (.cons (.var 1) (.cons (.ty "tuple") .nil))))) [some (.tup ds), some (.tup ds), none] = .ok false [some (.tup ds), some (.tup ds), none] := by simp [evb, ev, evs, getE, biD, truD, e4, e5]
  have h4 : ev C (.and (.cmp .Eq (.bi .len (.cons (.var 0) .nil)) (.bi .len (.cons (.var 1) .nil))) (.cmp .Eq (sameLc s) (.lst .nil))) [some (.tup ds), some (.tup ds), none] = .ok (.bl true) [some (.tup ds), some (.tup ds), none] := by
    have h5 : ev C (.cmp .Eq (.bi .len (.cons (.var 0) .nil)) (.bi .len (.cons (.var 1) .nil))) [some (.tup ds), some (.tup ds), none] = .ok (.bl true) [some (.tup ds), some (.tup ds), none] := by simp [ev, evs, evb, getE, biD, cmpD, e1, e3]
    rw [ev_and h5]
    exact ev_eqnil e7
  have hb : exs C (fnSame s).body [some (.tup ds), some (.tup ds), none] = .ret (.bl true) [some (.tup ds), some (.tup ds), none] := by
    simp only [fnSame, exs, ex, h1, h2, h3, h4, Res.sbind_ok]
  exact runF_ret hb rfl rfl rfl
theorem same_ok {C : CT} {s : Nat} {d : D} {n : Nat} (hd : Deep n d) (hC : ∀ m e, n = m + 1 → Deep m e → C s [e, e] = .ret (.bl true) []) : runF C (fnSame s) [d, d] = .ret (.bl true) [] := by
  cases hd with
  | int _ i => exact same_int C s i
  | bl _ b => exact same_bl C s b
  | non _ => exact same_non C s
  | lst n ds h hl => exact same_lst hl fun d hd => hC n d rfl (h d hd)
  | tup n ds h hl => exact same_tup hl fun d hd => hC n d rfl (h d hd)
end VI
namespace LT
open PySem PySem.Spec PyProof.Rows L2 VI
def top (i : Nat) : Stmt := PySem.Challenge.pw_joborders_k01_fractions_of_jobs.main.body.getD i (.Pass ⟨0, 0, 0, 0⟩)
abbrev dd (i : Nat) (x : Str) : He.DefD := ⟨(x, none), x, x, defArgs (top i), defBody (top i), defScope (top i), [], []⟩
/-- is_whole -/
def f_0 : Fn := ⟨"is_whole", 1, 1, [], false, (.cons (.ret (.and (.bi .isi (.cons (.var 0) (.cons (.ty "int") .nil))) (.not (.bi .isi (.cons (.var 0) (.cons (.ty "bool") .nil)))))) .nil)⟩
/-- common_of -/
def c_1_0 : IE := (.cmp .NotEq (.var 1) (.int 0))
def w_1_1 : ISs := (.cons (.par 0 1 (.var 1) (.bin .Mod (.var 0) (.var 1))) .nil)
def f_1 : Fn := ⟨"common_of", 2, 2, [], false, (.cons (.par 0 1 (.bi .abs (.cons (.var 0) .nil)) (.bi .abs (.cons (.var 1) .nil))) (.cons (.whl c_1_0 w_1_1) (.cons (.ret (.var 0)) .nil)))⟩
/-- is_fraction -/
def f_2 : Fn := ⟨"is_fraction", 1, 1, [], false, (.cons (.ifs (.or (.not (.bi .isi (.cons (.var 0) (.cons (.ty "tuple") .nil)))) (.or (.cmp .NotEq (.bi .len (.cons (.var 0) .nil)) (.int 2)) (.or (.not (.call 0 (.cons (.idx (.var 0) (.int 0)) .nil))) (.not (.call 0 (.cons (.idx (.var 0) (.int 1)) .nil)))))) (.cons (.ret (.bl false)) .nil) .nil) (.cons (.ret (.and (.cmp .GtE (.idx (.var 0) (.int 1)) (.int 1)) (.cmp .Eq (.call 1 (.cons (.idx (.var 0) (.int 0)) (.cons (.idx (.var 0) (.int 1)) .nil))) (.int 1)))) .nil))⟩
/-- lowest -/
def f_3 : Fn := ⟨"lowest", 2, 3, [], false, (.cons (.set (.nm 2) false (.call 1 (.cons (.var 0) (.cons (.var 1) .nil)))) (.cons (.ifs (.cmp .Lt (.var 1) (.int 0)) (.cons (.set (.nm 2) false (.neg (.var 2))) .nil) .nil) (.cons (.ret (.tup (.cons (.bin .FloorDiv (.var 0) (.var 2)) (.cons (.bin .FloorDiv (.var 1) (.var 2)) .nil)))) .nil)))⟩
/-- plus -/
def f_4 : Fn := ⟨"plus", 2, 2, [], false, (.cons (.ret (.call 3 (.cons (.bin .Add (.bin .Mult (.idx (.var 0) (.int 0)) (.idx (.var 1) (.int 1))) (.bin .Mult (.idx (.var 1) (.int 0)) (.idx (.var 0) (.int 1)))) (.cons (.bin .Mult (.idx (.var 0) (.int 1)) (.idx (.var 1) (.int 1))) .nil)))) .nil)⟩
/-- minus -/
def f_5 : Fn := ⟨"minus", 2, 2, [], false, (.cons (.ret (.call 3 (.cons (.bin .Sub (.bin .Mult (.idx (.var 0) (.int 0)) (.idx (.var 1) (.int 1))) (.bin .Mult (.idx (.var 1) (.int 0)) (.idx (.var 0) (.int 1)))) (.cons (.bin .Mult (.idx (.var 0) (.int 1)) (.idx (.var 1) (.int 1))) .nil)))) .nil)⟩
/-- product -/
def f_6 : Fn := ⟨"product", 2, 2, [], false, (.cons (.ret (.call 3 (.cons (.bin .Mult (.idx (.var 0) (.int 0)) (.idx (.var 1) (.int 0))) (.cons (.bin .Mult (.idx (.var 0) (.int 1)) (.idx (.var 1) (.int 1))) .nil)))) .nil)⟩
/-- compared -/
def f_7 : Fn := ⟨"compared", 2, 4, [], false, (.cons (.set (.nm 2) false (.bin .Mult (.idx (.var 0) (.int 0)) (.idx (.var 1) (.int 1)))) (.cons (.set (.nm 3) false (.bin .Mult (.idx (.var 1) (.int 0)) (.idx (.var 0) (.int 1)))) (.cons (.ifs (.cmp .Eq (.var 2) (.var 3)) (.cons (.ret (.int 0)) .nil) .nil) (.cons (.ret (.ife (.cmp .Lt (.var 2) (.var 3)) (.neg (.int 1)) (.int 1))) .nil))))⟩
/-- over -/
def f_8 : Fn := ⟨"over", 2, 2, [], false, (.cons (.ret (.call 3 (.cons (.bin .Mult (.idx (.var 0) (.int 0)) (.idx (.var 1) (.int 1))) (.cons (.bin .Mult (.idx (.var 0) (.int 1)) (.idx (.var 1) (.int 0))) .nil)))) .nil)⟩
/-- _law_hash -/
def f_9 : Fn := ⟨"_law_hash", 2, 3, [], false, (.cons (.set (.nm 2) false (.bin .Mod (.bi .int (.cons (.bin .Add (.bin .Add (.bin .Add (.bin .Mult (.var 0) (.int 1140671)) (.bin .Mult (.bin .Mult (.int 27644437) (.var 1)) (.var 1))) (.bin .Mult (.int 131) (.var 1))) (.int 19)) .nil)) (.int 2147483629))) (.cons (.set (.nm 2) false (.bin .Mod (.bi .int (.cons (.bin .Add (.bin .Add (.bin .Mult (.var 2) (.var 2)) (.bin .Mult (.int 62089) (.var 1))) (.int 32416187)) .nil)) (.int 2147483587))) (.cons (.ret (.bin .Mod (.bi .int (.cons (.bin .Mult (.var 2) (.int 48271)) .nil)) (.int 2147483647))) .nil)))⟩
/-- _law_random -/
def w_10_0 : ISs := (.cons (.seti 0 (.int 2) (.bin .Add (.idxo 0 (.int 2)) (.int 1))) (.cons (.set (.nm 2) false (.bin .Add (.bin .Mult (.var 2) (.int 2147483587)) (.call 9 (.cons (.idxo 0 (.int 1)) (.cons (.idxo 0 (.int 2)) .nil))))) .nil))
def f_10 : Fn := ⟨"_law_random", 2, 4, [true], false, (.cons (.ifs (.cmp .Gt (.idxo 0 (.int 0)) (.int 0)) (.cons (.set (.nm 2) false (.bin .Mod (.bi .int (.cons (.idxo 0 (.int 0)) .nil)) (.var 1))) (.cons (.seti 0 (.int 0) (.bin .FloorDiv (.idxo 0 (.int 0)) (.var 1))) (.cons (.ret (.var 2)) .nil))) .nil) (.cons (.set (.nm 2) false (.int 0)) (.cons (.for_ (.nm 3) (.rng (.bin .Add (.int 1) (.bin .FloorDiv (.bits (.var 1)) (.int 30)))) w_10_0) (.cons (.ret (.bin .Mod (.bi .int (.cons (.var 2) .nil)) (.var 1))) .nil))))⟩
/-- _law_cell -/
def f_11 : Fn := ⟨"_law_cell", 2, 2, [], false, (.cons (.ifs (.cmp .Lt (.var 1) (.bi .len (.cons (.var 0) .nil))) (.cons (.ret (.idx (.var 0) (.var 1))) .nil) .nil) (.cons (.ret (.bin .Mod (.bi .sum (.cons (.sl (.var 0) .none (.some (.int 1))) .nil)) (.int 1000003))) .nil))⟩
/-- _law_generator -/
def f_12 : Fn := ⟨"_law_generator", 2, 3, [], true, (.cons (.set (.nm 2) false (.call 11 (.cons (.var 0) (.cons (.var 1) .nil)))) (.cons (.ret (.lst (.cons (.bin .Mod (.bi .int (.cons (.bi .max (.cons (.bin .Sub (.var 2) (.bin .Pow (.int 10) (.int 18))) (.cons (.int 0) .nil))) .nil)) (.bin .Pow (.bin .Pow (.int 10) (.int 60)) (.int 10))) (.cons (.bin .Mod (.bi .int (.cons (.var 2) .nil)) (.int 2147483647)) (.cons (.bin .Mult (.int 1000) (.var 1)) .nil))))) .nil))⟩
/-- _law_pick -/
def f_13 : Fn := ⟨"_law_pick", 2, 2, [true], false, (.cons (.ret (.idx (.var 1) (.call 10 (.cons (.own 0) (.cons (.bi .len (.cons (.var 1) .nil)) .nil))))) .nil)⟩
/-- _law_same -/
def l_14_0 : IE := (.lc [2] (.nm 2) (.rng (.bi .len (.cons (.var 1) .nil))) (.some (.not (.call 14 (.cons (.idx (.var 0) (.var 2)) (.cons (.idx (.var 1) (.var 2)) .nil))))) (.var 2))
def f_14 : Fn := ⟨"_law_same", 2, 3, [], false, (.cons (.ifs (.or (.cmp .Is (.var 1) .non) (.or (.cmp .Is (.var 1) (.bl true)) (.cmp .Is (.var 1) (.bl false)))) (.cons (.ret (.ife (.cmp .Is (.var 1) .non) (.cmp .Is (.var 0) .non) (.ife (.cmp .Is (.var 1) (.bl true)) (.cmp .Is (.var 0) (.bl true)) (.cmp .Is (.var 0) (.bl false))))) .nil) .nil) (.cons (.ifs (.bi .isi (.cons (.var 1) (.cons (.tup (.cons (.ty "list") (.cons (.ty "tuple") .nil))) .nil))) (.cons (.ifs (.or (.and (.not (.bi .isi (.cons (.var 0) (.cons (.ty "list") .nil)))) (.bi .isi (.cons (.var 1) (.cons (.ty "list") .nil)))) (.and (.not (.bi .isi (.cons (.var 0) (.cons (.ty "tuple") .nil)))) (.bi .isi (.cons (.var 1) (.cons (.ty "tuple") .nil))))) (.cons (.ret (.bl false)) .nil) .nil) (.cons (.ret (.and (.cmp .Eq (.bi .len (.cons (.var 0) .nil)) (.bi .len (.cons (.var 1) .nil))) (.cmp .Eq l_14_0 (.lst .nil)))) .nil)) .nil) (.cons (.ifs (.bi .isi (.cons (.var 1) (.cons (.ty "int") .nil))) (.cons (.ret (.and (.bi .isi (.cons (.var 0) (.cons (.ty "int") .nil))) (.and (.not (.bi .isi (.cons (.var 0) (.cons (.ty "bool") .nil)))) (.cmp .Eq (.var 0) (.var 1))))) .nil) .nil) (.cons (.ret (.and (.bi .isi (.cons (.var 0) (.cons (.ty "str") .nil))) (.cmp .Eq (.var 0) (.var 1)))) .nil))))⟩
/-- _law_is_whole -/
def f_15 : Fn := ⟨"_law_is_whole", 1, 1, [], false, (.cons (.ret (.and (.bi .isi (.cons (.var 0) (.cons (.ty "int") .nil))) (.not (.bi .isi (.cons (.var 0) (.cons (.ty "bool") .nil)))))) .nil)⟩
/-- _law_call -/
def f_16 : Fn := ⟨"_law_call", 2, 2, [], false, (.cons (.ifs (.cmp .Eq (.bi .len (.cons (.var 1) .nil)) (.int 1)) (.cons (.ret (.callv 0 (.cons (.idx (.var 1) (.int 0)) .nil))) .nil) .nil) (.cons (.ifs (.cmp .Eq (.bi .len (.cons (.var 1) .nil)) (.int 2)) (.cons (.ret (.callv 0 (.cons (.idx (.var 1) (.int 0)) (.cons (.idx (.var 1) (.int 1)) .nil)))) .nil) .nil) (.cons (.ifs (.cmp .Eq (.bi .len (.cons (.var 1) .nil)) (.int 3)) (.cons (.ret (.callv 0 (.cons (.idx (.var 1) (.int 0)) (.cons (.idx (.var 1) (.int 1)) (.cons (.idx (.var 1) (.int 2)) .nil))))) .nil) .nil) (.cons (.ifs (.cmp .Eq (.bi .len (.cons (.var 1) .nil)) (.int 4)) (.cons (.ret (.callv 0 (.cons (.idx (.var 1) (.int 0)) (.cons (.idx (.var 1) (.int 1)) (.cons (.idx (.var 1) (.int 2)) (.cons (.idx (.var 1) (.int 3)) .nil)))))) .nil) .nil) (.cons (.ifs (.cmp .Eq (.bi .len (.cons (.var 1) .nil)) (.int 5)) (.cons (.ret (.callv 0 (.cons (.idx (.var 1) (.int 0)) (.cons (.idx (.var 1) (.int 1)) (.cons (.idx (.var 1) (.int 2)) (.cons (.idx (.var 1) (.int 3)) (.cons (.idx (.var 1) (.int 4)) .nil))))))) .nil) .nil) (.cons (.ret (.callv 0 (.cons (.idx (.var 1) (.int 0)) (.cons (.idx (.var 1) (.int 1)) (.cons (.idx (.var 1) (.int 2)) (.cons (.idx (.var 1) (.int 3)) (.cons (.idx (.var 1) (.int 4)) (.cons (.idx (.var 1) (.int 5)) .nil)))))))) .nil))))))⟩
/-- _law_judged -/
def w_17_0 : ISs := (.cons (.ifs (.not (.call 14 (.cons (.call 16 (.cons (.var 0) (.cons (.bin .Add (.var 1) (.lst (.cons (.var 4) .nil))) .nil))) (.cons (.callv 3 (.cons (.var 4) .nil)) .nil)))) (.cons (.ret (.bl false)) .nil) .nil) .nil)
def f_17 : Fn := ⟨"_law_judged", 4, 5, [], false, (.cons (.for_ (.nm 4) (.val (.var 2)) w_17_0) (.cons (.ret (.bl true)) .nil))⟩
/-- _law_common -/
def c_18_0 : IE := (.cmp .NotEq (.var 1) (.int 0))
def w_18_1 : ISs := (.cons (.par 0 1 (.var 1) (.bin .Sub (.var 0) (.bin .Mult (.var 1) (.bin .FloorDiv (.var 0) (.var 1))))) .nil)
def f_18 : Fn := ⟨"_law_common", 2, 2, [], false, (.cons (.whl c_18_0 w_18_1) (.cons (.ret (.bi .abs (.cons (.var 0) .nil))) .nil))⟩
/-- _law_lowest -/
def f_19 : Fn := ⟨"_law_lowest", 2, 3, [], false, (.cons (.set (.nm 2) false (.call 18 (.cons (.var 0) (.cons (.var 1) .nil)))) (.cons (.ifs (.cmp .Lt (.var 1) (.int 0)) (.cons (.set (.nm 2) false (.bin .Sub (.int 0) (.var 2))) .nil) .nil) (.cons (.ret (.tup (.cons (.bin .FloorDiv (.var 0) (.var 2)) (.cons (.bin .FloorDiv (.var 1) (.var 2)) .nil)))) .nil)))⟩
/-- _law_is_fraction -/
def f_20 : Fn := ⟨"_law_is_fraction", 1, 1, [], false, (.cons (.ifs (.or (.not (.bi .isi (.cons (.var 0) (.cons (.ty "tuple") .nil)))) (.or (.cmp .NotEq (.bi .len (.cons (.var 0) .nil)) (.int 2)) (.or (.not (.call 15 (.cons (.idx (.var 0) (.int 0)) .nil))) (.not (.call 15 (.cons (.idx (.var 0) (.int 1)) .nil)))))) (.cons (.ret (.bl false)) .nil) .nil) (.cons (.ret (.and (.cmp .Gt (.idx (.var 0) (.int 1)) (.int 0)) (.cmp .Eq (.call 18 (.cons (.idx (.var 0) (.int 0)) (.cons (.idx (.var 0) (.int 1)) .nil))) (.int 1)))) .nil))⟩
/-- _law_plus -/
def f_21 : Fn := ⟨"_law_plus", 2, 2, [], false, (.cons (.ret (.call 19 (.cons (.bin .Add (.bin .Mult (.idx (.var 0) (.int 0)) (.idx (.var 1) (.int 1))) (.bin .Mult (.idx (.var 1) (.int 0)) (.idx (.var 0) (.int 1)))) (.cons (.bin .Mult (.idx (.var 0) (.int 1)) (.idx (.var 1) (.int 1))) .nil)))) .nil)⟩
/-- _law_minus -/
def f_22 : Fn := ⟨"_law_minus", 2, 2, [], false, (.cons (.ret (.call 19 (.cons (.bin .Sub (.bin .Mult (.idx (.var 0) (.int 0)) (.idx (.var 1) (.int 1))) (.bin .Mult (.idx (.var 1) (.int 0)) (.idx (.var 0) (.int 1)))) (.cons (.bin .Mult (.idx (.var 0) (.int 1)) (.idx (.var 1) (.int 1))) .nil)))) .nil)⟩
/-- _law_times -/
def f_23 : Fn := ⟨"_law_times", 2, 2, [], false, (.cons (.ret (.call 19 (.cons (.bin .Mult (.idx (.var 0) (.int 0)) (.idx (.var 1) (.int 0))) (.cons (.bin .Mult (.idx (.var 0) (.int 1)) (.idx (.var 1) (.int 1))) .nil)))) .nil)⟩
/-- _law_less -/
def f_24 : Fn := ⟨"_law_less", 2, 2, [], false, (.cons (.ret (.cmp .Lt (.bin .Mult (.idx (.var 0) (.int 0)) (.idx (.var 1) (.int 1))) (.bin .Mult (.idx (.var 1) (.int 0)) (.idx (.var 0) (.int 1))))) .nil)⟩
/-- _law_drawn_fraction -/
def f_25 : Fn := ⟨"_law_drawn_fraction", 2, 2, [true], false, (.cons (.ret (.call 19 (.cons (.bin .Sub (.call 10 (.cons (.own 0) (.cons (.bin .Add (.bin .Mult (.int 2) (.var 1)) (.int 1)) .nil))) (.var 1)) (.cons (.bin .Add (.int 1) (.call 10 (.cons (.own 0) (.cons (.call 13 (.cons (.own 0) (.cons (.lst (.cons (.int 1) (.cons (.int 1) (.cons (.int 3) (.cons (.int 12) .nil))))) .nil))) .nil)))) .nil)))) .nil)⟩
/-- _law_pair_right -/
def s_26_0 : IS := (.set (.nm 1) false (.call 13 (.cons (.own 0) (.cons (.lst (.cons (.int 3) (.cons (.int 40) (.cons (.bin .Pow (.int 10) (.int 9)) (.cons (.bin .Pow (.int 10) (.int 40)) .nil))))) .nil))))
def s_26_1 : IS := (.par 2 3 (.call 25 (.cons (.own 0) (.cons (.var 1) .nil))) (.call 25 (.cons (.own 0) (.cons (.var 1) .nil))))
def s_26_2 : IS := (.set (.nm 4) false (.lst (.cons (.call 21 (.cons (.var 2) (.cons (.var 3) .nil))) (.cons (.call 22 (.cons (.var 2) (.cons (.var 3) .nil))) (.cons (.call 23 (.cons (.var 2) (.cons (.var 3) .nil))) .nil)))))
def s_26_3 : IS := (.set (.nm 5) false (.lst (.cons (.call 4 (.cons (.var 2) (.cons (.var 3) .nil))) (.cons (.call 5 (.cons (.var 2) (.cons (.var 3) .nil))) (.cons (.call 6 (.cons (.var 2) (.cons (.var 3) .nil))) (.cons (.callk 4 [1, 0] .nil (.cons (.var 3) (.cons (.var 2) .nil))) (.cons (.callk 5 [1, 0] .nil (.cons (.var 3) (.cons (.var 2) .nil))) (.cons (.callk 6 [1, 0] .nil (.cons (.var 3) (.cons (.var 2) .nil))) .nil))))))))
def s_26_4 : IS := (.set (.nm 6) false (.ife (.call 24 (.cons (.var 2) (.cons (.var 3) .nil))) (.bin .Sub (.int 0) (.int 1)) (.ife (.cmp .Eq (.var 2) (.var 3)) (.int 0) (.int 1))))
def s_26_5 : IS := (.ifs (.or (.not (.call 14 (.cons (.var 5) (.cons (.bin .Add (.var 4) (.var 4)) .nil)))) (.not (.call 14 (.cons (.lst (.cons (.call 7 (.cons (.var 2) (.cons (.var 3) .nil))) (.cons (.callk 7 [1, 0] .nil (.cons (.var 3) (.cons (.var 2) .nil))) (.cons (.call 7 (.cons (.var 3) (.cons (.var 2) .nil))) .nil)))) (.cons (.lst (.cons (.var 6) (.cons (.var 6) (.cons (.bin .Sub (.int 0) (.var 6)) .nil)))) .nil))))) (.cons (.ret (.bl false)) .nil) .nil)
def s_26_6 : IS := (.ifs (.and (.cmp .NotEq (.idx (.var 3) (.int 0)) (.int 0)) (.not (.call 14 (.cons (.lst (.cons (.call 8 (.cons (.var 2) (.cons (.var 3) .nil))) (.cons (.callk 8 [1, 0] .nil (.cons (.var 3) (.cons (.var 2) .nil))) .nil))) (.cons (.bin .Mult (.lst (.cons (.call 19 (.cons (.bin .Mult (.idx (.var 2) (.int 0)) (.idx (.var 3) (.int 1))) (.cons (.bin .Mult (.idx (.var 2) (.int 1)) (.idx (.var 3) (.int 0))) .nil))) .nil)) (.int 2)) .nil))))) (.cons (.ret (.bl false)) .nil) .nil)
def s_26_7 : IS := (.par 7 8 (.bin .Sub (.call 10 (.cons (.own 0) (.cons (.bin .Add (.bin .Mult (.int 2) (.var 1)) (.int 1)) .nil))) (.var 1)) (.bin .Add (.int 1) (.call 10 (.cons (.own 0) (.cons (.var 1) .nil)))))
def s_26_8 : IS := (.ret (.call 14 (.cons (.lst (.cons (.call 3 (.cons (.var 7) (.cons (.var 8) .nil))) (.cons (.callk 3 [1, 0] .nil (.cons (.bin .Sub (.int 0) (.var 8)) (.cons (.var 7) .nil))) .nil))) (.cons (.lst (.cons (.call 19 (.cons (.var 7) (.cons (.var 8) .nil))) (.cons (.call 19 (.cons (.var 7) (.cons (.bin .Sub (.int 0) (.var 8)) .nil))) .nil))) .nil))))
def f_26 : Fn := ⟨"_law_pair_right", 1, 9, [true], false, (.cons s_26_0 (.cons s_26_1 (.cons s_26_2 (.cons s_26_3 (.cons s_26_4 (.cons s_26_5 (.cons s_26_6 (.cons s_26_7 (.cons s_26_8 .nil)))))))))⟩
/-- law -/
def w_27_0 : ISs := (.cons (.ifs (.not (.call 26 (.cons (.own 2) .nil))) (.cons (.ret (.bl false)) .nil) .nil) .nil)
def s_27_1 : IS := (.set (.nm 2) true (.call 12 (.cons (.var 0) (.cons (.var 1) .nil))))
def s_27_2 : IS := (.for_ (.nm 3) (.rng (.int 6)) w_27_0)
def s_27_3 : IS := (.par 4 5 (.bin .Sub (.call 10 (.cons (.own 2) (.cons (.int 30) .nil))) (.int 10)) (.bin .Sub (.call 10 (.cons (.own 2) (.cons (.int 12) .nil))) (.int 2)))
def s_27_4 : IS := (.set (.nm 6) false (.lst (.cons (.tup (.cons (.var 4) (.cons (.var 5) .nil))) (.cons (.tup (.cons (.var 4) (.cons (.int 1) .nil))) (.cons (.tup (.cons (.int 0) (.cons (.var 5) .nil))) (.cons (.tup (.cons (.int 0) (.cons (.int 1) .nil))) (.cons (.tup (.cons (.int 0) (.cons (.int 2) .nil))) (.cons (.tup (.cons (.int 2) (.cons (.int 4) .nil))) (.cons (.tup (.cons (.int 3) (.cons (.bin .Sub (.int 0) (.int 1)) .nil))) (.cons (.tup (.cons (.int 3) (.cons (.int 0) .nil))) (.cons (.lst (.cons (.int 1) (.cons (.int 2) .nil))) (.cons (.tup (.cons (.int 1) .nil)) (.cons (.tup (.cons (.int 1) (.cons (.int 2) (.cons (.int 3) .nil)))) (.cons (.tup (.cons (.bl true) (.cons (.int 1) .nil))) (.cons (.tup (.cons (.int 1) (.cons (.bl true) .nil))) (.cons (.tup (.cons (.str "1") (.cons (.int 1) .nil))) .nil))))))))))))))))
def s_27_5 : IS := (.set (.nm 6) false (.bin .Add (.var 6) (.lst (.cons (.tup (.cons .non (.cons (.int 1) .nil))) (.cons .non (.cons (.int 0) (.cons (.str "1/2") (.cons (.tup (.cons (.int 1) (.cons (.int 2) .nil))) (.cons (.tup (.cons (.int 5) (.cons (.int 9) .nil))) (.cons (.tup (.cons (.int 1) (.cons (.bin .Pow (.int 10) (.int 30)) .nil))) .nil))))))))))
def s_27_6 : IS := (.ifs (.not (.call 17 (.cons (.fn 2) (.cons (.lst .nil) (.cons (.var 6) (.cons (.fn 20) .nil)))))) (.cons (.ret (.bl false)) .nil) .nil)
def w_27_7 : ISs := (.cons s_27_1 (.cons s_27_2 (.cons s_27_3 (.cons s_27_4 (.cons s_27_5 (.cons s_27_6 (.cons (.frz 2) .nil)))))))
def f_27 : Fn := ⟨"law", 1, 7, [], false, (.cons (.for_ (.nm 1) (.rng (.int 2)) w_27_7) (.cons (.ret (.call 14 (.cons (.lst (.cons (.callk 2 [0] .nil (.cons (.tup (.cons (.int 1) (.cons (.int 2) .nil))) .nil)) (.cons (.call 4 (.cons (.tup (.cons (.int 1) (.cons (.int 2) .nil))) (.cons (.tup (.cons (.int 1) (.cons (.int 3) .nil))) .nil))) (.cons (.call 8 (.cons (.tup (.cons (.int 1) (.cons (.int 2) .nil))) (.cons (.tup (.cons (.bin .Sub (.int 0) (.int 1)) (.cons (.int 4) .nil))) .nil))) (.cons (.call 3 (.cons (.int 6) (.cons (.bin .Sub (.int 0) (.int 4)) .nil))) .nil))))) (.cons (.lst (.cons (.bl true) (.cons (.tup (.cons (.int 5) (.cons (.int 6) .nil))) (.cons (.tup (.cons (.bin .Sub (.int 0) (.int 2)) (.cons (.int 1) .nil))) (.cons (.tup (.cons (.bin .Sub (.int 0) (.int 3)) (.cons (.int 2) .nil))) .nil))))) .nil)))) .nil))⟩
def T : List Fn := [f_0, f_1, f_2, f_3, f_4, f_5, f_6, f_7, f_8, f_9, f_10, f_11, f_12, f_13, f_14, f_15, f_16, f_17, f_18, f_19, f_20, f_21, f_22, f_23, f_24, f_25, f_26, f_27]
def X : List Dfn := [⟨dd 1 "is_whole", ["value"], f_0⟩, ⟨dd 2 "common_of", ["one", "other"], f_1⟩, ⟨dd 3 "is_fraction", ["value"], f_2⟩, ⟨dd 4 "lowest", ["number", "bottom", "common"], f_3⟩, ⟨dd 5 "plus", ["one", "other"], f_4⟩, ⟨dd 6 "minus", ["one", "other"], f_5⟩, ⟨dd 7 "product", ["one", "other"], f_6⟩, ⟨dd 8 "compared", ["one", "other", "left", "right"], f_7⟩, ⟨dd 9 "over", ["one", "other"], f_8⟩, ⟨dd 11 "_law_hash", ["seed", "index", "mixed"], f_9⟩, ⟨dd 12 "_law_random", ["generator", "bound", "drawn", "turn"], f_10⟩, ⟨dd 13 "_law_cell", ["script", "index"], f_11⟩, ⟨dd 14 "_law_generator", ["script", "index", "seed"], f_12⟩, ⟨dd 15 "_law_pick", ["generator", "told_ones"], f_13⟩, ⟨dd 16 "_law_same", ["told", "due", "at"], f_14⟩, ⟨dd 17 "_law_is_whole", ["value"], f_15⟩, ⟨dd 18 "_law_call", ["deed", "args"], f_16⟩, ⟨dd 19 "_law_judged", ["deed", "args", "values", "due", "value"], f_17⟩, ⟨dd 20 "_law_common", ["one", "other"], f_18⟩, ⟨dd 21 "_law_lowest", ["number", "bottom", "common"], f_19⟩, ⟨dd 22 "_law_is_fraction", ["value"], f_20⟩, ⟨dd 23 "_law_plus", ["one", "other"], f_21⟩, ⟨dd 24 "_law_minus", ["one", "other"], f_22⟩, ⟨dd 25 "_law_times", ["one", "other"], f_23⟩, ⟨dd 26 "_law_less", ["one", "other"], f_24⟩, ⟨dd 27 "_law_drawn_fraction", ["generator", "most"], f_25⟩, ⟨dd 28 "_law_pair_right", ["generator", "most", "one", "other", "due", "told", "sign", "number", "bottom"], f_26⟩, ⟨dd 29 "law", ["script", "index", "generator", "turn", "one", "other", "values"], f_27⟩]
def kb : List (Nat × Nat × List Str × List Nat) := [(4, 0, ["other", "one"], [1, 0]), (5, 0, ["other", "one"], [1, 0]), (6, 0, ["other", "one"], [1, 0]), (7, 0, ["other", "one"], [1, 0]), (8, 0, ["other", "one"], [1, 0]), (3, 0, ["bottom", "number"], [1, 0]), (2, 0, ["value"], [0])]
theorem cf_0 (k : Nat) (as : List D) : CF T (k + 1) 0 as = runF (CF T k) f_0 as := rfl
theorem cf_1 (k : Nat) (as : List D) : CF T (k + 1) 1 as = runF (CF T k) f_1 as := rfl
theorem cf_2 (k : Nat) (as : List D) : CF T (k + 1) 2 as = runF (CF T k) f_2 as := rfl
theorem cf_3 (k : Nat) (as : List D) : CF T (k + 1) 3 as = runF (CF T k) f_3 as := rfl
theorem cf_4 (k : Nat) (as : List D) : CF T (k + 1) 4 as = runF (CF T k) f_4 as := rfl
theorem cf_5 (k : Nat) (as : List D) : CF T (k + 1) 5 as = runF (CF T k) f_5 as := rfl
theorem cf_6 (k : Nat) (as : List D) : CF T (k + 1) 6 as = runF (CF T k) f_6 as := rfl
theorem cf_7 (k : Nat) (as : List D) : CF T (k + 1) 7 as = runF (CF T k) f_7 as := rfl
theorem cf_8 (k : Nat) (as : List D) : CF T (k + 1) 8 as = runF (CF T k) f_8 as := rfl
theorem cf_9 (k : Nat) (as : List D) : CF T (k + 1) 9 as = runF (CF T k) f_9 as := rfl
theorem cf_10 (k : Nat) (as : List D) : CF T (k + 1) 10 as = runF (CF T k) f_10 as := rfl
theorem cf_11 (k : Nat) (as : List D) : CF T (k + 1) 11 as = runF (CF T k) f_11 as := rfl
theorem cf_12 (k : Nat) (as : List D) : CF T (k + 1) 12 as = runF (CF T k) f_12 as := rfl
theorem cf_13 (k : Nat) (as : List D) : CF T (k + 1) 13 as = runF (CF T k) f_13 as := rfl
theorem cf_14 (k : Nat) (as : List D) : CF T (k + 1) 14 as = runF (CF T k) f_14 as := rfl
theorem cf_15 (k : Nat) (as : List D) : CF T (k + 1) 15 as = runF (CF T k) f_15 as := rfl
theorem cf_16 (k : Nat) (as : List D) : CF T (k + 1) 16 as = runF (CF T k) f_16 as := rfl
theorem cf_17 (k : Nat) (as : List D) : CF T (k + 1) 17 as = runF (CF T k) f_17 as := rfl
theorem cf_18 (k : Nat) (as : List D) : CF T (k + 1) 18 as = runF (CF T k) f_18 as := rfl
theorem cf_19 (k : Nat) (as : List D) : CF T (k + 1) 19 as = runF (CF T k) f_19 as := rfl
theorem cf_20 (k : Nat) (as : List D) : CF T (k + 1) 20 as = runF (CF T k) f_20 as := rfl
theorem cf_21 (k : Nat) (as : List D) : CF T (k + 1) 21 as = runF (CF T k) f_21 as := rfl
theorem cf_22 (k : Nat) (as : List D) : CF T (k + 1) 22 as = runF (CF T k) f_22 as := rfl
theorem cf_23 (k : Nat) (as : List D) : CF T (k + 1) 23 as = runF (CF T k) f_23 as := rfl
theorem cf_24 (k : Nat) (as : List D) : CF T (k + 1) 24 as = runF (CF T k) f_24 as := rfl
theorem cf_25 (k : Nat) (as : List D) : CF T (k + 1) 25 as = runF (CF T k) f_25 as := rfl
theorem cf_26 (k : Nat) (as : List D) : CF T (k + 1) 26 as = runF (CF T k) f_26 as := rfl
theorem cf_27 (k : Nat) (as : List D) : CF T (k + 1) 27 as = runF (CF T k) f_27 as := rfl
theorem hT : X.map (·.f) = T := rfl
theorem hs : X.all scopeC = true := by decide +kernel
theorem hd : X.all dC = true := by decide +kernel
theorem hb : X.all (bodyC T kb) = true := by decide +kernel
theorem hkb : KBs X kb := by
  unfold KBs kb
  simp only [List.forall_mem_cons]
  refine ⟨?_, ?_, ?_, ?_, ?_, ?_, ?_, fun q hq => absurd hq List.not_mem_nil⟩
  · intro x hx
    have e : x = X[4] := (Option.some.inj hx).symm
    subst e
    exact fun _ _ _ _ _ _ us ws h1 h2 => match us, ws, h1, h2 with | [], [b0, b1], _, _ => ⟨[b1, b0], rfl, rfl⟩
  · intro x hx
    have e : x = X[5] := (Option.some.inj hx).symm
    subst e
    exact fun _ _ _ _ _ _ us ws h1 h2 => match us, ws, h1, h2 with | [], [b0, b1], _, _ => ⟨[b1, b0], rfl, rfl⟩
  · intro x hx
    have e : x = X[6] := (Option.some.inj hx).symm
    subst e
    exact fun _ _ _ _ _ _ us ws h1 h2 => match us, ws, h1, h2 with | [], [b0, b1], _, _ => ⟨[b1, b0], rfl, rfl⟩
  · intro x hx
    have e : x = X[7] := (Option.some.inj hx).symm
    subst e
    exact fun _ _ _ _ _ _ us ws h1 h2 => match us, ws, h1, h2 with | [], [b0, b1], _, _ => ⟨[b1, b0], rfl, rfl⟩
  · intro x hx
    have e : x = X[8] := (Option.some.inj hx).symm
    subst e
    exact fun _ _ _ _ _ _ us ws h1 h2 => match us, ws, h1, h2 with | [], [b0, b1], _, _ => ⟨[b1, b0], rfl, rfl⟩
  · intro x hx
    have e : x = X[3] := (Option.some.inj hx).symm
    subst e
    exact fun _ _ _ _ _ _ us ws h1 h2 => match us, ws, h1, h2 with | [], [b0, b1], _, _ => ⟨[b1, b0], rfl, rfl⟩
  · intro x hx
    have e : x = X[2] := (Option.some.inj hx).symm
    subst e
    exact fun _ _ _ _ _ _ us ws h1 h2 => match us, ws, h1, h2 with | [], [b0], _, _ => ⟨[b0], rfl, rfl⟩
end LT
namespace LT
open PySem VI
theorem hash_at (k : Nat) {s i : Int} (hs : s.natAbs < 2 ^ 40) (hi : i.natAbs < 2 ^ 40) : CF T (k + 1) 9 [.int s, .int i] = .ret (.int (hashN s i)) [] := hash_ok (CF T k) hs hi
theorem rnd_at (k : Nat) : RndOk (CF T (k + 2)) 10 := fun m kk g bd hg h0 hb hk hm => random_ok (C := CF T (k + 1)) (h := 9) (fun s i hs hi => hash_at k hs hi) hg h0 hb hk hm
theorem gen_at (k : Nat) {i : Nat} {ns : List Int} (hl : ns.length ≤ sizeLine) (hi : i < 1000) : ∃ g, CF T (k + 2) 12 [.scr ns, .int i] = .ret g [] ∧ Gn (1000 * i) g := gen_ok (C := CF T (k + 1)) (c := 11) (cell_ok (CF T k) hl) hi
theorem pick_at (k : Nat) {m : Nat} {g : D} {ds : List D} (hg : Gn m g) (hm : m < 2 ^ 38) (h0 : ds ≠ []) (hl : ds.length < 2 ^ 40) : ∃ d g', CF T (k + 3) 13 [g, .lst ds] = .ret d [g'] ∧ d ∈ ds ∧ Gn (m + 101) g' := pick_ok (rnd_at k) hg hm h0 hl
theorem same_at : ∀ (n k : Nat) (d : D), Deep n d → CF T (k + n + 1) 14 [d, d] = .ret (.bl true) []
  | 0, k, d, h => same_ok h fun m e q => by omega
  | n + 1, k, d, h => same_ok (C := CF T (k + n + 1)) h fun m e q he => by
    obtain rfl : n = m := by omega
    exact same_at n k e he
/-! ### greatest common divisors -/
theorem com_loop (C : CT) : ∀ (n a b : Nat), b ≤ n → whD (evb C c_1_0) (exs C w_1_1) [some (.int a), some (.int b)] = .next [some (.int (Nat.gcd a b)), some (.int 0)] := by
  intro n
  induction n with
  | zero =>
    intro a b hb
    obtain rfl : b = 0 := by omega
    have e : evb C c_1_0 [some (.int a), some (.int (0 : Nat))] = .ok false [some (.int a), some (.int (0 : Nat))] := by simp [c_1_0, evb, ev, getE, cmpD, eq_int, truD]
    rw [whD_eq, e]
    simp
  | succ n ih =>
    intro a b hb
    by_cases h0 : b = 0
    · subst h0
      have e : evb C c_1_0 [some (.int a), some (.int (0 : Nat))] = .ok false [some (.int a), some (.int (0 : Nat))] := by simp [c_1_0, evb, ev, getE, cmpD, eq_int, truD]
      rw [whD_eq, e]
      simp
    · have hb0 : ((b : Nat) : Int) ≠ 0 := by omega
      have e : evb C c_1_0 [some (.int a), some (.int b)] = .ok true [some (.int a), some (.int b)] := by simp [c_1_0, evb, ev, getE, cmpD, eq_int, truD, h0]
      have e2 : exs C w_1_1 [some (.int a), some (.int b)] = .next [some (.int b), some (.int ((a % b : Nat) : Int))] := by
        have q : (a : Int).fmod b = ((a % b : Nat) : Int) := by rw [Int.fmod_eq_emod_of_nonneg _ (by omega)]; rfl
        simp [w_1_1, exs, ex, ev, getE, binD, mod_int hb0, q]
      rw [whD_eq, e]
      simp only [e2]
      have hlt := Nat.mod_lt a (Nat.pos_of_ne_zero h0)
      rw [ih b (a % b) (by omega)]
      have : Nat.gcd b (a % b) = Nat.gcd a b := by rw [Nat.gcd_comm, ← Nat.gcd_rec, Nat.gcd_comm]
      rw [this]
theorem abs_int (i : Int) : biD .abs [.int i] = some (.int i.natAbs) := by
  show some (D.int (if i < 0 then -i else i)) = _
  congr 2
  omega
theorem common_at (k : Nat) (a b : Int) : CF T (k + 1) 1 [.int a, .int b] = .ret (.int (Int.gcd a b)) [] := by
  rw [cf_1]
  have h := com_loop (CF T k) b.natAbs a.natAbs b.natAbs (Nat.le_refl _)
  simp [runF, f_1, exs, ex, ev, evs, getE, abs_int, h, outsOf, Int.gcd]
theorem lcom_loop (C : CT) (m : Nat) (hm : m ≤ 3000) : ∀ (n : Nat) (a b : Int), b.natAbs ≤ n → a.natAbs < 2 ^ m → b.natAbs < 2 ^ m → ∃ g : Int, whD (evb C c_18_0) (exs C w_18_1) [some (.int a), some (.int b)] = .next [some (.int g), some (.int 0)] ∧ g.natAbs = Int.gcd a b := by
  have stop : ∀ a : Int, whD (evb C c_18_0) (exs C w_18_1) [some (.int a), some (.int 0)] = .next [some (.int a), some (.int 0)] := fun a => by
    have e : evb C c_18_0 [some (.int a), some (.int 0)] = .ok false [some (.int a), some (.int 0)] := by simp [c_18_0, evb, ev, getE, cmpD, eq_int, truD]
    rw [whD_eq, e]
  intro n
  induction n with
  | zero =>
    intro a b hb _ _
    obtain rfl : b = 0 := by omega
    exact ⟨a, stop a, by simp⟩
  | succ n ih =>
    intro a b hb ha hb2
    by_cases h0 : b = 0
    · subst h0
      exact ⟨a, stop a, by simp⟩
    · have e : evb C c_18_0 [some (.int a), some (.int b)] = .ok true [some (.int a), some (.int b)] := by simp [c_18_0, evb, ev, getE, cmpD, eq_int, truD, h0]
      have q1 : fdivD (.int a) (.int b) = some (.int (a.fdiv b)) := fdiv_int m h0 hb2 (by omega)
      have q2 : (a.fdiv b).natAbs ≤ a.natAbs := Int.natAbs_fdiv_le_natAbs a b
      have q3 : mulD (.int b) (.int (a.fdiv b)) = some (.int (b * a.fdiv b)) := mul_int m m hb2 (by omega) (by omega)
      have q4 : a - b * a.fdiv b = a.fmod b := (Int.fmod_def a b).symm
      have q5 : (a.fmod b).natAbs < b.natAbs := by
        rcases Int.lt_or_gt_of_ne h0 with h | h
        · have z := fmod_range (i := -a) (j := -b) (by omega)
          rw [Int.neg_fmod_neg] at z
          omega
        · have z := fmod_range (i := a) (j := b) h
          omega
      have e2 : exs C w_18_1 [some (.int a), some (.int b)] = .next [some (.int b), some (.int (a.fmod b))] := by
        simp [w_18_1, exs, ex, ev, getE, binD, q1, q3, sub_int, q4]
      obtain ⟨g, h1, h2⟩ := ih b (a.fmod b) (by omega) hb2 (by omega)
      refine ⟨g, ?_, ?_⟩
      · rw [whD_eq, e]
        simp only [e2]
        exact h1
      · rw [h2, Int.gcd_comm, ← q4, Int.gcd_sub_mul_left_left]
theorem lcommon_at (k : Nat) {a b : Int} (ha : a.natAbs < 2 ^ 3000) (hb : b.natAbs < 2 ^ 3000) : CF T (k + 1) 18 [.int a, .int b] = .ret (.int (Int.gcd a b)) [] := by
  rw [cf_18]
  obtain ⟨g, h1, h2⟩ := lcom_loop (CF T k) 3000 (by decide) b.natAbs a b (Nat.le_refl _) ha hb
  simp [-Nat.reducePow, runF, f_18, exs, ex, ev, evs, getE, abs_int, h1, outsOf, h2]
end LT
namespace LT
open PySem VI
def lowC (n b : Int) : Int := if b < 0 then -(Int.gcd n b : Int) else Int.gcd n b
def lowD (n b : Int) : D := .tup [.int (n.fdiv (lowC n b)), .int (b.fdiv (lowC n b))]
theorem lowC_ne {n b : Int} (h : b ≠ 0) : lowC n b ≠ 0 := by
  have := Int.gcd_pos_of_ne_zero_right n h
  unfold lowC
  split <;> omega
theorem lowC_abs {n b : Int} (h : b ≠ 0) : (lowC n b).natAbs ≤ b.natAbs := by
  have := Int.gcd_le_natAbs_right n h
  unfold lowC
  split <;> omega
theorem low_div {n b x : Int} (h : b ≠ 0) (hb : b.natAbs < 2 ^ 3000) : fdivD (.int x) (.int (lowC n b)) = some (.int (x.fdiv (lowC n b))) :=
  fdiv_int 3000 (lowC_ne h) (Nat.lt_of_le_of_lt (lowC_abs h) hb) (by decide)
theorem lowest_at (k : Nat) {n b : Int} (h : b ≠ 0) (hb : b.natAbs < 2 ^ 3000) : CF T (k + 2) 3 [.int n, .int b] = .ret (lowD n b) [] := by
  rw [cf_3]
  have d1 := low_div (n := n) (x := n) h hb
  have d2 := low_div (n := n) (x := b) h hb
  by_cases hneg : b < 0
  · have e : lowC n b = -(Int.gcd n b : Int) := if_pos hneg
    rw [e] at d1 d2
    simp [-Nat.reducePow, runF, f_3, exs, ex, ev, evs, evb, getE, callD, argsAt, outsAt, IEs.owns, common_at, bindT, cmpD, ltD, truD, negD, binD, hneg, d1, d2, outsOf, lowD, e, sz_le (n := 2) (by decide)]
  · have e : lowC n b = (Int.gcd n b : Int) := if_neg hneg
    rw [e] at d1 d2
    simp [-Nat.reducePow, runF, f_3, exs, ex, ev, evs, evb, getE, callD, argsAt, outsAt, IEs.owns, common_at, bindT, cmpD, ltD, truD, negD, binD, hneg, d1, d2, outsOf, lowD, e, sz_le (n := 2) (by decide)]
theorem llowest_at (k : Nat) {n b : Int} (h : b ≠ 0) (hn : n.natAbs < 2 ^ 3000) (hb : b.natAbs < 2 ^ 3000) : CF T (k + 2) 19 [.int n, .int b] = .ret (lowD n b) [] := by
  rw [cf_19]
  have d1 := low_div (n := n) (x := n) h hb
  have d2 := low_div (n := n) (x := b) h hb
  have c := lcommon_at k hn hb
  by_cases hneg : b < 0
  · have e : lowC n b = -(Int.gcd n b : Int) := if_pos hneg
    rw [e] at d1 d2
    simp [-Nat.reducePow, runF, f_19, exs, ex, ev, evs, evb, getE, callD, argsAt, outsAt, IEs.owns, c, bindT, cmpD, ltD, truD, subD, binD, hneg, d1, d2, outsOf, lowD, e, sz_le (n := 2) (by decide)]
  · have e : lowC n b = (Int.gcd n b : Int) := if_neg hneg
    rw [e] at d1 d2
    simp [-Nat.reducePow, runF, f_19, exs, ex, ev, evs, evb, getE, callD, argsAt, outsAt, IEs.owns, c, bindT, cmpD, ltD, truD, subD, binD, hneg, d1, d2, outsOf, lowD, e, sz_le (n := 2) (by decide)]
/-- a fraction, of tame size -/
structure Fr (d : D) (p q : Int) : Prop where
  eq : d = .tup [.int p, .int q]
  q0 : 0 < q
  sp : p.natAbs < 2 ^ 200
  sq : q.natAbs < 2 ^ 200
theorem small {a b : Int} (ha : a.natAbs < 2 ^ 200) (hb : b.natAbs < 2 ^ 200) : mulD (.int a) (.int b) = some (.int (a * b)) ∧ (a * b).natAbs < 2 ^ 400 := by
  refine ⟨mul_int 200 200 ha hb (by decide), ?_⟩
  rw [Int.natAbs_mul]
  have : (2 : Nat) ^ 400 = 2 ^ 200 * 2 ^ 200 := by rw [← Nat.pow_add]
  rw [this]
  exact Nat.mul_lt_mul'' ha hb
theorem big {a : Nat} (h : a < 2 ^ 401) : a < 2 ^ 3000 := Nat.lt_of_lt_of_le h (Nat.pow_le_pow_right (by decide) (by decide))
theorem add_big {a b : Int} (ha : a.natAbs < 2 ^ 400) (hb : b.natAbs < 2 ^ 400) : (a + b).natAbs < 2 ^ 3000 ∧ (a - b).natAbs < 2 ^ 3000 := by
  have e : (2 : Nat) ^ 401 = 2 ^ 400 * 2 := Nat.pow_succ (n := 2) (m := 400)
  constructor <;> refine big ?_ <;> rw [e] <;> omega
theorem big4 {a : Nat} (h : a < 2 ^ 400) : a < 2 ^ 3000 := Nat.lt_of_lt_of_le h (Nat.pow_le_pow_right (by decide) (by decide))
theorem at2 (a b : D) : L2.atI [a, b] 0 = some a ∧ L2.atI [a, b] 1 = some b := ⟨rfl, rfl⟩
section
variable {one other : D} {p q r s : Int}
theorem plus_at (k : Nat) (h1 : Fr one p q) (h2 : Fr other r s) : CF T (k + 3) 4 [one, other] = .ret (lowD (p * s + r * q) (q * s)) [] ∧ CF T (k + 3) 21 [one, other] = .ret (lowD (p * s + r * q) (q * s)) [] := by
  obtain ⟨rfl, hq, sp, sq⟩ := h1
  obtain ⟨rfl, hs, sr, ss⟩ := h2
  obtain ⟨m1, b1⟩ := small sp ss
  obtain ⟨m2, b2⟩ := small sr sq
  obtain ⟨m3, b3⟩ := small sq ss
  have hne : q * s ≠ 0 := Int.ne_of_gt (Int.mul_pos hq hs)
  have l1 := lowest_at (k := k) (n := p * s + r * q) hne (big4 b3)
  have l2 := llowest_at (k := k) (n := p * s + r * q) hne (add_big b1 b2).1 (big4 b3)
  constructor
  · rw [cf_4]
    simp [-Nat.reducePow, runF, f_4, exs, ex, ev, evs, getE, callD, argsAt, outsAt, IEs.owns, idxD, at2, binD, addD, m1, m2, m3, l1, outsOf]
  · rw [cf_21]
    simp [-Nat.reducePow, runF, f_21, exs, ex, ev, evs, getE, callD, argsAt, outsAt, IEs.owns, idxD, at2, binD, addD, m1, m2, m3, l2, outsOf]
theorem minus_at (k : Nat) (h1 : Fr one p q) (h2 : Fr other r s) : CF T (k + 3) 5 [one, other] = .ret (lowD (p * s - r * q) (q * s)) [] ∧ CF T (k + 3) 22 [one, other] = .ret (lowD (p * s - r * q) (q * s)) [] := by
  obtain ⟨rfl, hq, sp, sq⟩ := h1
  obtain ⟨rfl, hs, sr, ss⟩ := h2
  obtain ⟨m1, b1⟩ := small sp ss
  obtain ⟨m2, b2⟩ := small sr sq
  obtain ⟨m3, b3⟩ := small sq ss
  have hne : q * s ≠ 0 := Int.ne_of_gt (Int.mul_pos hq hs)
  have l1 := lowest_at (k := k) (n := p * s - r * q) hne (big4 b3)
  have l2 := llowest_at (k := k) (n := p * s - r * q) hne (add_big b1 b2).2 (big4 b3)
  constructor
  · rw [cf_5]
    simp [-Nat.reducePow, runF, f_5, exs, ex, ev, evs, getE, callD, argsAt, outsAt, IEs.owns, idxD, at2, binD, subD, m1, m2, m3, l1, outsOf]
  · rw [cf_22]
    simp [-Nat.reducePow, runF, f_22, exs, ex, ev, evs, getE, callD, argsAt, outsAt, IEs.owns, idxD, at2, binD, subD, m1, m2, m3, l2, outsOf]
theorem times_at (k : Nat) (h1 : Fr one p q) (h2 : Fr other r s) : CF T (k + 3) 6 [one, other] = .ret (lowD (p * r) (q * s)) [] ∧ CF T (k + 3) 23 [one, other] = .ret (lowD (p * r) (q * s)) [] := by
  obtain ⟨rfl, hq, sp, sq⟩ := h1
  obtain ⟨rfl, hs, sr, ss⟩ := h2
  obtain ⟨m1, b1⟩ := small sp sr
  obtain ⟨m3, b3⟩ := small sq ss
  have hne : q * s ≠ 0 := Int.ne_of_gt (Int.mul_pos hq hs)
  have l1 := lowest_at (k := k) (n := p * r) hne (big4 b3)
  have l2 := llowest_at (k := k) (n := p * r) hne (big4 b1) (big4 b3)
  constructor
  · rw [cf_6]
    simp [-Nat.reducePow, runF, f_6, exs, ex, ev, evs, getE, callD, argsAt, outsAt, IEs.owns, idxD, at2, binD, m1, m3, l1, outsOf]
  · rw [cf_23]
    simp [-Nat.reducePow, runF, f_23, exs, ex, ev, evs, getE, callD, argsAt, outsAt, IEs.owns, idxD, at2, binD, m1, m3, l2, outsOf]
theorem over_at (k : Nat) (h1 : Fr one p q) (h2 : Fr other r s) (hr : r ≠ 0) : CF T (k + 3) 8 [one, other] = .ret (lowD (p * s) (q * r)) [] ∧ (q * r ≠ 0 ∧ (p * s).natAbs < 2 ^ 3000 ∧ (q * r).natAbs < 2 ^ 3000) := by
  obtain ⟨rfl, hq, sp, sq⟩ := h1
  obtain ⟨rfl, hs, sr, ss⟩ := h2
  obtain ⟨m1, b1⟩ := small sp ss
  obtain ⟨m3, b3⟩ := small sq sr
  have hne : q * r ≠ 0 := Int.mul_ne_zero (by omega) hr
  have l1 := lowest_at (k := k) (n := p * s) hne (big4 b3)
  refine ⟨?_, hne, big4 b1, big4 b3⟩
  rw [cf_8]
  simp [-Nat.reducePow, runF, f_8, exs, ex, ev, evs, getE, callD, argsAt, outsAt, IEs.owns, idxD, at2, binD, m1, m3, l1, outsOf]
def cmpF (p q r s : Int) : Int := if p * s = r * q then 0 else if p * s < r * q then -1 else 1
theorem compared_at (k : Nat) (h1 : Fr one p q) (h2 : Fr other r s) : CF T (k + 1) 7 [one, other] = .ret (.int (cmpF p q r s)) [] := by
  obtain ⟨rfl, hq, sp, sq⟩ := h1
  obtain ⟨rfl, hs, sr, ss⟩ := h2
  obtain ⟨m1, b1⟩ := small sp ss
  obtain ⟨m2, b2⟩ := small sr sq
  rw [cf_7]
  unfold cmpF
  by_cases c1 : p * s = r * q
  · simp [-Nat.reducePow, runF, f_7, exs, ex, ev, evs, evb, getE, idxD, at2, binD, m1, m2, outsOf, bindT, cmpD, VI.eq_int, truD, c1]
  · have c1' : (p * s == r * q) = false := beq_false_of_ne c1
    by_cases c2 : p * s < r * q
    · simp [-Nat.reducePow, runF, f_7, exs, ex, ev, evs, evb, getE, idxD, at2, binD, m1, m2, outsOf, bindT, cmpD, VI.eq_int, truD, c1, c1', c2, ltD, negD]
    · simp [-Nat.reducePow, runF, f_7, exs, ex, ev, evs, evb, getE, idxD, at2, binD, m1, m2, outsOf, bindT, cmpD, VI.eq_int, truD, c1, c1', c2, ltD, negD]
theorem less_at (k : Nat) (h1 : Fr one p q) (h2 : Fr other r s) : CF T (k + 1) 24 [one, other] = .ret (.bl (decide (p * s < r * q))) [] := by
  obtain ⟨rfl, hq, sp, sq⟩ := h1
  obtain ⟨rfl, hs, sr, ss⟩ := h2
  obtain ⟨m1, b1⟩ := small sp ss
  obtain ⟨m2, b2⟩ := small sr sq
  rw [cf_24]
  simp [-Nat.reducePow, runF, f_24, exs, ex, ev, evs, getE, idxD, at2, binD, m1, m2, outsOf, cmpD, ltD]
end
end LT
namespace LT
open PySem VI
theorem low_pos {n b : Int} (hb : 0 < b) (hn : n.natAbs < 2 ^ 200) (hb2 : b.natAbs < 2 ^ 200) : ∃ p q, lowD n b = .tup [.int p, .int q] ∧ Fr (lowD n b) p q ∧ Int.gcd p q = 1 := by
  have hg : 0 < Int.gcd n b := Int.gcd_pos_of_ne_zero_right n (by omega)
  have e : lowC n b = (Int.gcd n b : Int) := if_neg (by omega)
  have e2 : lowD n b = .tup [.int (n / (Int.gcd n b : Int)), .int (b / (Int.gcd n b : Int))] := by
    unfold lowD
    rw [e, Int.fdiv_eq_ediv_of_nonneg _ (by omega), Int.fdiv_eq_ediv_of_nonneg _ (by omega)]
  refine ⟨_, _, e2, ⟨e2, ?_, ?_, ?_⟩, Int.gcd_ediv_gcd_ediv_gcd hg⟩
  · exact Int.ediv_pos_of_pos_of_dvd hb (by omega) (Int.gcd_dvd_right n b)
  · exact Nat.lt_of_le_of_lt (Int.natAbs_ediv_le_natAbs _ _) hn
  · exact Nat.lt_of_le_of_lt (Int.natAbs_ediv_le_natAbs _ _) hb2
theorem canon {p q r s : Int} (hq : 0 < q) (hs : 0 < s) (h1 : Int.gcd p q = 1) (h2 : Int.gcd r s = 1) (h : p * s = r * q) : p = r ∧ q = s := by
  have a1 : q ∣ s := by
    have e := Int.gcd_mul_right_right_of_gcd_eq_one (n := q) (m := p) (k := s) (by rw [Int.gcd_comm]; exact h1)
    rw [h, Int.gcd_mul_left_right] at e
    exact Int.gcd_eq_natAbs_left_iff_dvd.mp e.symm
  have a2 : s ∣ q := by
    have e := Int.gcd_mul_right_right_of_gcd_eq_one (n := s) (m := r) (k := q) (by rw [Int.gcd_comm]; exact h2)
    rw [← h, Int.gcd_mul_left_right] at e
    exact Int.gcd_eq_natAbs_left_iff_dvd.mp e.symm
  have e1 : q = s := Int.le_antisymm (Int.le_of_dvd hs a1) (Int.le_of_dvd hq a2)
  subst e1
  exact ⟨Int.eq_of_mul_eq_mul_right (by omega) h, rfl⟩
theorem drawn_at (k : Nat) {m : Nat} {g : D} {M : Int} (hg : Gn m g) (hm : m < 2 ^ 30) (h0 : 0 ≤ M) (hM : M < 2 ^ 140) : ∃ d p q g', CF T (k + 4) 25 [g, .int M] = .ret d [g'] ∧ Fr d p q ∧ Int.gcd p q = 1 ∧ Gn (m + 1000) g' := by
  have m1 : mulD (.int 2) (.int M) = some (.int (2 * M)) := mul_int 2 140 (by decide) (by omega) (by decide)
  obtain ⟨x1, g1, a1, a2, a3, a4⟩ := rnd_at (k + 1) m 142 g (2 * M + 1) hg (by omega) (by omega) (by decide) (by omega)
  obtain ⟨d, g2, b1, b2, b3⟩ := pick_at k (ds := [.int 1, .int 1, .int 3, .int 12]) a4 (by omega) (by simp) (by decide)
  obtain ⟨z, hz, hz1, hz2⟩ : ∃ z : Int, d = .int z ∧ 1 ≤ z ∧ z ≤ 12 := by
    simp only [List.mem_cons, List.not_mem_nil, or_false] at b2
    rcases b2 with rfl | rfl | rfl | rfl <;> exact ⟨_, rfl, by decide, by decide⟩
  subst hz
  obtain ⟨x2, g3, c1, c2, c3, c4⟩ := rnd_at (k + 1) _ 10 g2 z b3 (by omega) (by omega) (by decide) (by omega)
  have hl := llowest_at (k := k + 1) (n := x1 - M) (b := 1 + x2) (by omega) (by omega) (by omega)
  obtain ⟨p, q, e1, e2, e3⟩ := low_pos (n := x1 - M) (b := 1 + x2) (by omega) (by omega) (by omega)
  refine ⟨_, p, q, g3, ?_, e2, e3, ?_⟩
  · rw [cf_25]
    simp only [Nat.add_assoc, Nat.reduceAdd] at a1 b1 c1 hl
    simp [-Nat.reducePow, runF, f_25, exs, ex, ev, evs, getE, callD, argsAt, outsAt, IEs.owns, binD, m1, add_int, sub_int, a1, b1, c1, hl, outsOf, sz_le (n := 4) (by decide)]
  · obtain ⟨a, b, c, r1, r2, r3, r4, r5, r6⟩ := c4
    exact ⟨a, b, c, r1, r2, r3, r4, r5, by omega⟩
theorem cmp_swap (p q r s : Int) : cmpF r s p q = 0 - cmpF p q r s := by
  unfold cmpF
  split <;> split <;> try split
  all_goals first | omega | (split <;> omega)
end LT
namespace LT
open PySem VI
def isW : D → Bool
  | .int _ => true
  | _ => false
/-- what a value of the judged list may be -/
inductive Ok1 : D → Prop where
  | int (i : Int) : Ok1 (.int i)
  | bl (b : Bool) : Ok1 (.bl b)
  | non : Ok1 .non
  | str (s : Str) : Ok1 (.str s)
theorem whole_at (k : Nat) {d : D} (h : Ok1 d) : CF T (k + 1) 0 [d] = .ret (.bl (isW d)) [] ∧ CF T (k + 1) 15 [d] = .ret (.bl (isW d)) [] := by
  rw [cf_0, cf_15]
  cases h with
  | int i => constructor <;> simp [runF, f_0, f_15, exs, ex, ev, evs, getE, biD, isiD, kt1, kt2, truD, outsOf, isW]
  | bl b => constructor <;> simp [runF, f_0, f_15, exs, ex, ev, evs, getE, biD, isiD, kt6, kt7, truD, outsOf, isW]
  | non => constructor <;> simp [runF, f_0, f_15, exs, ex, ev, evs, getE, biD, isiD, kt26, kt27, truD, outsOf, isW]
  | str s => constructor <;> simp [runF, f_0, f_15, exs, ex, ev, evs, getE, biD, isiD, kt21, kt22, truD, outsOf, isW]
/-- both defs answer alike -/
def Both (k : Nat) (d : D) : Prop := ∃ b, CF T (k + 2) 2 [d] = .ret (.bl b) [] ∧ CF T (k + 3) 20 [d] = .ret (.bl b) []
theorem both_not (k : Nat) {d : D} (h : isiD d "tuple" = some false) : Both k d := by
  refine ⟨false, ?_, ?_⟩
  · rw [cf_2]; simp [runF, f_2, exs, ex, ev, evs, evb, getE, biD, h, truD, outsOf]
  · rw [cf_20]; simp [runF, f_20, exs, ex, ev, evs, evb, getE, biD, h, truD, outsOf]
theorem both_len (k : Nat) {ds : List D} (h : ds.length ≠ 2) : Both k (.tup ds) := by
  have e1 : isiD (.tup ds) "tuple" = some true := kt19
  have e2 : eqD (.int ds.length) (.int 2) = some false := by
    rw [VI.eq_int]
    simp
    omega
  refine ⟨false, ?_, ?_⟩
  · rw [cf_2]; simp [runF, f_2, exs, ex, ev, evs, evb, getE, biD, e1, e2, truD, outsOf, lenD, cmpD]
  · rw [cf_20]; simp [runF, f_20, exs, ex, ev, evs, evb, getE, biD, e1, e2, truD, outsOf, lenD, cmpD]
theorem both_first (k : Nat) {x y : D} (hx : Ok1 x) (h : isW x = false) : Both k (.tup [x, y]) := by
  have e1 : isiD (.tup [x, y]) "tuple" = some true := kt19
  have e2 : eqD (.int 2) (.int 2) = some true := by rw [VI.eq_int]; rfl
  have w1 := (whole_at k hx).1
  have w2 := (whole_at (k + 1) hx).2
  rw [h] at w1 w2
  refine ⟨false, ?_, ?_⟩
  · rw [cf_2]; simp [runF, f_2, exs, ex, ev, evs, evb, getE, biD, e1, e2, truD, outsOf, lenD, cmpD, idxD, at2, callD, argsAt, outsAt, IEs.owns, w1]
  · rw [cf_20]; simp [runF, f_20, exs, ex, ev, evs, evb, getE, biD, e1, e2, truD, outsOf, lenD, cmpD, idxD, at2, callD, argsAt, outsAt, IEs.owns, w2]
theorem both_second (k : Nat) {i : Int} {y : D} (hy : Ok1 y) (h : isW y = false) : Both k (.tup [.int i, y]) := by
  have e1 : isiD (.tup [.int i, y]) "tuple" = some true := kt19
  have e2 : eqD (.int 2) (.int 2) = some true := by rw [VI.eq_int]; rfl
  have w1 := (whole_at k hy).1
  have w2 := (whole_at (k + 1) hy).2
  have v1 := (whole_at k (Ok1.int i)).1
  have v2 := (whole_at (k + 1) (Ok1.int i)).2
  rw [h] at w1 w2
  have hi : isW (.int i) = true := rfl
  rw [hi] at v1 v2
  refine ⟨false, ?_, ?_⟩
  · rw [cf_2]; simp [runF, f_2, exs, ex, ev, evs, evb, getE, biD, e1, e2, truD, outsOf, lenD, cmpD, idxD, at2, callD, argsAt, outsAt, IEs.owns, w1, v1]
  · rw [cf_20]; simp [runF, f_20, exs, ex, ev, evs, evb, getE, biD, e1, e2, truD, outsOf, lenD, cmpD, idxD, at2, callD, argsAt, outsAt, IEs.owns, w2, v2]
theorem both_ints (k : Nat) {i j : Int} (hi : i.natAbs < 2 ^ 200) (hj : j.natAbs < 2 ^ 200) : CF T (k + 2) 2 [.tup [.int i, .int j]] = .ret (.bl (decide (1 ≤ j) && decide (Int.gcd i j = 1))) [] ∧ CF T (k + 2) 20 [.tup [.int i, .int j]] = .ret (.bl (decide (1 ≤ j) && decide (Int.gcd i j = 1))) [] := by
  have e1 : isiD (.tup [.int i, .int j]) "tuple" = some true := kt19
  have e2 : eqD (.int 2) (.int 2) = some true := by rw [VI.eq_int]; rfl
  obtain ⟨v1, v2⟩ := whole_at k (Ok1.int i)
  obtain ⟨w1, w2⟩ := whole_at k (Ok1.int j)
  have h1 : isW (.int i) = true := rfl
  have h2 : isW (.int j) = true := rfl
  rw [h1] at v1 v2
  rw [h2] at w1 w2
  have c1 := common_at k i j
  have c2 := lcommon_at k (a := i) (b := j) (Nat.lt_of_lt_of_le hi (Nat.pow_le_pow_right (by decide) (by decide))) (Nat.lt_of_lt_of_le hj (Nat.pow_le_pow_right (by decide) (by decide)))
  have e3 : eqD (.int (Int.gcd i j : Int)) (.int 1) = some (decide (Int.gcd i j = 1)) := by
    rw [VI.eq_int]
    congr 1
    by_cases h : Int.gcd i j = 1
    · simp [h]
    · simp [h]
      omega
  by_cases hj0 : 1 ≤ j
  · have hj1 : 0 < j := by omega
    constructor
    · rw [cf_2]; simp [runF, f_2, exs, ex, ev, evs, evb, getE, biD, e1, e2, truD, outsOf, lenD, cmpD, idxD, at2, callD, argsAt, outsAt, IEs.owns, w1, v1, hj0, c1, e3]
    · rw [cf_20]; simp [runF, f_20, exs, ex, ev, evs, evb, getE, biD, e1, e2, truD, outsOf, lenD, cmpD, idxD, at2, callD, argsAt, outsAt, IEs.owns, w2, v2, hj0, hj1, c2, e3]
  · have hj1 : ¬ 0 < j := by omega
    constructor
    · rw [cf_2]; simp [runF, f_2, exs, ex, ev, evs, evb, getE, biD, e1, e2, truD, outsOf, lenD, cmpD, idxD, at2, callD, argsAt, outsAt, IEs.owns, w1, v1, hj0]
    · rw [cf_20]; simp [runF, f_20, exs, ex, ev, evs, evb, getE, biD, e1, e2, truD, outsOf, lenD, cmpD, idxD, at2, callD, argsAt, outsAt, IEs.owns, w2, v2, hj0, hj1]
theorem call_at (k : Nat) (v : D) : CF T (k + 1) 16 [.fn 2, .lst [v]] = CF T k 2 [v] ∨ ∀ b, CF T k 2 [v] ≠ .ret (.bl b) [] := by
  by_cases h : ∃ b, CF T k 2 [v] = .ret (.bl b) []
  · left
    obtain ⟨b, h⟩ := h
    have e2 : eqD (.int 1) (.int 1) = some true := by rw [VI.eq_int]; rfl
    have a0 : L2.atI [v] 0 = some v := rfl
    rw [cf_16, h]
    simp [runF, f_16, exs, ex, ev, evs, evb, getE, biD, lenD, cmpD, e2, truD, idxD, a0, callD, argsAt, outsAt, IEs.owns, h, outsOf]
  · right
    exact fun b q => h ⟨b, q⟩
theorem both_two (k : Nat) {i j : Int} (hi : i.natAbs < 2 ^ 200) (hj : j.natAbs < 2 ^ 200) : Both k (.tup [.int i, .int j]) := ⟨_, (both_ints k hi hj).1, (both_ints (k + 1) hi hj).2⟩
theorem turn_at (k : Nat) {x : D} {t v : D} (h : Both k v) : exs (CF T (k + 3)) w_17_0 [some (.fn 2), some (.lst []), some x, some (.fn 20), some v] = .next [some (.fn 2), some (.lst []), some x, some (.fn 20), some v] := by
  obtain ⟨b, h1, h2⟩ := h
  have c : CF T (k + 3) 16 [.fn 2, .lst [v]] = .ret (.bl b) [] := by
    rcases call_at (k + 2) v with q | q
    · rw [q, h1]
    · exact absurd h1 (q b)
  have s := same_at 0 (k + 2) (.bl b) (Deep.bl 0 b)
  simp only [Nat.add_zero, Nat.add_assoc, Nat.reduceAdd] at s
  have a1 : addD (.lst []) (.lst [v]) = some (.lst [v]) := by simp [addD, sz_le (n := 1) (by decide)]
  simp [w_17_0, exs, ex, ev, evs, evb, getE, binD, callD, argsAt, outsAt, IEs.owns, c, h2, s, truD, a1, sz_le (n := 1) (by decide)]
theorem judged_at (k : Nat) {vs : List D} (h : ∀ v ∈ vs, Both k v) : CF T (k + 4) 17 [.fn 2, .lst [], .lst vs, .fn 20] = .ret (.bl true) [] := by
  have step : ∀ (us : List D) (t : Option D), (∀ v ∈ us, Both k v) → ∃ t', forD (.nm 4) (exs (CF T (k + 3)) w_17_0) us [some (.fn 2), some (.lst []), some (.lst vs), some (.fn 20), t] = .next [some (.fn 2), some (.lst []), some (.lst vs), some (.fn 20), t'] := by
    intro us
    induction us with
    | nil => exact fun t _ => ⟨t, rfl⟩
    | cons v us ih =>
      intro t hv
      obtain ⟨t', e⟩ := ih (some v) fun u hu => hv u (List.mem_cons_of_mem _ hu)
      refine ⟨t', ?_⟩
      have q := turn_at k (x := .lst vs) (t := v) (hv v (List.mem_cons_self ..))
      unfold forD
      simp only [bindT, List.length_cons, List.length_nil]
      show (match exs (CF T (k + 3)) w_17_0 [some (.fn 2), some (.lst []), some (.lst vs), some (.fn 20), some v] with
        | .next env2 => forD (.nm 4) (exs (CF T (k + 3)) w_17_0) us env2
        | .cnt env2 => forD (.nm 4) (exs (CF T (k + 3)) w_17_0) us env2
        | .brk env2 => .next env2
        | r => r) = _
      rw [q]
      exact e
  obtain ⟨t', e⟩ := step vs none h
  rw [cf_17]
  simp [runF, f_17, exs, ex, ev, evi, getE, itemsD, e, outsOf]
end LT
namespace LT
open PySem VI
theorem exs_next {C : CT} {s : IS} {ss : ISs} {env env1 : VI.Env} (h : ex C s env = .next env1) : exs C (.cons s ss) env = exs C ss env1 := by
  have q : exs C (.cons s ss) env = (match ex C s env with
    | .next env1 => exs C ss env1
    | r => r) := rfl
  rw [q, h]
theorem exs_ret {C : CT} {s : IS} {ss : ISs} {env env1 : VI.Env} {d : D} (h : ex C s env = .ret d env1) : exs C (.cons s ss) env = .ret d env1 := by
  have q : exs C (.cons s ss) env = (match ex C s env with
    | .next env1 => exs C ss env1
    | r => r) := rfl
  rw [q, h]
theorem pow_d : powD (.int 10) (.int 9) = some (.int (10 ^ 9)) := pow_int (by decide +kernel)
theorem pow_e : powD (.int 10) (.int 40) = some (.int (10 ^ 40)) := pow_int (by decide +kernel)
theorem pow_f : powD (.int 10) (.int 30) = some (.int (10 ^ 30)) := pow_int (by decide +kernel)
theorem deep_low (n b : Int) (j : Nat) : Deep (j + 1) (lowD n b) := Deep.tup j _ (fun d hd => by
  simp only [List.mem_cons, List.not_mem_nil, or_false] at hd
  rcases hd with rfl | rfl <;> exact Deep.int _ _) (sz_le (n := 2) (by decide))
section
variable {k m : Nat} {g M : D} {one other : D} {p q r s : Int}
theorem st0 {g : D} (hg : Gn m g) (hm : m < 2 ^ 30) : ∃ (M : Int) (g' : D), ex (CF T (k + 5)) s_26_0 [some g, none, none, none, none, none, none, none, none] = .next [some g', some (.int M), none, none, none, none, none, none, none] ∧ 3 ≤ M ∧ M < 2 ^ 140 ∧ Gn (m + 101) g' := by
  obtain ⟨d, g', h1, h2, h3⟩ := pick_at (k + 2) (ds := [.int 3, .int 40, .int (10 ^ 9), .int (10 ^ 40)]) hg (by omega) (by simp) (by decide)
  obtain ⟨z, hz, hz1, hz2⟩ : ∃ z : Int, d = .int z ∧ 3 ≤ z ∧ z < 2 ^ 140 := by
    simp only [List.mem_cons, List.not_mem_nil, or_false] at h2
    rcases h2 with rfl | rfl | rfl | rfl <;> exact ⟨_, rfl, by decide, by decide⟩
  subst hz
  refine ⟨z, g', ?_, hz1, hz2, h3⟩
  simp only [Nat.add_assoc, Nat.reduceAdd] at h1
  simp [-Int.reducePow, s_26_0, ex, ev, evs, getE, binD, pow_d, pow_e, callD, argsAt, outsAt, IEs.owns, h1, bindT, sz_le (n := 4) (by decide)]
theorem st1 {g : D} {M : Int} (hg : Gn m g) (hm : m < 2 ^ 29) (h0 : 0 ≤ M) (hM : M < 2 ^ 140) : ∃ (one other : D) (p q r s : Int) (g' : D), ex (CF T (k + 5)) s_26_1 [some g, some (.int M), none, none, none, none, none, none, none] = .next [some g', some (.int M), some one, some other, none, none, none, none, none] ∧ Fr one p q ∧ Int.gcd p q = 1 ∧ Fr other r s ∧ Int.gcd r s = 1 ∧ Gn (m + 2000) g' := by
  obtain ⟨d1, p, q, g1, a1, a2, a3, a4⟩ := drawn_at (k + 1) hg (by omega) h0 hM
  obtain ⟨d2, r, s, g2, b1, b2, b3, b4⟩ := drawn_at (k + 1) a4 (by omega) h0 hM
  refine ⟨d1, d2, p, q, r, s, g2, ?_, a2, a3, b2, b3, ?_⟩
  · simp only [Nat.add_assoc, Nat.reduceAdd] at a1 b1
    simp [s_26_1, ex, ev, evs, getE, callD, argsAt, outsAt, IEs.owns, a1, b1]
  · have e : m + 1000 + 1000 = m + 2000 := by omega
    rw [← e]; exact b4
theorem st2 (h1 : Fr one p q) (h2 : Fr other r s) : ex (CF T (k + 5)) s_26_2 [some g, some M, some one, some other, none, none, none, none, none] = .next [some g, some M, some one, some other, some (.lst [lowD (p * s + r * q) (q * s), lowD (p * s - r * q) (q * s), lowD (p * r) (q * s)]), none, none, none, none] := by
  have a := (plus_at (k + 2) h1 h2).2
  have b := (minus_at (k + 2) h1 h2).2
  have c := (times_at (k + 2) h1 h2).2
  simp only [Nat.add_assoc, Nat.reduceAdd] at a b c
  simp [s_26_2, ex, ev, evs, getE, callD, argsAt, outsAt, IEs.owns, a, b, c, bindT, sz_le (n := 3) (by decide)]
theorem st3 {due : D} (h1 : Fr one p q) (h2 : Fr other r s) : ex (CF T (k + 5)) s_26_3 [some g, some M, some one, some other, some due, none, none, none, none] = .next [some g, some M, some one, some other, some due, some (.lst [lowD (p * s + r * q) (q * s), lowD (p * s - r * q) (q * s), lowD (p * r) (q * s), lowD (p * s + r * q) (q * s), lowD (p * s - r * q) (q * s), lowD (p * r) (q * s)]), none, none, none] := by
  have a := (plus_at (k + 2) h1 h2).1
  have b := (minus_at (k + 2) h1 h2).1
  have c := (times_at (k + 2) h1 h2).1
  simp only [Nat.add_assoc, Nat.reduceAdd] at a b c
  simp [s_26_3, ex, ev, evs, getE, callD, argsAt, outsAt, IEs.owns, a, b, c, bindT, permL, sz_le (n := 6) (by decide)]
theorem eq_tup2 (p q r s : Int) : eqD (.tup [.int p, .int q]) (.tup [.int r, .int s]) = some (p == r && q == s) := by
  unfold eqD
  simp [toPy, toPys, SeqAt.shaped, PyData.canLay0, PyData.canLayAll0, PyData.depth, PyData.depthAll, PyData.eqv, PyData.eqvAll]
theorem st4 {due told : D} (h1 : Fr one p q) (h2 : Fr other r s) (g1 : Int.gcd p q = 1) (g2 : Int.gcd r s = 1) : ex (CF T (k + 5)) s_26_4 [some g, some M, some one, some other, some due, some told, none, none, none] = .next [some g, some M, some one, some other, some due, some told, some (.int (cmpF p q r s)), none, none] := by
  have a := less_at (k + 4) h1 h2
  simp only [Nat.add_assoc, Nat.reduceAdd] at a
  by_cases c1 : p * s < r * q
  · have e : cmpF p q r s = -1 := by unfold cmpF; rw [if_neg (by omega), if_pos c1]
    simp [s_26_4, ex, ev, evs, getE, callD, argsAt, outsAt, IEs.owns, a, bindT, c1, truD, e, binD, subD]
  · have e0 : eqD one other = some (decide (p * s = r * q)) := by
      rw [h1.eq, h2.eq, eq_tup2]
      congr 1
      by_cases c2 : p * s = r * q
      · obtain ⟨rfl, rfl⟩ := canon h1.q0 h2.q0 g1 g2 c2
        simp
      · simp only [c2, decide_false]
        by_cases c3 : p = r
        · subst c3
          have : q ≠ s := fun z => c2 (by rw [z])
          simp [this]
        · simp [c3]
    by_cases c2 : p * s = r * q
    · have e : cmpF p q r s = 0 := by unfold cmpF; rw [if_pos c2]
      simp [s_26_4, ex, ev, evs, getE, callD, argsAt, outsAt, IEs.owns, a, bindT, c1, c2, truD, e, cmpD, e0]
    · have e : cmpF p q r s = 1 := by unfold cmpF; rw [if_neg c2, if_neg c1]
      simp [s_26_4, ex, ev, evs, getE, callD, argsAt, outsAt, IEs.owns, a, bindT, c1, c2, truD, e, cmpD, e0]
theorem same2 (kk : Nat) {ds : List D} (h : ∀ d ∈ ds, Deep 1 d) (hl : ds.length ≤ 100000) : CF T (kk + 3) 14 [.lst ds, .lst ds] = .ret (.bl true) [] := by
  have e := same_at 2 kk (.lst ds) (Deep.lst 1 ds h (sz_le hl))
  exact e
theorem st5 {A B P : D} (h1 : Fr one p q) (h2 : Fr other r s) (hA : Deep 1 A) (hB : Deep 1 B) (hP : Deep 1 P) : ex (CF T (k + 5)) s_26_5 [some g, some M, some one, some other, some (.lst [A, B, P]), some (.lst [A, B, P, A, B, P]), some (.int (cmpF p q r s)), none, none] = .next [some g, some M, some one, some other, some (.lst [A, B, P]), some (.lst [A, B, P, A, B, P]), some (.int (cmpF p q r s)), none, none] := by
  have a := same2 (k + 2) (ds := [A, B, P, A, B, P]) (by simp; exact ⟨hA, hB, hP, hA, hB, hP⟩) (by simp)
  have b := same2 (k + 2) (ds := [.int (cmpF p q r s), .int (cmpF p q r s), .int (0 - cmpF p q r s)]) (by simp; exact ⟨Deep.int _ _, Deep.int _ _⟩) (by simp)
  have c := compared_at (k + 4) h1 h2
  have c' := compared_at (k + 4) h2 h1
  rw [cmp_swap] at c'
  simp only [Nat.add_assoc, Nat.reduceAdd] at a b c c'
  have e : addD (.lst [A, B, P]) (.lst [A, B, P]) = some (.lst [A, B, P, A, B, P]) := by simp [addD, sz_le (n := 6) (by decide)]
  simp only [Int.zero_sub] at b c'
  simp [s_26_5, exs, ex, ev, evs, evb, getE, callD, argsAt, outsAt, IEs.owns, a, b, c, c', e, binD, subD, truD, permL, sz_le (n := 3) (by decide)]
theorem st6 {due told sg : D} (h1 : Fr one p q) (h2 : Fr other r s) : ex (CF T (k + 5)) s_26_6 [some g, some M, some one, some other, some due, some told, some sg, none, none] = .next [some g, some M, some one, some other, some due, some told, some sg, none, none] := by
  have i0 : idxD other (.int 0) = some (.int r) := by rw [h2.eq]; rfl
  have i1 : idxD other (.int 1) = some (.int s) := by rw [h2.eq]; rfl
  have j0 : idxD one (.int 0) = some (.int p) := by rw [h1.eq]; rfl
  have j1 : idxD one (.int 1) = some (.int q) := by rw [h1.eq]; rfl
  by_cases hr : r = 0
  · subst hr
    simp [s_26_6, exs, ex, ev, evs, evb, getE, i0, cmpD, VI.eq_int, truD]
  · obtain ⟨a, b1, b2, b3⟩ := over_at (k + 2) h1 h2 hr
    have c := llowest_at (k := k + 3) b1 b2 b3
    obtain ⟨m1, _⟩ := small h1.sp h2.sq
    obtain ⟨m2, _⟩ := small h1.sq h2.sp
    have d := same2 (k + 2) (ds := [lowD (p * s) (q * r), lowD (p * s) (q * r)]) (by simp; exact deep_low _ _ 0) (by simp)
    simp only [Nat.add_assoc, Nat.reduceAdd] at a c d
    have e : mulD (.lst [lowD (p * s) (q * r)]) (.int 2) = some (.lst [lowD (p * s) (q * r), lowD (p * s) (q * r)]) := by
      simp [mulD, sz_le (n := 2) (by decide)]
    have f : (r == 0) = false := beq_false_of_ne hr
    simp [s_26_6, exs, ex, ev, evs, evb, getE, i0, i1, j0, j1, cmpD, VI.eq_int, truD, f, hr, a, c, d, e, m1, m2, binD, callD, argsAt, outsAt, IEs.owns, permL, sz_le (n := 2) (by decide), sz_le (n := 1) (by decide)]
theorem st7 {g : D} {M : Int} {due told sg : D} (hg : Gn m g) (hm : m < 2 ^ 30) (h0 : 3 ≤ M) (hM : M < 2 ^ 140) : ∃ (n b : Int) (g' : D), ex (CF T (k + 5)) s_26_7 [some g, some (.int M), some one, some other, some due, some told, some sg, none, none] = .next [some g', some (.int M), some one, some other, some due, some told, some sg, some (.int n), some (.int b)] ∧ b ≠ 0 ∧ n.natAbs < 2 ^ 200 ∧ b.natAbs < 2 ^ 200 ∧ Gn (m + 1000) g' := by
  have m1 : mulD (.int 2) (.int M) = some (.int (2 * M)) := mul_int 2 140 (by decide) (by omega) (by decide)
  obtain ⟨x1, g1, a1, a2, a3, a4⟩ := rnd_at (k + 3) m 142 g (2 * M + 1) hg (by omega) (by omega) (by decide) (by omega)
  obtain ⟨x2, g2, b1, b2, b3, b4⟩ := rnd_at (k + 3) _ 140 g1 M a4 (by omega) (by omega) (by decide) (by omega)
  refine ⟨x1 - M, 1 + x2, g2, ?_, by omega, by omega, by omega, ?_⟩
  · simp only [Nat.add_assoc, Nat.reduceAdd] at a1 b1
    simp [s_26_7, ex, ev, evs, getE, callD, argsAt, outsAt, IEs.owns, binD, m1, add_int, sub_int, a1, b1]
  · obtain ⟨a, b, c, r1, r2, r3, r4, r5, r6⟩ := b4
    exact ⟨a, b, c, r1, r2, r3, r4, r5, by omega⟩
theorem st8 {n b : Int} {due told sg : D} (hb : b ≠ 0) (hn : n.natAbs < 2 ^ 200) (hb2 : b.natAbs < 2 ^ 200) : ex (CF T (k + 5)) s_26_8 [some g, some M, some one, some other, some due, some told, some sg, some (.int n), some (.int b)] = .ret (.bl true) [some g, some M, some one, some other, some due, some told, some sg, some (.int n), some (.int b)] := by
  have w : ∀ {x : Nat}, x < 2 ^ 200 → x < 2 ^ 3000 := fun h => Nat.lt_of_lt_of_le h (Nat.pow_le_pow_right (by decide) (by decide))
  have a1 := lowest_at (k := k + 3) (n := n) hb (w hb2)
  have a2 := lowest_at (k := k + 3) (n := n) (b := 0 - b) (by omega) (w (by omega))
  have b1 := llowest_at (k := k + 3) (n := n) hb (w hn) (w hb2)
  have b2 := llowest_at (k := k + 3) (n := n) (b := 0 - b) (by omega) (w hn) (w (by omega))
  have d := same2 (k + 2) (ds := [lowD n b, lowD n (0 - b)]) (by simp; exact ⟨deep_low _ _ 0, deep_low _ _ 0⟩) (by simp)
  simp only [Nat.add_assoc, Nat.reduceAdd] at a1 a2 b1 b2 d
  simp only [Int.zero_sub] at a2 b2 d
  simp [s_26_8, ex, ev, evs, getE, callD, argsAt, outsAt, IEs.owns, binD, subD, a1, a2, b1, b2, d, permL, sz_le (n := 2) (by decide)]
theorem pair_at {g : D} (hg : Gn m g) (hm : m < 2 ^ 28) : ∃ g', CF T (k + 6) 26 [g] = .ret (.bl true) [g'] ∧ Gn (m + 5000) g' := by
  obtain ⟨M, g1, a1, a2, a3, a4⟩ := st0 (k := k) hg (by omega)
  obtain ⟨one, other, p, q, r, s, g2, b1, b2, b3, b4, b5, b6⟩ := st1 (k := k) a4 (by omega) (by omega) a3
  have c2 := st2 (k := k) (g := g2) (M := .int M) b2 b4
  have c3 := st3 (k := k) (g := g2) (M := .int M) (due := .lst [lowD (p * s + r * q) (q * s), lowD (p * s - r * q) (q * s), lowD (p * r) (q * s)]) b2 b4
  have c4 := st4 (k := k) (g := g2) (M := .int M) (due := .lst [lowD (p * s + r * q) (q * s), lowD (p * s - r * q) (q * s), lowD (p * r) (q * s)]) (told := .lst [lowD (p * s + r * q) (q * s), lowD (p * s - r * q) (q * s), lowD (p * r) (q * s), lowD (p * s + r * q) (q * s), lowD (p * s - r * q) (q * s), lowD (p * r) (q * s)]) b2 b4 b3 b5
  have c5 := st5 (k := k) (g := g2) (M := .int M) b2 b4 (deep_low (p * s + r * q) (q * s) 0) (deep_low (p * s - r * q) (q * s) 0) (deep_low (p * r) (q * s) 0)
  have c6 := st6 (k := k) (g := g2) (M := .int M) (due := .lst [lowD (p * s + r * q) (q * s), lowD (p * s - r * q) (q * s), lowD (p * r) (q * s)]) (told := .lst [lowD (p * s + r * q) (q * s), lowD (p * s - r * q) (q * s), lowD (p * r) (q * s), lowD (p * s + r * q) (q * s), lowD (p * s - r * q) (q * s), lowD (p * r) (q * s)]) (sg := .int (cmpF p q r s)) b2 b4
  obtain ⟨n, b, g3, d1, d2, d3, d4, d5⟩ := st7 (k := k) (one := one) (other := other) (due := .lst [lowD (p * s + r * q) (q * s), lowD (p * s - r * q) (q * s), lowD (p * r) (q * s)]) (told := .lst [lowD (p * s + r * q) (q * s), lowD (p * s - r * q) (q * s), lowD (p * r) (q * s), lowD (p * s + r * q) (q * s), lowD (p * s - r * q) (q * s), lowD (p * r) (q * s)]) (sg := .int (cmpF p q r s)) b6 (by omega) a2 a3
  have c8 := st8 (k := k) (g := g3) (M := .int M) (one := one) (other := other) (due := .lst [lowD (p * s + r * q) (q * s), lowD (p * s - r * q) (q * s), lowD (p * r) (q * s)]) (told := .lst [lowD (p * s + r * q) (q * s), lowD (p * s - r * q) (q * s), lowD (p * r) (q * s), lowD (p * s + r * q) (q * s), lowD (p * s - r * q) (q * s), lowD (p * r) (q * s)]) (sg := .int (cmpF p q r s)) d2 d3 d4
  refine ⟨g3, ?_, ?_⟩
  · rw [cf_26]
    refine runF_ret (f := f_26) (d := .bl true) (env := [some g3, some (.int M), some one, some other, some (.lst [lowD (p * s + r * q) (q * s), lowD (p * s - r * q) (q * s), lowD (p * r) (q * s)]), some (.lst [lowD (p * s + r * q) (q * s), lowD (p * s - r * q) (q * s), lowD (p * r) (q * s), lowD (p * s + r * q) (q * s), lowD (p * s - r * q) (q * s), lowD (p * r) (q * s)]), some (.int (cmpF p q r s)), some (.int n), some (.int b)]) ?_ rfl rfl rfl
    show exs (CF T (k + 5)) (.cons s_26_0 _) [some g, none, none, none, none, none, none, none, none] = _
    rw [exs_next a1, exs_next b1, exs_next c2, exs_next c3, exs_next c4, exs_next c5, exs_next c6, exs_next d1, exs_ret c8]
  · obtain ⟨a, b, c, r1, r2, r3, r4, r5, r6⟩ := d5
    exact ⟨a, b, c, r1, r2, r3, r4, r5, by omega⟩
end
end LT
namespace LT
open PySem VI
theorem gn_l {m : Nat} {g : D} (h : Gn m g) : isL g = true := by
  obtain ⟨a, b, c, rfl, _⟩ := h
  rfl
theorem inner (k : Nat) {sc ix : D} {o4 o5 o6 : Option D} : ∀ (n : Nat) (lo : Int) (m : Nat) (g : D) (t : Option D), Gn m g → m + 5000 * n < 2 ^ 28 →
    ∃ g' t', forD (.nm 3) (exs (CF T (k + 6)) w_27_0) (rangeD lo n) [some sc, some ix, some g, t, o4, o5, o6] = .next [some sc, some ix, some g', t', o4, o5, o6] ∧ Gn (m + 5000 * n) g'
  | 0, lo, m, g, t, hg, _ => ⟨g, t, by simp [rangeD, forD], hg⟩
  | n + 1, lo, m, g, t, hg, hm => by
    obtain ⟨g1, a1, a2⟩ := pair_at (k := k) hg (by omega)
    obtain ⟨g2, t', b1, b2⟩ := inner k (sc := sc) (ix := ix) (o4 := o4) (o5 := o5) (o6 := o6) n (lo + 1) (m + 5000) g1 (some (.int lo)) a2 (by omega)
    refine ⟨g2, t', ?_, ?_⟩
    · have q : exs (CF T (k + 6)) w_27_0 [some sc, some ix, some g, some (.int lo), o4, o5, o6] = .next [some sc, some ix, some g1, some (.int lo), o4, o5, o6] := by
        simp [w_27_0, exs, ex, ev, evs, evb, getE, callD, argsAt, outsAt, IEs.owns, a1, truD]
      unfold rangeD forD
      simp only [bindT, List.length_cons, List.length_nil]
      show (match exs (CF T (k + 6)) w_27_0 [some sc, some ix, some g, some (.int lo), o4, o5, o6] with
        | .next env2 => forD (.nm 3) (exs (CF T (k + 6)) w_27_0) (rangeD (lo + 1) n) env2
        | .cnt env2 => forD (.nm 3) (exs (CF T (k + 6)) w_27_0) (rangeD (lo + 1) n) env2
        | .brk env2 => .next env2
        | r => r) = _
      rw [q]
      exact b1
    · have e : m + 5000 + 5000 * n = m + 5000 * (n + 1) := by omega
      rw [← e]; exact b2
def vals1 (o t : Int) : List D := [.tup [.int o, .int t], .tup [.int o, .int 1], .tup [.int 0, .int t], .tup [.int 0, .int 1], .tup [.int 0, .int 2], .tup [.int 2, .int 4], .tup [.int 3, .int (-1)], .tup [.int 3, .int 0], .lst [.int 1, .int 2], .tup [.int 1], .tup [.int 1, .int 2, .int 3], .tup [.bl true, .int 1], .tup [.int 1, .bl true], .tup [.str "1", .int 1]]
def vals2 : List D := [.tup [.non, .int 1], .non, .int 0, .str "1/2", .tup [.int 1, .int 2], .tup [.int 5, .int 9], .tup [.int 1, .int (10 ^ 30)]]
theorem both_all (k : Nat) {o t : Int} (h1 : -10 ≤ o) (h2 : o < 20) (h3 : -2 ≤ t) (h4 : t < 10) : ∀ v ∈ vals1 o t ++ vals2, Both k v := by
  intro v hv
  unfold vals1 vals2 at hv
  simp only [List.cons_append, List.nil_append, List.mem_cons, List.not_mem_nil, or_false] at hv
  rcases hv with rfl | rfl | rfl | rfl | rfl | rfl | rfl | rfl | rfl | rfl | rfl | rfl | rfl | rfl | rfl | rfl | rfl | rfl | rfl | rfl | rfl
  · exact both_two k (by omega) (by omega)
  · exact both_two k (by omega) (by decide)
  · exact both_two k (by decide) (by omega)
  · exact both_two k (by decide) (by decide)
  · exact both_two k (by decide) (by decide)
  · exact both_two k (by decide) (by decide)
  · exact both_two k (by decide) (by decide)
  · exact both_two k (by decide) (by decide)
  · exact both_not k kt14
  · exact both_len k (by decide)
  · exact both_len k (by decide)
  · exact both_first k (Ok1.bl true) rfl
  · exact both_second k (Ok1.bl true) rfl
  · exact both_first k (Ok1.str _) rfl
  · exact both_first k Ok1.non rfl
  · exact both_not k kt29
  · exact both_not k kt4
  · exact both_not k kt24
  · exact both_two k (by decide) (by decide)
  · exact both_two k (by decide) (by decide)
  · exact both_two k (by decide) (by decide)
theorem turn (k : Nat) {ns : List Int} {i : Nat} (hl : ns.length ≤ sizeLine) (hi : i < 1000) (o2 o3 o4 o5 o6 : Option D) : ∃ p2 p3 p4 p5 p6, exs (CF T (k + 6)) w_27_7 [some (.scr ns), some (.int i), o2, o3, o4, o5, o6] = .next [some (.scr ns), some (.int i), p2, p3, p4, p5, p6] := by
  obtain ⟨g, a1, a2⟩ := gen_at (k + 4) hl hi
  obtain ⟨g1, t1, b1, b2⟩ := inner k (sc := .scr ns) (ix := .int i) (o4 := o4) (o5 := o5) (o6 := o6) 6 0 _ g o3 a2 (by omega)
  obtain ⟨x1, g2, c1, c2, c3, c4⟩ := rnd_at (k + 4) _ 10 g1 30 b2 (by decide) (by decide) (by decide) (by omega)
  obtain ⟨x2, g3, d1, d2, d3, d4⟩ := rnd_at (k + 4) _ 10 g2 12 c4 (by decide) (by decide) (by decide) (by omega)
  have j := judged_at (k + 2) (both_all (k + 2) (o := x1 - 10) (t := x2 - 2) (by omega) (by omega) (by omega) (by omega))
  simp only [Nat.add_assoc, Nat.reduceAdd] at a1 c1 d1 j
  have s1 : ex (CF T (k + 6)) s_27_1 [some (.scr ns), some (.int i), o2, o3, o4, o5, o6] = .next [some (.scr ns), some (.int i), some g, o3, o4, o5, o6] := by
    simp [s_27_1, ex, ev, evs, getE, callD, argsAt, outsAt, IEs.owns, a1, bindT, gn_l a2]
  have s2 : ex (CF T (k + 6)) s_27_2 [some (.scr ns), some (.int i), some g, o3, o4, o5, o6] = .next [some (.scr ns), some (.int i), some g1, t1, o4, o5, o6] := by
    have r : rngOk 6 = true := by decide
    simp [s_27_2, ex, evi, ev, r, b1]
  have s3 : ex (CF T (k + 6)) s_27_3 [some (.scr ns), some (.int i), some g1, t1, o4, o5, o6] = .next [some (.scr ns), some (.int i), some g3, t1, some (.int (x1 - 10)), some (.int (x2 - 2)), o6] := by
    simp [s_27_3, ex, ev, evs, getE, callD, argsAt, outsAt, IEs.owns, c1, d1, binD, subD]
  have s4 : ex (CF T (k + 6)) s_27_4 [some (.scr ns), some (.int i), some g3, t1, some (.int (x1 - 10)), some (.int (x2 - 2)), o6] = .next [some (.scr ns), some (.int i), some g3, t1, some (.int (x1 - 10)), some (.int (x2 - 2)), some (.lst (vals1 (x1 - 10) (x2 - 2)))] := by
    simp [s_27_4, ex, ev, evs, getE, binD, subD, bindT, vals1, sz_le (n := 1) (by decide), sz_le (n := 2) (by decide), sz_le (n := 3) (by decide), sz_le (n := 14) (by decide)]
  have s5 : ex (CF T (k + 6)) s_27_5 [some (.scr ns), some (.int i), some g3, t1, some (.int (x1 - 10)), some (.int (x2 - 2)), some (.lst (vals1 (x1 - 10) (x2 - 2)))] = .next [some (.scr ns), some (.int i), some g3, t1, some (.int (x1 - 10)), some (.int (x2 - 2)), some (.lst (vals1 (x1 - 10) (x2 - 2) ++ vals2))] := by
    have e : addD (.lst (vals1 (x1 - 10) (x2 - 2))) (.lst vals2) = some (.lst (vals1 (x1 - 10) (x2 - 2) ++ vals2)) := by
      have z : (vals1 (x1 - 10) (x2 - 2)).length + vals2.length ≤ sizeLine := sz_le (n := 21) (by decide)
      show (if (vals1 (x1 - 10) (x2 - 2)).length + vals2.length ≤ sizeLine then some (D.lst (vals1 (x1 - 10) (x2 - 2) ++ vals2)) else none) = _
      rw [if_pos z]
    unfold vals2 at e
    simp [-Int.reducePow, s_27_5, ex, ev, evs, getE, binD, pow_f, bindT, vals2, e, sz_le (n := 2) (by decide), sz_le (n := 7) (by decide)]
  have s6 : ex (CF T (k + 6)) s_27_6 [some (.scr ns), some (.int i), some g3, t1, some (.int (x1 - 10)), some (.int (x2 - 2)), some (.lst (vals1 (x1 - 10) (x2 - 2) ++ vals2))] = .next [some (.scr ns), some (.int i), some g3, t1, some (.int (x1 - 10)), some (.int (x2 - 2)), some (.lst (vals1 (x1 - 10) (x2 - 2) ++ vals2))] := by
    have e0 : ev (CF T (k + 6)) (.lst .nil) [some (.scr ns), some (.int i), some g3, t1, some (.int (x1 - 10)), some (.int (x2 - 2)), some (.lst (vals1 (x1 - 10) (x2 - 2) ++ vals2))] = .ok (.lst []) [some (.scr ns), some (.int i), some g3, t1, some (.int (x1 - 10)), some (.int (x2 - 2)), some (.lst (vals1 (x1 - 10) (x2 - 2) ++ vals2))] := by simp [ev, evs]
    simp [s_27_6, exs, ex, evb, ev, evs, getE, callD, argsAt, outsAt, IEs.owns, j, truD]
  refine ⟨some g3, t1, some (.int (x1 - 10)), some (.int (x2 - 2)), some (.lst (vals1 (x1 - 10) (x2 - 2) ++ vals2)), ?_⟩
  unfold w_27_7
  rw [exs_next s1, exs_next s2, exs_next s3, exs_next s4, exs_next s5, exs_next s6]
  rfl
theorem outer (k : Nat) {ns : List Int} (hl : ns.length ≤ sizeLine) : ∀ (n lo : Nat) (o1 o2 o3 o4 o5 o6 : Option D), lo + n ≤ 1000 → ∃ p1 p2 p3 p4 p5 p6, forD (.nm 1) (exs (CF T (k + 6)) w_27_7) (rangeD lo n) [some (.scr ns), o1, o2, o3, o4, o5, o6] = .next [some (.scr ns), p1, p2, p3, p4, p5, p6]
  | 0, lo, o1, o2, o3, o4, o5, o6, _ => ⟨o1, o2, o3, o4, o5, o6, by simp [rangeD, forD]⟩
  | n + 1, lo, o1, o2, o3, o4, o5, o6, h => by
    obtain ⟨q2, q3, q4, q5, q6, a⟩ := turn k (i := lo) hl (by omega) o2 o3 o4 o5 o6
    obtain ⟨p1, p2, p3, p4, p5, p6, b⟩ := outer k hl n (lo + 1) (some (.int lo)) q2 q3 q4 q5 q6 (by omega)
    refine ⟨p1, p2, p3, p4, p5, p6, ?_⟩
    unfold rangeD forD
    simp only [bindT, List.length_cons, List.length_nil]
    show (match exs (CF T (k + 6)) w_27_7 [some (.scr ns), some (.int lo), o2, o3, o4, o5, o6] with
      | .next env2 => forD (.nm 1) (exs (CF T (k + 6)) w_27_7) (rangeD ((lo : Int) + 1) n) env2
      | .cnt env2 => forD (.nm 1) (exs (CF T (k + 6)) w_27_7) (rangeD ((lo : Int) + 1) n) env2
      | .brk env2 => .next env2
      | r => r) = _
    rw [a]
    exact b
theorem low_a : lowD (1 * 3 + 1 * 2) (2 * 3) = .tup [.int 5, .int 6] := by
  unfold lowD
  rw [show lowC (1 * 3 + 1 * 2) (2 * 3) = 1 from by decide]
  rfl
theorem low_b : lowD (1 * 4) (2 * (-1)) = .tup [.int (-2), .int 1] := by
  unfold lowD
  rw [show lowC (1 * 4) (2 * (-1)) = -2 from by decide]
  rfl
theorem low_c : lowD 6 (-4) = .tup [.int (-3), .int 2] := by
  unfold lowD
  rw [show lowC 6 (-4) = -2 from by decide]
  rfl
theorem law_at (k : Nat) {ns : List Int} (hl : ns.length ≤ sizeLine) : CF T (k + 7) 27 [.scr ns] = .ret (.bl true) [] := by
  obtain ⟨p1, p2, p3, p4, p5, p6, h⟩ := outer k hl 2 0 none none none none none none (by decide)
  rw [show ((0 : Nat) : Int) = 0 from rfl] at h
  have f1 : Fr (.tup [.int 1, .int 2]) 1 2 := ⟨rfl, by decide, by decide, by decide⟩
  have f2 : Fr (.tup [.int 1, .int 3]) 1 3 := ⟨rfl, by decide, by decide, by decide⟩
  have f3 : Fr (.tup [.int (-1), .int 4]) (-1) 4 := ⟨rfl, by decide, by decide, by decide⟩
  have a1 := (both_ints (k + 4) (i := 1) (j := 2) (by decide) (by decide)).1
  rw [show (decide ((1 : Int) ≤ 2) && decide (Int.gcd 1 2 = 1)) = true from by decide] at a1
  have a2 := (plus_at (k + 3) f1 f2).1
  have a3 := (over_at (k + 3) f1 f3 (by decide)).1
  have a4 := lowest_at (k := k + 4) (n := 6) (b := -4) (by decide) (by decide)
  rw [low_a] at a2
  rw [low_b] at a3
  rw [low_c] at a4
  have d := same2 (k + 3) (ds := [.bl true, .tup [.int 5, .int 6], .tup [.int (-2), .int 1], .tup [.int (-3), .int 2]]) (by
    intro d hd
    simp only [List.mem_cons, List.not_mem_nil, or_false] at hd
    have t2 : ∀ a b : Int, Deep 1 (.tup [.int a, .int b]) := fun a b => Deep.tup 0 _ (fun d hd => by
      simp only [List.mem_cons, List.not_mem_nil, or_false] at hd
      rcases hd with rfl | rfl <;> exact Deep.int _ _) (sz_le (n := 2) (by decide))
    rcases hd with rfl | rfl | rfl | rfl
    · exact Deep.bl _ _
    · exact t2 _ _
    · exact t2 _ _
    · exact t2 _ _) (by simp)
  simp only [Nat.add_assoc, Nat.reduceAdd] at a1 a2 a3 a4 d
  have r : rngOk 2 = true := by decide
  rw [cf_27]
  simp [runF, f_27, exs, ex, evi, ev, evs, getE, r, h, callD, argsAt, outsAt, IEs.owns, permL, a1, a2, a3, a4, d, binD, subD, outsOf, sz_le (n := 2) (by decide), sz_le (n := 4) (by decide)]
theorem plain (ns : List Int) (h : ns.length ≤ 63) : CF T 60 27 [.scr ns] = .ret (.bl true) [] := law_at 53 (Nat.le_trans h (sz_le (by decide)))
end LT
namespace LT
open PySem PySem.Spec PyProof.Rows L2 VI
abbrev R : PySem.W.OpenRow := PySem.W.OpenLaw.row PySem.Challenge.rw_joborders_k01_fractions_of_jobs
abbrev hk : PySem.W.Hook := He.hookD 4 (faL X) (X.map (·.d))
def ob (s : PySem.W.SharedT) : He.AlD := He.obsDG 4 (faL X) (X.map (·.d)) (HandSHeadRun.getT s)
theorem ob_eq (s : PySem.W.SharedT) : ob s = hk.obs s.abs := He.obsDG_eq (HandSHeadRun.getT_eq s)
def lo0 : List Str := ["is_whole", "common_of", "is_fraction", "lowest", "plus", "minus", "product", "compared", "over", "_law_hash", "_law_random", "_law_cell", "_law_generator", "_law_pick", "_law_same", "_law_is_whole", "_law_call", "_law_judged", "_law_common", "_law_lowest", "_law_is_fraction", "_law_plus", "_law_minus", "_law_times", "_law_less", "_law_drawn_fraction", "_law_pair_right"]
abbrev lo : List Str := lo0
theorem run (w : World) : HandSHeadRun.RunEq R (PySem.W.view R.prog [29]) hk ob 20000 lo w := by
  intro os
  kernel_rfl
end LT
open PySem PySem.W PySem.Calls PyProof.Rows in
theorem PySem.Challenge.cw_joborders_k01_fractions_of_jobs_holds : PySem.Challenge.rw_joborders_k01_fractions_of_jobs.Holds := by
  w_on; o_law
  refine HandSHeadRun.head_any (r := OpenLaw.row PySem.Challenge.rw_joborders_k01_fractions_of_jobs) (q := view (OpenLaw.row PySem.Challenge.rw_joborders_k01_fractions_of_jobs).prog [29]) (H := LT.hk) (ob := LT.ob) (M := 20000) (loose := LT.lo) (d := (HandSHeadRun.topDef (OpenLaw.row PySem.Challenge.rw_joborders_k01_fractions_of_jobs).prog 29)) (kwd := []) LT.ob_eq
    (by kernel_rfl) (fun s => by kernel_rfl) LT.run (by kernel_rfl) (by kernel_rfl) (by kernel_rfl) (by rfl) (by first | assumption | decide +kernel) (by decide +kernel) ⟨rfl, rfl, rfl, rfl, rfl, by decide +kernel⟩ ?hw ?hc
  case hw => w_witness2
  case hc =>
    refine L2.walk_ofE (l := PySem.Challenge.rw_joborders_k01_fractions_of_jobs) (n := 63) (k := 60) (x := "script") (CX := VI.CXw (PySem.Challenge.rw_joborders_k01_fractions_of_jobs).prog) rfl (by decide) (by kernel_rfl) ⟨rfl, by decide, by decide⟩ ?F VI.cx_none
    intro w mg fa h Y G hmg0
    obtain ⟨K, KX, c⟩ := Y
    have hmg : mg ("law" : PySem.Str) = some (.ref fa) := by
      have e : (HandSHeadRun.topDef (OpenLaw.row PySem.Challenge.rw_joborders_k01_fractions_of_jobs).prog 29).name = ("law" : PySem.Str) := by kernel_rfl
      rw [← e]
      exact hmg0
    exact VI.law_facts (g := 27) (x := LT.X[27]) KX G c LT.hT LT.hs LT.hb LT.hd LT.hkb rfl hmg (by decide) rfl rfl rfl rfl fun ns hl => LT.plain ns hl
